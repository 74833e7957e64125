/-
  Part of the proofs over this seat: what each function of the program computes, function by function (the text is written by a program of this hand-in's own).
  Conditions: each theorem states its own.
-/
import Derived.Test.YtbopieehnmljkaaGreatDoorPfWalks3
namespace Go.Proofs.YtbopieehnmljkaaGreatDoor
open Go.PF
set_option maxRecDepth 100000
set_option linter.unusedSimpArgs false
set_option linter.unusedVariables false

set_option maxHeartbeats 8000000 in
theorem iLineFrom (s:List UInt8) (w:World) (hs_n:s.length≤2147483648) (hMl:VarP Tryz.prog w [] "internal/bytealg.MaxLen" isI64) (hGp:VarP Tryz.prog w [] "internal/strconv.uint64pow10" isPow) (hEr:VarP Tryz.prog w [] "strconv.ErrRange" isIfc) (hEs:VarP Tryz.prog w [] "strconv.ErrSyntax" isIfc):Does Tryz.prog 129 [Str s] w (fun v w'=>∃ Aqar:Option Addr,∃ cqar:Nat,∃ Aqbr:Option Addr,∃ cqbr:Nat,∃ ka:Int,∃ qa:List Int,∃ na:List UInt8,∃ pa:Int,∃ kb:Int,∃ qb:List Int,∃ nb:List UInt8,∃ pb:Int,v=.tuple #[.agg #[.int .i64 ka,.slice Aqar qa.length cqar,Str na,.int .i64 pa,.int .i64 kb,.slice Aqbr qb.length cqbr,Str nb,.int .i64 pb],.int .i64 ((lineZ s).1),.bool ((lineZ s).2)]∧SH w w' [] [.own Aqar qa.length cqar 3 1 (qa.map I),.own Aqbr qb.length cqbr 3 1 (qb.map I)]):=by
 refine fE (N:=76) Tryz.func129 r0 (by kernel_rfl) r0 ?_
 have hs0:=SH.refl w []
 refine sr (al (cs:=Z5) hs0 tz112 r0 trivial r0 (fun b1 w1 hs1=>?_))
 refine tA (I 0) r0 (tA Z6 r0 (nx (tm (Str s) r0 (cS hs1 r0 (stCut2 _ [13,10] _ (by omega) (by(simp; done)) (hMl.up0 hs1)) (fun w2 hs2=>?_)))))
 refine tm (.tuple #[Str ((Lib.cut s [13,10]).1),Str ((Lib.cut s [13,10]).2.1),.bool ((Lib.cut s [13,10]).2.2)]) r0 (qt r0 (xt 0 r0 r0) (qt r0 (xt 1 r0 r0) (qt r0 (xt 2 r0 r0) (tA (Str ((Lib.cut s [13,10]).1)) r0 ?_))))
 have e1:(Lib.cut s [13,10]).1=cutCR s:=by exact cutCR_eq s
 refine re 5 (v:=Str (cutCR s)) (congrArg Str e1) (tA (Str ((Lib.cut s [13,10]).2.1)) r0 (tA (.bool ((Lib.cut s [13,10]).2.2)) r0 (nx (tm (Str (cutCR s)) r0 ?_))))
 have hlf:=lineG_f s
 have w2:=hlf.2.1 2
 have w3:=hlf.2.1 3
 have w4:=hlf.2.1 4
 have w5:=hlf.2.1 5
 refine cS2 hs2 r0 (stSplit _ 32 _ (by((try simp only[List.length_append,List.length_cons,List.length_nil]); omega))) (fun A1 c1 w3 hs3=>?_)
 refine tA (.slice A1 ((splitB 32 (cutCR s)).length) c1) r0 (nn (sq (sr (tm (.slice A1 ((splitB 32 (cutCR s)).length) c1) r0 (qt r0 (lnA sl51 r0) (qt r0 (nei r0 r0) (nn (cdd r0 (fun h1=>?_) (fun h1=>?_)))))))))
 ·refine sr (qt r0 (bdv (v:=.agg #[I 0,ns,Str [],I 0,I 0,ns,Str [],I 0]) [] r0 (fun _=>by kernel_rfl)) (sG Z5 hs3 0 r0 ag112 (fun w4 hs4=>?_)))
  refine tA (I 0) r0 (tA Z6 r0 (nn (rt (tR (fret (resC hs4 1 r0 r0 ag112 r0 (.tmp (.tmp .nil))) r0 ?_)))))
  have hs5:=hs4.nl [Z0] r0
  have hs6:=hs5.nl [Z0] r0
  have e2:lineZ s=(0,false):=by exact lineZ_in (.inl (by omega))
  rw[e2]
  exact⟨none,0,none,0,0,([]:List Int),[],0,0,([]:List Int),[],0,rfl,(hs6.pk [2,3] r0)⟩
 refine sk (nN (sq ?_))
 obtain ⟨b2,rfl⟩:=own_form hs3 1 r0 (by omega)
 refine raJ (fun w'=>∃ L,SH w w' [] L∧(.blk b1 112 Z5)∈L∧(.own (Z8 b2) ((splitB 32 (cutCR s)).length) c1 9 1 ((splitB 32 (cutCR s)).map Str))∈L∧True) (fun f w'=>∃ (Aq8':Option Addr) (cq8' b12':Nat),Hz f [(0,Str s),(2,pB b1),(8,sb b2 ((splitB 32 (cutCR s)).length) c1),(9,pB b12'),(10,.bool ((addrFrom ((((splitB 32 (cutCR s)).getD 2 [])++[58])++((splitB 32 (cutCR s)).getD 4 []))).2))]∧SH w w' [] [.blk b1 112 Z5,.own (Z8 b2) ((splitB 32 (cutCR s)).length) c1 9 1 ((splitB 32 (cutCR s)).map Str),.blk b12' 54 [I ((addrFrom ((((splitB 32 (cutCR s)).getD 2 [])++[58])++((splitB 32 (cutCR s)).getD 4 []))).1.1),.slice Aq8' (((addrFrom ((((splitB 32 (cutCR s)).getD 2 [])++[58])++((splitB 32 (cutCR s)).getD 4 []))).1.2.1).length) cq8',Str ((addrFrom ((((splitB 32 (cutCR s)).getD 2 [])++[58])++((splitB 32 (cutCR s)).getD 4 []))).1.2.2.1),I ((addrFrom ((((splitB 32 (cutCR s)).getD 2 [])++[58])++((splitB 32 (cutCR s)).getD 4 []))).1.2.2.2)],.own Aq8' (((addrFrom ((((splitB 32 (cutCR s)).getD 2 [])++[58])++((splitB 32 (cutCR s)).getD 4 []))).1.2.1).length) cq8' 3 1 (((addrFrom ((((splitB 32 (cutCR s)).getD 2 [])++[58])++((splitB 32 (cutCR s)).getD 4 []))).1.2.1).map I)]) mixed ?_ ?_
 ·refine dG 2 15 8191 (fun f w'=>∃ (Aq8':Option Addr) (cq8' b12':Nat),Hz f [(0,Str s),(2,pB b1),(8,sb b2 ((splitB 32 (cutCR s)).length) c1),(9,pB b12'),(37,.agg #[I ((addrFrom ((((splitB 32 (cutCR s)).getD 2 [])++[58])++((splitB 32 (cutCR s)).getD 4 []))).1.1),.slice Aq8' (((addrFrom ((((splitB 32 (cutCR s)).getD 2 [])++[58])++((splitB 32 (cutCR s)).getD 4 []))).1.2.1).length) cq8',Str ((addrFrom ((((splitB 32 (cutCR s)).getD 2 [])++[58])++((splitB 32 (cutCR s)).getD 4 []))).1.2.2.1),I ((addrFrom ((((splitB 32 (cutCR s)).getD 2 [])++[58])++((splitB 32 (cutCR s)).getD 4 []))).1.2.2.2)]),(38,.bool ((addrFrom ((((splitB 32 (cutCR s)).getD 2 [])++[58])++((splitB 32 (cutCR s)).getD 4 []))).2))]∧SH w w' [] [.blk b1 112 Z5,.own (Z8 b2) ((splitB 32 (cutCR s)).length) c1 9 1 ((splitB 32 (cutCR s)).map Str),.blk b12' 54 Z17,.own Aq8' (((addrFrom ((((splitB 32 (cutCR s)).getD 2 [])++[58])++((splitB 32 (cutCR s)).getD 4 []))).1.2.1).length) cq8' 3 1 (((addrFrom ((((splitB 32 (cutCR s)).getD 2 [])++[58])++((splitB 32 (cutCR s)).getD 4 []))).1.2.1).map I)]) ?_ (fun D_5_0=>?_)
  ·rintro f w5 ⟨Aq8',cq8',b12',⟨g1,rfl⟩,hs7⟩
   refine aO 13 r0 (sG [I ((addrFrom ((((splitB 32 (cutCR s)).getD 2 [])++[58])++((splitB 32 (cutCR s)).getD 4 []))).1.1),.slice Aq8' (((addrFrom ((((splitB 32 (cutCR s)).getD 2 [])++[58])++((splitB 32 (cutCR s)).getD 4 []))).1.2.1).length) cq8',Str ((addrFrom ((((splitB 32 (cutCR s)).getD 2 [])++[58])++((splitB 32 (cutCR s)).getD 4 []))).1.2.2.1),I ((addrFrom ((((splitB 32 (cutCR s)).getD 2 [])++[58])++((splitB 32 (cutCR s)).getD 4 []))).1.2.2.2)] hs7 2 r0 ag54 (fun w6 hs8=>?_))
   refine nk ⟨_,hs8,memi 0 r0,memi 1 r0,trivial⟩ (tk (fuel:=0) (is:=[14]) (.cons r0 (.nil)) (by kernel_rfl) (by kernel_rfl) ⟨_,hs8,memi 0 r0,memi 1 r0,trivial⟩ (yA r0 (asg (v:=.bool ((addrFrom ((((splitB 32 (cutCR s)).getD 2 [])++[58])++((splitB 32 (cutCR s)).getD 4 []))).2)) r0) (.nil (ad (by kernel_rfl) ?_))))
   exact⟨Aq8',cq8',b12',(zR r0),(hs8.pk [0,1,3,2] r0)⟩
  refine dG 3 15 4095 (fun f w'=>∃ (Aq8':Option Addr) (cq8':Nat),Hz f [(0,Str s),(2,pB b1),(8,sb b2 ((splitB 32 (cutCR s)).length) c1),(37,.agg #[I ((addrFrom ((((splitB 32 (cutCR s)).getD 2 [])++[58])++((splitB 32 (cutCR s)).getD 4 []))).1.1),.slice Aq8' (((addrFrom ((((splitB 32 (cutCR s)).getD 2 [])++[58])++((splitB 32 (cutCR s)).getD 4 []))).1.2.1).length) cq8',Str ((addrFrom ((((splitB 32 (cutCR s)).getD 2 [])++[58])++((splitB 32 (cutCR s)).getD 4 []))).1.2.2.1),I ((addrFrom ((((splitB 32 (cutCR s)).getD 2 [])++[58])++((splitB 32 (cutCR s)).getD 4 []))).1.2.2.2)]),(38,.bool ((addrFrom ((((splitB 32 (cutCR s)).getD 2 [])++[58])++((splitB 32 (cutCR s)).getD 4 []))).2))]∧SH w w' [] [.blk b1 112 Z5,.own (Z8 b2) ((splitB 32 (cutCR s)).length) c1 9 1 ((splitB 32 (cutCR s)).map Str),.own Aq8' (((addrFrom ((((splitB 32 (cutCR s)).getD 2 [])++[58])++((splitB 32 (cutCR s)).getD 4 []))).1.2.1).length) cq8' 3 1 (((addrFrom ((((splitB 32 (cutCR s)).getD 2 [])++[58])++((splitB 32 (cutCR s)).getD 4 []))).1.2.1).map I)]) ?_ (fun D_5_1=>?_)
  ·rintro f w7 ⟨Aq8',cq8',⟨g2,rfl⟩,hs9⟩
   refine aO 12 r0 (al (cs:=Z17) hs9 tz54 r0 trivial r0 (fun b12' w8 hs10=>?_))
   exact nk ⟨_,hs10,memi 0 r0,memi 1 r0,trivial⟩ (alc D_5_0 ⟨Aq8',cq8',b12',(zR r0),(hs10.pk [0,1,3,2] r0)⟩)
  refine dG 6 15 4351 (fun f w'=>∃ (b12':Nat),Hz f [(0,Str s),(2,pB b1),(8,sb b2 ((splitB 32 (cutCR s)).length) c1),(9,pB b12'),(35,Str ((((splitB 32 (cutCR s)).getD 2 [])++[58])++((splitB 32 (cutCR s)).getD 4 [])))]∧SH w w' [] [.blk b1 112 Z5,.own (Z8 b2) ((splitB 32 (cutCR s)).length) c1 9 1 ((splitB 32 (cutCR s)).map Str),.blk b12' 54 Z17]) ?_ (fun D_5_2=>?_)
  ·rintro f w9 ⟨b12',⟨g3,rfl⟩,hs11⟩
   refine aO 8 r0 (cL r0 (iAddressFrom _ _ (by((try simp only[List.length_append,List.length_cons,List.length_nil]); omega)) (hGp.up0 hs11) (hEr.up0 hs11) (hEs.up0 hs11)) ?_)
   rintro _ w10 ⟨Aq8',cq8',rfl,hs12⟩
   replace hs12:=hs11.call0 hs12
   exact nk ⟨_,hs12,memi 0 r0,memi 1 r0,trivial⟩ (tk (fuel:=2) (is:=[9,10,11]) (.cons r0 (.cons r0 (.cons r0 (.nil)))) (by kernel_rfl) (by kernel_rfl) ⟨_,hs12,memi 0 r0,memi 1 r0,trivial⟩ (yA r0 (mv (v:=.tuple #[.agg #[I ((addrFrom ((((splitB 32 (cutCR s)).getD 2 [])++[58])++((splitB 32 (cutCR s)).getD 4 []))).1.1),.slice Aq8' (((addrFrom ((((splitB 32 (cutCR s)).getD 2 [])++[58])++((splitB 32 (cutCR s)).getD 4 []))).1.2.1).length) cq8',Str ((addrFrom ((((splitB 32 (cutCR s)).getD 2 [])++[58])++((splitB 32 (cutCR s)).getD 4 []))).1.2.2.1),I ((addrFrom ((((splitB 32 (cutCR s)).getD 2 [])++[58])++((splitB 32 (cutCR s)).getD 4 []))).1.2.2.2)],.bool ((addrFrom ((((splitB 32 (cutCR s)).getD 2 [])++[58])++((splitB 32 (cutCR s)).getD 4 []))).2)]) r0) (yA r0 (xt 0 r0 r0) (yA r0 (xt 1 r0 r0) (.nil (alc D_5_0 ⟨Aq8',cq8',b12',(zR r0),hs12⟩))))))
  refine dG 7 15 255 (fun f w'=>Hz f [(0,Str s),(2,pB b1),(8,sb b2 ((splitB 32 (cutCR s)).length) c1),(35,Str ((((splitB 32 (cutCR s)).getD 2 [])++[58])++((splitB 32 (cutCR s)).getD 4 [])))]∧SH w w' [] [.blk b1 112 Z5,.own (Z8 b2) ((splitB 32 (cutCR s)).length) c1 9 1 ((splitB 32 (cutCR s)).map Str)]) ?_ (fun D_5_3=>?_)
  ·rintro f w11 ⟨⟨g4,rfl⟩,hs13⟩
   refine aaL [8,12] (fa_cons ?_ (fa_one ?_))
   ·refine one_ r0 (cL r0 (iAddressFrom _ _ (by((try simp only[List.length_append,List.length_cons,List.length_nil]); omega)) (hGp.up0 hs13) (hEr.up0 hs13) (hEs.up0 hs13)) ?_)
    rintro _ w12 ⟨Aq8',cq8',rfl,hs14⟩
    replace hs14:=hs13.call0 hs14
    exact nk ⟨_,hs14,memi 0 r0,memi 1 r0,trivial⟩ (tk (fuel:=3) (is:=[9,10,11]) (.cons r0 (.cons r0 (.cons r0 (.nil)))) (by kernel_rfl) (by kernel_rfl) ⟨_,hs14,memi 0 r0,memi 1 r0,trivial⟩ (yA r0 (mv (v:=.tuple #[.agg #[I ((addrFrom ((((splitB 32 (cutCR s)).getD 2 [])++[58])++((splitB 32 (cutCR s)).getD 4 []))).1.1),.slice Aq8' (((addrFrom ((((splitB 32 (cutCR s)).getD 2 [])++[58])++((splitB 32 (cutCR s)).getD 4 []))).1.2.1).length) cq8',Str ((addrFrom ((((splitB 32 (cutCR s)).getD 2 [])++[58])++((splitB 32 (cutCR s)).getD 4 []))).1.2.2.1),I ((addrFrom ((((splitB 32 (cutCR s)).getD 2 [])++[58])++((splitB 32 (cutCR s)).getD 4 []))).1.2.2.2)],.bool ((addrFrom ((((splitB 32 (cutCR s)).getD 2 [])++[58])++((splitB 32 (cutCR s)).getD 4 []))).2)]) r0) (yA r0 (xt 0 r0 r0) (yA r0 (xt 1 r0 r0) (.nil (alc D_5_1 ⟨Aq8',cq8',(zR r0),hs14⟩))))))
   refine one_ r0 (al (cs:=Z17) hs13 tz54 r0 trivial r0 (fun b12' w13 hs15=>?_))
   exact nk ⟨_,hs15,memi 0 r0,memi 1 r0,trivial⟩ (alc D_5_2 ⟨b12',(zR r0),hs15⟩)
  have hs16:=hs3.drew
  exact tk (fuel:=7) (is:=[0,1,2,3,4,5,6,7]) (.cons r0 (.cons r0 (.cons r0 (.cons r0 (.cons r0 (.cons r0 (.cons r0 (.cons r0 (.nil))))))))) (by kernel_rfl) (by kernel_rfl) ⟨_,hs16,memi 0 r0,memi 1 r0,trivial⟩ (yA r0 (mv (v:=sb b2 ((splitB 32 (cutCR s)).length) c1) r0) (yA r0 (ixo 2 sl51 r0 r0 (by omega)) (yB r0 (fun ⟨Lq,hsq,mh0,mh1,_⟩=>ldo1m (g:=Str) (ys:=splitB 32 (cutCR s)) (o:=2) [] hsq mh1 r0 (by omega) one9) (yA r0 (cat r0 r0 (by((try simp only[List.length_append,List.length_cons,List.length_nil]); omega))) (yA r0 (mv (v:=sb b2 ((splitB 32 (cutCR s)).length) c1) r0) (yA r0 (ixo 4 sl51 r0 r0 (by omega)) (yB r0 (fun ⟨Lq,hsq,mh0,mh1,_⟩=>ldo1m (g:=Str) (ys:=splitB 32 (cutCR s)) (o:=4) [] hsq mh1 r0 (by omega) one9) (yA r0 (cat r0 r0 (by((try simp only[List.length_append,List.length_cons,List.length_nil]); omega))) (.nil (alc D_5_3 ⟨(zR r0),hs16⟩))))))))))
 rintro f w14 ⟨Aq8',cq8',b12',⟨g5,rfl⟩,hs17⟩
 refine nN (sq ?_)
 refine raJ (fun w'=>∃ L,SH w w' [] L∧(.blk b1 112 Z5)∈L∧(.own (Z8 b2) ((splitB 32 (cutCR s)).length) c1 9 1 ((splitB 32 (cutCR s)).map Str))∈L∧(.blk b12' 54 [I ((addrFrom ((((splitB 32 (cutCR s)).getD 2 [])++[58])++((splitB 32 (cutCR s)).getD 4 []))).1.1),.slice Aq8' (((addrFrom ((((splitB 32 (cutCR s)).getD 2 [])++[58])++((splitB 32 (cutCR s)).getD 4 []))).1.2.1).length) cq8',Str ((addrFrom ((((splitB 32 (cutCR s)).getD 2 [])++[58])++((splitB 32 (cutCR s)).getD 4 []))).1.2.2.1),I ((addrFrom ((((splitB 32 (cutCR s)).getD 2 [])++[58])++((splitB 32 (cutCR s)).getD 4 []))).1.2.2.2)])∈L∧True) (fun f w'=>∃ (Aq8'':Option Addr) (cq8'' b12'':Nat),Hz f [(0,Str s),(2,pB b1),(9,pB b12'),(10,.bool ((addrFrom ((((splitB 32 (cutCR s)).getD 2 [])++[58])++((splitB 32 (cutCR s)).getD 4 []))).2)),(11,pB b12''),(12,.bool ((addrFrom ((((splitB 32 (cutCR s)).getD 3 [])++[58])++((splitB 32 (cutCR s)).getD 5 []))).2))]∧SH w w' [] [.blk b1 112 Z5,.own (Z8 b2) ((splitB 32 (cutCR s)).length) c1 9 1 ((splitB 32 (cutCR s)).map Str),.blk b12' 54 [I ((addrFrom ((((splitB 32 (cutCR s)).getD 2 [])++[58])++((splitB 32 (cutCR s)).getD 4 []))).1.1),.slice Aq8' (((addrFrom ((((splitB 32 (cutCR s)).getD 2 [])++[58])++((splitB 32 (cutCR s)).getD 4 []))).1.2.1).length) cq8',Str ((addrFrom ((((splitB 32 (cutCR s)).getD 2 [])++[58])++((splitB 32 (cutCR s)).getD 4 []))).1.2.2.1),I ((addrFrom ((((splitB 32 (cutCR s)).getD 2 [])++[58])++((splitB 32 (cutCR s)).getD 4 []))).1.2.2.2)],.own Aq8' (((addrFrom ((((splitB 32 (cutCR s)).getD 2 [])++[58])++((splitB 32 (cutCR s)).getD 4 []))).1.2.1).length) cq8' 3 1 (((addrFrom ((((splitB 32 (cutCR s)).getD 2 [])++[58])++((splitB 32 (cutCR s)).getD 4 []))).1.2.1).map I),.blk b12'' 54 [I ((addrFrom ((((splitB 32 (cutCR s)).getD 3 [])++[58])++((splitB 32 (cutCR s)).getD 5 []))).1.1),.slice Aq8'' (((addrFrom ((((splitB 32 (cutCR s)).getD 3 [])++[58])++((splitB 32 (cutCR s)).getD 5 []))).1.2.1).length) cq8'',Str ((addrFrom ((((splitB 32 (cutCR s)).getD 3 [])++[58])++((splitB 32 (cutCR s)).getD 5 []))).1.2.2.1),I ((addrFrom ((((splitB 32 (cutCR s)).getD 3 [])++[58])++((splitB 32 (cutCR s)).getD 5 []))).1.2.2.2)],.own Aq8'' (((addrFrom ((((splitB 32 (cutCR s)).getD 3 [])++[58])++((splitB 32 (cutCR s)).getD 5 []))).1.2.1).length) cq8'' 3 1 (((addrFrom ((((splitB 32 (cutCR s)).getD 3 [])++[58])++((splitB 32 (cutCR s)).getD 5 []))).1.2.1).map I)]) mixed ?_ ?_
 ·refine dG 2 15 8191 (fun f w'=>∃ (Aq8'':Option Addr) (cq8'' b12'':Nat),Hz f [(0,Str s),(2,pB b1),(9,pB b12'),(10,.bool ((addrFrom ((((splitB 32 (cutCR s)).getD 2 [])++[58])++((splitB 32 (cutCR s)).getD 4 []))).2)),(11,pB b12''),(49,.agg #[I ((addrFrom ((((splitB 32 (cutCR s)).getD 3 [])++[58])++((splitB 32 (cutCR s)).getD 5 []))).1.1),.slice Aq8'' (((addrFrom ((((splitB 32 (cutCR s)).getD 3 [])++[58])++((splitB 32 (cutCR s)).getD 5 []))).1.2.1).length) cq8'',Str ((addrFrom ((((splitB 32 (cutCR s)).getD 3 [])++[58])++((splitB 32 (cutCR s)).getD 5 []))).1.2.2.1),I ((addrFrom ((((splitB 32 (cutCR s)).getD 3 [])++[58])++((splitB 32 (cutCR s)).getD 5 []))).1.2.2.2)]),(50,.bool ((addrFrom ((((splitB 32 (cutCR s)).getD 3 [])++[58])++((splitB 32 (cutCR s)).getD 5 []))).2))]∧SH w w' [] [.blk b1 112 Z5,.own (Z8 b2) ((splitB 32 (cutCR s)).length) c1 9 1 ((splitB 32 (cutCR s)).map Str),.blk b12' 54 [I ((addrFrom ((((splitB 32 (cutCR s)).getD 2 [])++[58])++((splitB 32 (cutCR s)).getD 4 []))).1.1),.slice Aq8' (((addrFrom ((((splitB 32 (cutCR s)).getD 2 [])++[58])++((splitB 32 (cutCR s)).getD 4 []))).1.2.1).length) cq8',Str ((addrFrom ((((splitB 32 (cutCR s)).getD 2 [])++[58])++((splitB 32 (cutCR s)).getD 4 []))).1.2.2.1),I ((addrFrom ((((splitB 32 (cutCR s)).getD 2 [])++[58])++((splitB 32 (cutCR s)).getD 4 []))).1.2.2.2)],.own Aq8' (((addrFrom ((((splitB 32 (cutCR s)).getD 2 [])++[58])++((splitB 32 (cutCR s)).getD 4 []))).1.2.1).length) cq8' 3 1 (((addrFrom ((((splitB 32 (cutCR s)).getD 2 [])++[58])++((splitB 32 (cutCR s)).getD 4 []))).1.2.1).map I),.blk b12'' 54 Z17,.own Aq8'' (((addrFrom ((((splitB 32 (cutCR s)).getD 3 [])++[58])++((splitB 32 (cutCR s)).getD 5 []))).1.2.1).length) cq8'' 3 1 (((addrFrom ((((splitB 32 (cutCR s)).getD 3 [])++[58])++((splitB 32 (cutCR s)).getD 5 []))).1.2.1).map I)]) ?_ (fun D_6_0=>?_)
  ·rintro f w15 ⟨Aq8'',cq8'',b12'',⟨g6,rfl⟩,hs18⟩
   refine aO 13 r0 (sG [I ((addrFrom ((((splitB 32 (cutCR s)).getD 3 [])++[58])++((splitB 32 (cutCR s)).getD 5 []))).1.1),.slice Aq8'' (((addrFrom ((((splitB 32 (cutCR s)).getD 3 [])++[58])++((splitB 32 (cutCR s)).getD 5 []))).1.2.1).length) cq8'',Str ((addrFrom ((((splitB 32 (cutCR s)).getD 3 [])++[58])++((splitB 32 (cutCR s)).getD 5 []))).1.2.2.1),I ((addrFrom ((((splitB 32 (cutCR s)).getD 3 [])++[58])++((splitB 32 (cutCR s)).getD 5 []))).1.2.2.2)] hs18 4 r0 ag54 (fun w16 hs19=>?_))
   refine nk ⟨_,hs19,memi 0 r0,memi 1 r0,memi 2 r0,trivial⟩ (tk (fuel:=0) (is:=[14]) (.cons r0 (.nil)) (by kernel_rfl) (by kernel_rfl) ⟨_,hs19,memi 0 r0,memi 1 r0,memi 2 r0,trivial⟩ (yA r0 (asg (v:=.bool ((addrFrom ((((splitB 32 (cutCR s)).getD 3 [])++[58])++((splitB 32 (cutCR s)).getD 5 []))).2)) r0) (.nil (ad (by kernel_rfl) ?_))))
   exact⟨Aq8'',cq8'',b12'',(zR r0),(hs19.pk [0,1,2,3,5,4] r0)⟩
  refine dG 3 15 4095 (fun f w'=>∃ (Aq8'':Option Addr) (cq8'':Nat),Hz f [(0,Str s),(2,pB b1),(9,pB b12'),(10,.bool ((addrFrom ((((splitB 32 (cutCR s)).getD 2 [])++[58])++((splitB 32 (cutCR s)).getD 4 []))).2)),(49,.agg #[I ((addrFrom ((((splitB 32 (cutCR s)).getD 3 [])++[58])++((splitB 32 (cutCR s)).getD 5 []))).1.1),.slice Aq8'' (((addrFrom ((((splitB 32 (cutCR s)).getD 3 [])++[58])++((splitB 32 (cutCR s)).getD 5 []))).1.2.1).length) cq8'',Str ((addrFrom ((((splitB 32 (cutCR s)).getD 3 [])++[58])++((splitB 32 (cutCR s)).getD 5 []))).1.2.2.1),I ((addrFrom ((((splitB 32 (cutCR s)).getD 3 [])++[58])++((splitB 32 (cutCR s)).getD 5 []))).1.2.2.2)]),(50,.bool ((addrFrom ((((splitB 32 (cutCR s)).getD 3 [])++[58])++((splitB 32 (cutCR s)).getD 5 []))).2))]∧SH w w' [] [.blk b1 112 Z5,.own (Z8 b2) ((splitB 32 (cutCR s)).length) c1 9 1 ((splitB 32 (cutCR s)).map Str),.blk b12' 54 [I ((addrFrom ((((splitB 32 (cutCR s)).getD 2 [])++[58])++((splitB 32 (cutCR s)).getD 4 []))).1.1),.slice Aq8' (((addrFrom ((((splitB 32 (cutCR s)).getD 2 [])++[58])++((splitB 32 (cutCR s)).getD 4 []))).1.2.1).length) cq8',Str ((addrFrom ((((splitB 32 (cutCR s)).getD 2 [])++[58])++((splitB 32 (cutCR s)).getD 4 []))).1.2.2.1),I ((addrFrom ((((splitB 32 (cutCR s)).getD 2 [])++[58])++((splitB 32 (cutCR s)).getD 4 []))).1.2.2.2)],.own Aq8' (((addrFrom ((((splitB 32 (cutCR s)).getD 2 [])++[58])++((splitB 32 (cutCR s)).getD 4 []))).1.2.1).length) cq8' 3 1 (((addrFrom ((((splitB 32 (cutCR s)).getD 2 [])++[58])++((splitB 32 (cutCR s)).getD 4 []))).1.2.1).map I),.own Aq8'' (((addrFrom ((((splitB 32 (cutCR s)).getD 3 [])++[58])++((splitB 32 (cutCR s)).getD 5 []))).1.2.1).length) cq8'' 3 1 (((addrFrom ((((splitB 32 (cutCR s)).getD 3 [])++[58])++((splitB 32 (cutCR s)).getD 5 []))).1.2.1).map I)]) ?_ (fun D_6_1=>?_)
  ·rintro f w17 ⟨Aq8'',cq8'',⟨g7,rfl⟩,hs20⟩
   refine aO 12 r0 (al (cs:=Z17) hs20 tz54 r0 trivial r0 (fun b12'' w18 hs21=>?_))
   exact nk ⟨_,hs21,memi 0 r0,memi 1 r0,memi 2 r0,trivial⟩ (alc D_6_0 ⟨Aq8'',cq8'',b12'',(zR r0),(hs21.pk [0,1,2,3,5,4] r0)⟩)
  refine dG 6 15 4351 (fun f w'=>∃ (b12'':Nat),Hz f [(0,Str s),(2,pB b1),(9,pB b12'),(10,.bool ((addrFrom ((((splitB 32 (cutCR s)).getD 2 [])++[58])++((splitB 32 (cutCR s)).getD 4 []))).2)),(11,pB b12''),(47,Str ((((splitB 32 (cutCR s)).getD 3 [])++[58])++((splitB 32 (cutCR s)).getD 5 [])))]∧SH w w' [] [.blk b1 112 Z5,.own (Z8 b2) ((splitB 32 (cutCR s)).length) c1 9 1 ((splitB 32 (cutCR s)).map Str),.blk b12' 54 [I ((addrFrom ((((splitB 32 (cutCR s)).getD 2 [])++[58])++((splitB 32 (cutCR s)).getD 4 []))).1.1),.slice Aq8' (((addrFrom ((((splitB 32 (cutCR s)).getD 2 [])++[58])++((splitB 32 (cutCR s)).getD 4 []))).1.2.1).length) cq8',Str ((addrFrom ((((splitB 32 (cutCR s)).getD 2 [])++[58])++((splitB 32 (cutCR s)).getD 4 []))).1.2.2.1),I ((addrFrom ((((splitB 32 (cutCR s)).getD 2 [])++[58])++((splitB 32 (cutCR s)).getD 4 []))).1.2.2.2)],.own Aq8' (((addrFrom ((((splitB 32 (cutCR s)).getD 2 [])++[58])++((splitB 32 (cutCR s)).getD 4 []))).1.2.1).length) cq8' 3 1 (((addrFrom ((((splitB 32 (cutCR s)).getD 2 [])++[58])++((splitB 32 (cutCR s)).getD 4 []))).1.2.1).map I),.blk b12'' 54 Z17]) ?_ (fun D_6_2=>?_)
  ·rintro f w19 ⟨b12'',⟨g8,rfl⟩,hs22⟩
   refine aO 8 r0 (cL r0 (iAddressFrom _ _ (by((try simp only[List.length_append,List.length_cons,List.length_nil]); omega)) (hGp.up0 hs22) (hEr.up0 hs22) (hEs.up0 hs22)) ?_)
   rintro _ w20 ⟨Aq8'',cq8'',rfl,hs23⟩
   replace hs23:=hs22.call0 hs23
   exact nk ⟨_,hs23,memi 0 r0,memi 1 r0,memi 2 r0,trivial⟩ (tk (fuel:=2) (is:=[9,10,11]) (.cons r0 (.cons r0 (.cons r0 (.nil)))) (by kernel_rfl) (by kernel_rfl) ⟨_,hs23,memi 0 r0,memi 1 r0,memi 2 r0,trivial⟩ (yA r0 (mv (v:=.tuple #[.agg #[I ((addrFrom ((((splitB 32 (cutCR s)).getD 3 [])++[58])++((splitB 32 (cutCR s)).getD 5 []))).1.1),.slice Aq8'' (((addrFrom ((((splitB 32 (cutCR s)).getD 3 [])++[58])++((splitB 32 (cutCR s)).getD 5 []))).1.2.1).length) cq8'',Str ((addrFrom ((((splitB 32 (cutCR s)).getD 3 [])++[58])++((splitB 32 (cutCR s)).getD 5 []))).1.2.2.1),I ((addrFrom ((((splitB 32 (cutCR s)).getD 3 [])++[58])++((splitB 32 (cutCR s)).getD 5 []))).1.2.2.2)],.bool ((addrFrom ((((splitB 32 (cutCR s)).getD 3 [])++[58])++((splitB 32 (cutCR s)).getD 5 []))).2)]) r0) (yA r0 (xt 0 r0 r0) (yA r0 (xt 1 r0 r0) (.nil (alc D_6_0 ⟨Aq8'',cq8'',b12'',(zR r0),hs23⟩))))))
  refine dG 7 15 255 (fun f w'=>Hz f [(0,Str s),(2,pB b1),(9,pB b12'),(10,.bool ((addrFrom ((((splitB 32 (cutCR s)).getD 2 [])++[58])++((splitB 32 (cutCR s)).getD 4 []))).2)),(47,Str ((((splitB 32 (cutCR s)).getD 3 [])++[58])++((splitB 32 (cutCR s)).getD 5 [])))]∧SH w w' [] [.blk b1 112 Z5,.own (Z8 b2) ((splitB 32 (cutCR s)).length) c1 9 1 ((splitB 32 (cutCR s)).map Str),.blk b12' 54 [I ((addrFrom ((((splitB 32 (cutCR s)).getD 2 [])++[58])++((splitB 32 (cutCR s)).getD 4 []))).1.1),.slice Aq8' (((addrFrom ((((splitB 32 (cutCR s)).getD 2 [])++[58])++((splitB 32 (cutCR s)).getD 4 []))).1.2.1).length) cq8',Str ((addrFrom ((((splitB 32 (cutCR s)).getD 2 [])++[58])++((splitB 32 (cutCR s)).getD 4 []))).1.2.2.1),I ((addrFrom ((((splitB 32 (cutCR s)).getD 2 [])++[58])++((splitB 32 (cutCR s)).getD 4 []))).1.2.2.2)],.own Aq8' (((addrFrom ((((splitB 32 (cutCR s)).getD 2 [])++[58])++((splitB 32 (cutCR s)).getD 4 []))).1.2.1).length) cq8' 3 1 (((addrFrom ((((splitB 32 (cutCR s)).getD 2 [])++[58])++((splitB 32 (cutCR s)).getD 4 []))).1.2.1).map I)]) ?_ (fun D_6_3=>?_)
  ·rintro f w21 ⟨⟨g9,rfl⟩,hs24⟩
   refine aaL [8,12] (fa_cons ?_ (fa_one ?_))
   ·refine one_ r0 (cL r0 (iAddressFrom _ _ (by((try simp only[List.length_append,List.length_cons,List.length_nil]); omega)) (hGp.up0 hs24) (hEr.up0 hs24) (hEs.up0 hs24)) ?_)
    rintro _ w22 ⟨Aq8'',cq8'',rfl,hs25⟩
    replace hs25:=hs24.call0 hs25
    exact nk ⟨_,hs25,memi 0 r0,memi 1 r0,memi 2 r0,trivial⟩ (tk (fuel:=3) (is:=[9,10,11]) (.cons r0 (.cons r0 (.cons r0 (.nil)))) (by kernel_rfl) (by kernel_rfl) ⟨_,hs25,memi 0 r0,memi 1 r0,memi 2 r0,trivial⟩ (yA r0 (mv (v:=.tuple #[.agg #[I ((addrFrom ((((splitB 32 (cutCR s)).getD 3 [])++[58])++((splitB 32 (cutCR s)).getD 5 []))).1.1),.slice Aq8'' (((addrFrom ((((splitB 32 (cutCR s)).getD 3 [])++[58])++((splitB 32 (cutCR s)).getD 5 []))).1.2.1).length) cq8'',Str ((addrFrom ((((splitB 32 (cutCR s)).getD 3 [])++[58])++((splitB 32 (cutCR s)).getD 5 []))).1.2.2.1),I ((addrFrom ((((splitB 32 (cutCR s)).getD 3 [])++[58])++((splitB 32 (cutCR s)).getD 5 []))).1.2.2.2)],.bool ((addrFrom ((((splitB 32 (cutCR s)).getD 3 [])++[58])++((splitB 32 (cutCR s)).getD 5 []))).2)]) r0) (yA r0 (xt 0 r0 r0) (yA r0 (xt 1 r0 r0) (.nil (alc D_6_1 ⟨Aq8'',cq8'',(zR r0),hs25⟩))))))
   refine one_ r0 (al (cs:=Z17) hs24 tz54 r0 trivial r0 (fun b12'' w23 hs26=>?_))
   exact nk ⟨_,hs26,memi 0 r0,memi 1 r0,memi 2 r0,trivial⟩ (alc D_6_2 ⟨b12'',(zR r0),hs26⟩)
  have hs27:=hs17.drew
  exact tk (fuel:=7) (is:=[0,1,2,3,4,5,6,7]) (.cons r0 (.cons r0 (.cons r0 (.cons r0 (.cons r0 (.cons r0 (.cons r0 (.cons r0 (.nil))))))))) (by kernel_rfl) (by kernel_rfl) ⟨_,hs27,memi 0 r0,memi 1 r0,memi 2 r0,trivial⟩ (yA r0 (mv (v:=sb b2 ((splitB 32 (cutCR s)).length) c1) r0) (yA r0 (ixo 3 sl51 r0 r0 (by omega)) (yB r0 (fun ⟨Lq,hsq,mh0,mh1,mh2,_⟩=>ldo1m (g:=Str) (ys:=splitB 32 (cutCR s)) (o:=3) [] hsq mh1 r0 (by omega) one9) (yA r0 (cat r0 r0 (by((try simp only[List.length_append,List.length_cons,List.length_nil]); omega))) (yA r0 (mv (v:=sb b2 ((splitB 32 (cutCR s)).length) c1) r0) (yA r0 (ixo 5 sl51 r0 r0 (by omega)) (yB r0 (fun ⟨Lq,hsq,mh0,mh1,mh2,_⟩=>ldo1m (g:=Str) (ys:=splitB 32 (cutCR s)) (o:=5) [] hsq mh1 r0 (by omega) one9) (yA r0 (cat r0 r0 (by((try simp only[List.length_append,List.length_cons,List.length_nil]); omega))) (.nil (alc D_6_3 ⟨(zR r0),hs27⟩))))))))))
 rintro f w24 ⟨Aq8'',cq8'',b12'',⟨g10,rfl⟩,hs28⟩
 refine nN (sr (qt r0 (lG [I ((addrFrom ((((splitB 32 (cutCR s)).getD 2 [])++[58])++((splitB 32 (cutCR s)).getD 4 []))).1.1),.slice Aq8' (((addrFrom ((((splitB 32 (cutCR s)).getD 2 [])++[58])++((splitB 32 (cutCR s)).getD 4 []))).1.2.1).length) cq8',Str ((addrFrom ((((splitB 32 (cutCR s)).getD 2 [])++[58])++((splitB 32 (cutCR s)).getD 4 []))).1.2.2.1),I ((addrFrom ((((splitB 32 (cutCR s)).getD 2 [])++[58])++((splitB 32 (cutCR s)).getD 4 []))).1.2.2.2)] hs28 2 r0 ag54) (qt r0 (lG [I ((addrFrom ((((splitB 32 (cutCR s)).getD 3 [])++[58])++((splitB 32 (cutCR s)).getD 5 []))).1.1),.slice Aq8'' (((addrFrom ((((splitB 32 (cutCR s)).getD 3 [])++[58])++((splitB 32 (cutCR s)).getD 5 []))).1.2.1).length) cq8'',Str ((addrFrom ((((splitB 32 (cutCR s)).getD 3 [])++[58])++((splitB 32 (cutCR s)).getD 5 []))).1.2.2.1),I ((addrFrom ((((splitB 32 (cutCR s)).getD 3 [])++[58])++((splitB 32 (cutCR s)).getD 5 []))).1.2.2.2)] hs28 4 r0 ag54) (qt r0 (bdv (v:=.agg #[I ((addrFrom ((((splitB 32 (cutCR s)).getD 2 [])++[58])++((splitB 32 (cutCR s)).getD 4 []))).1.1),.slice Aq8' (((addrFrom ((((splitB 32 (cutCR s)).getD 2 [])++[58])++((splitB 32 (cutCR s)).getD 4 []))).1.2.1).length) cq8',Str ((addrFrom ((((splitB 32 (cutCR s)).getD 2 [])++[58])++((splitB 32 (cutCR s)).getD 4 []))).1.2.2.1),I ((addrFrom ((((splitB 32 (cutCR s)).getD 2 [])++[58])++((splitB 32 (cutCR s)).getD 4 []))).1.2.2.2),I ((addrFrom ((((splitB 32 (cutCR s)).getD 3 [])++[58])++((splitB 32 (cutCR s)).getD 5 []))).1.1),.slice Aq8'' (((addrFrom ((((splitB 32 (cutCR s)).getD 3 [])++[58])++((splitB 32 (cutCR s)).getD 5 []))).1.2.1).length) cq8'',Str ((addrFrom ((((splitB 32 (cutCR s)).getD 3 [])++[58])++((splitB 32 (cutCR s)).getD 5 []))).1.2.2.1),I ((addrFrom ((((splitB 32 (cutCR s)).getD 3 [])++[58])++((splitB 32 (cutCR s)).getD 5 []))).1.2.2.2)]) [(0,.agg #[I ((addrFrom ((((splitB 32 (cutCR s)).getD 2 [])++[58])++((splitB 32 (cutCR s)).getD 4 []))).1.1),.slice Aq8' (((addrFrom ((((splitB 32 (cutCR s)).getD 2 [])++[58])++((splitB 32 (cutCR s)).getD 4 []))).1.2.1).length) cq8',Str ((addrFrom ((((splitB 32 (cutCR s)).getD 2 [])++[58])++((splitB 32 (cutCR s)).getD 4 []))).1.2.2.1),I ((addrFrom ((((splitB 32 (cutCR s)).getD 2 [])++[58])++((splitB 32 (cutCR s)).getD 4 []))).1.2.2.2)]),(1,.agg #[I ((addrFrom ((((splitB 32 (cutCR s)).getD 3 [])++[58])++((splitB 32 (cutCR s)).getD 5 []))).1.1),.slice Aq8'' (((addrFrom ((((splitB 32 (cutCR s)).getD 3 [])++[58])++((splitB 32 (cutCR s)).getD 5 []))).1.2.1).length) cq8'',Str ((addrFrom ((((splitB 32 (cutCR s)).getD 3 [])++[58])++((splitB 32 (cutCR s)).getD 5 []))).1.2.2.1),I ((addrFrom ((((splitB 32 (cutCR s)).getD 3 [])++[58])++((splitB 32 (cutCR s)).getD 5 []))).1.2.2.2)])] r0 (fun _=>by kernel_rfl)) (al (cs:=Z5) hs28 tz112 r0 trivial r0 (fun b3 w25 hs29=>?_))))))
 refine sG [I ((addrFrom ((((splitB 32 (cutCR s)).getD 2 [])++[58])++((splitB 32 (cutCR s)).getD 4 []))).1.1),.slice Aq8' (((addrFrom ((((splitB 32 (cutCR s)).getD 2 [])++[58])++((splitB 32 (cutCR s)).getD 4 []))).1.2.1).length) cq8',Str ((addrFrom ((((splitB 32 (cutCR s)).getD 2 [])++[58])++((splitB 32 (cutCR s)).getD 4 []))).1.2.2.1),I ((addrFrom ((((splitB 32 (cutCR s)).getD 2 [])++[58])++((splitB 32 (cutCR s)).getD 4 []))).1.2.2.2),I ((addrFrom ((((splitB 32 (cutCR s)).getD 3 [])++[58])++((splitB 32 (cutCR s)).getD 5 []))).1.1),.slice Aq8'' (((addrFrom ((((splitB 32 (cutCR s)).getD 3 [])++[58])++((splitB 32 (cutCR s)).getD 5 []))).1.2.1).length) cq8'',Str ((addrFrom ((((splitB 32 (cutCR s)).getD 3 [])++[58])++((splitB 32 (cutCR s)).getD 5 []))).1.2.2.1),I ((addrFrom ((((splitB 32 (cutCR s)).getD 3 [])++[58])++((splitB 32 (cutCR s)).getD 5 []))).1.2.2.2)] hs29 6 r0 ag112 (fun w26 hs30=>?_)
 refine nn ?_
 have hs31:=hs30.pq [0,3,5,6] r0
 refine sr (qt r0 (lG [I ((addrFrom ((((splitB 32 (cutCR s)).getD 2 [])++[58])++((splitB 32 (cutCR s)).getD 4 []))).1.1),.slice Aq8' (((addrFrom ((((splitB 32 (cutCR s)).getD 2 [])++[58])++((splitB 32 (cutCR s)).getD 4 []))).1.2.1).length) cq8',Str ((addrFrom ((((splitB 32 (cutCR s)).getD 2 [])++[58])++((splitB 32 (cutCR s)).getD 4 []))).1.2.2.1),I ((addrFrom ((((splitB 32 (cutCR s)).getD 2 [])++[58])++((splitB 32 (cutCR s)).getD 4 []))).1.2.2.2),I ((addrFrom ((((splitB 32 (cutCR s)).getD 3 [])++[58])++((splitB 32 (cutCR s)).getD 5 []))).1.1),.slice Aq8'' (((addrFrom ((((splitB 32 (cutCR s)).getD 3 [])++[58])++((splitB 32 (cutCR s)).getD 5 []))).1.2.1).length) cq8'',Str ((addrFrom ((((splitB 32 (cutCR s)).getD 3 [])++[58])++((splitB 32 (cutCR s)).getD 5 []))).1.2.2.1),I ((addrFrom ((((splitB 32 (cutCR s)).getD 3 [])++[58])++((splitB 32 (cutCR s)).getD 5 []))).1.2.2.2)] hs31 3 r0 ag112) (cS hs31 r0 (iLineText _ _ _ _ _ _ _ _ _ (hs31.sl0 1 r0) (by((try simp only[List.length_append,List.length_cons,List.length_nil]); omega)) (hs31.sl0 2 r0) (by((try simp only[List.length_append,List.length_cons,List.length_nil]); omega)) (hGp.up0 hs31)) (fun w27 hs32=>?_)))
 refine tA (Str (lineT ((((addrFrom ((((splitB 32 (cutCR s)).getD 2 [])++[58])++((splitB 32 (cutCR s)).getD 4 []))).1.1),((addrFrom ((((splitB 32 (cutCR s)).getD 2 [])++[58])++((splitB 32 (cutCR s)).getD 4 []))).1.2.1),((addrFrom ((((splitB 32 (cutCR s)).getD 2 [])++[58])++((splitB 32 (cutCR s)).getD 4 []))).1.2.2.1),((addrFrom ((((splitB 32 (cutCR s)).getD 2 [])++[58])++((splitB 32 (cutCR s)).getD 4 []))).1.2.2.2)),(((addrFrom ((((splitB 32 (cutCR s)).getD 3 [])++[58])++((splitB 32 (cutCR s)).getD 5 []))).1.1),((addrFrom ((((splitB 32 (cutCR s)).getD 3 [])++[58])++((splitB 32 (cutCR s)).getD 5 []))).1.2.1),((addrFrom ((((splitB 32 (cutCR s)).getD 3 [])++[58])++((splitB 32 (cutCR s)).getD 5 []))).1.2.2.1),((addrFrom ((((splitB 32 (cutCR s)).getD 3 [])++[58])++((splitB 32 (cutCR s)).getD 5 []))).1.2.2.2))))) r0 (nn (sq (sr (tm (.bool ((addrFrom ((((splitB 32 (cutCR s)).getD 2 [])++[58])++((splitB 32 (cutCR s)).getD 4 []))).2)) r0 (qt r0 (nt r0) (tm (.bool (!((addrFrom ((((splitB 32 (cutCR s)).getD 2 [])++[58])++((splitB 32 (cutCR s)).getD 4 []))).2))) r0 (spl 58 r0 (fun h2=>?_) (fun h2=>?_))))))))
 ·have h3:=nbF h2
  refine gt5 r0 (gt5 r0 (qt r0 (pt (v:=.bool true) r0 r0) (tm Z35 r0 (gt5 r0 (gt5 r0 (qt r0 (pt (v:=.bool true) r0 r0) (tm Z35 r0 (gt5 r0 (gt5 r0 (gt5 r0 (gt5 r0 (qt r0 (pt (v:=.bool true) r0 r0) (nn (cdt r0 (sr (qt r0 (bdv (v:=.agg #[I 0,ns,Str [],I 0,I 0,ns,Str [],I 0]) [] r0 (fun _=>by kernel_rfl)) (sG Z5 hs32 0 r0 ag112 (fun w28 hs33=>?_))))))))))))))))))
  refine tA (I 0) r0 (tA Z6 r0 (nn ?_))
  have hs34:=hs33.pq [3] r0
  refine rt (tR (fret (resC hs34 0 r0 r0 ag112 r0 (.tmp (.tmp .nil))) r0 ?_))
  have hs35:=hs34.nl [Z0] r0
  have hs36:=hs35.nl [Z0] r0
  have e3:lineZ s=(0,false):=by exact lineZ_in (.inr (.inl ‹_›))
  rw[e3]
  exact⟨none,0,none,0,0,([]:List Int),[],0,0,([]:List Int),[],0,rfl,(hs36.pk [1,2] r0)⟩
 have h4:=nbT h2
 refine qh r0 (mv (v:=.bool ((addrFrom ((((splitB 32 (cutCR s)).getD 3 [])++[58])++((splitB 32 (cutCR s)).getD 5 []))).2)) r0) (qh r0 (nt r0) (qt r0 (pf (v:=.bool (!((addrFrom ((((splitB 32 (cutCR s)).getD 3 [])++[58])++((splitB 32 (cutCR s)).getD 5 []))).2))) r0 r0) (tm (.bool (!((addrFrom ((((splitB 32 (cutCR s)).getD 3 [])++[58])++((splitB 32 (cutCR s)).getD 5 []))).2))) r0 (spl 62 r0 (fun h5=>?_) (fun h5=>?_)))))
 ·have h6:=nbF h5
  refine gt5 r0 (gt5 r0 (qt r0 (pt (v:=.bool true) r0 r0) (tm Z35 r0 (gt5 r0 (gt5 r0 (gt5 r0 (gt5 r0 (qt r0 (pt (v:=.bool true) r0 r0) (nn (cdt r0 (sr (qt r0 (bdv (v:=.agg #[I 0,ns,Str [],I 0,I 0,ns,Str [],I 0]) [] r0 (fun _=>by kernel_rfl)) (sG Z5 hs32 0 r0 ag112 (fun w29 hs37=>?_))))))))))))))
  refine tA (I 0) r0 (tA Z6 r0 (nn ?_))
  have hs38:=hs37.pq [3] r0
  refine rt (tR (fret (resC hs38 0 r0 r0 ag112 r0 (.tmp (.tmp .nil))) r0 ?_))
  have hs39:=hs38.nl [Z0] r0
  have hs40:=hs39.nl [Z0] r0
  have e4:lineZ s=(0,false):=by exact lineZ_in (.inr (.inr (.inl ‹_›)))
  rw[e4]
  exact⟨none,0,none,0,0,([]:List Int),[],0,0,([]:List Int),[],0,rfl,(hs40.pk [1,2] r0)⟩
 have h7:=nbT h5
 refine qh r0 (mv (v:=Str (lineT ((((addrFrom ((((splitB 32 (cutCR s)).getD 2 [])++[58])++((splitB 32 (cutCR s)).getD 4 []))).1.1),((addrFrom ((((splitB 32 (cutCR s)).getD 2 [])++[58])++((splitB 32 (cutCR s)).getD 4 []))).1.2.1),((addrFrom ((((splitB 32 (cutCR s)).getD 2 [])++[58])++((splitB 32 (cutCR s)).getD 4 []))).1.2.2.1),((addrFrom ((((splitB 32 (cutCR s)).getD 2 [])++[58])++((splitB 32 (cutCR s)).getD 4 []))).1.2.2.2)),(((addrFrom ((((splitB 32 (cutCR s)).getD 3 [])++[58])++((splitB 32 (cutCR s)).getD 5 []))).1.1),((addrFrom ((((splitB 32 (cutCR s)).getD 3 [])++[58])++((splitB 32 (cutCR s)).getD 5 []))).1.2.1),((addrFrom ((((splitB 32 (cutCR s)).getD 3 [])++[58])++((splitB 32 (cutCR s)).getD 5 []))).1.2.2.1),((addrFrom ((((splitB 32 (cutCR s)).getD 3 [])++[58])++((splitB 32 (cutCR s)).getD 5 []))).1.2.2.2))))) r0) (qh r0 (eqs r0 r0) (qt r0 (pf (v:=.bool (decide (lineT ((((addrFrom ((((splitB 32 (cutCR s)).getD 2 [])++[58])++((splitB 32 (cutCR s)).getD 4 []))).1.1),((addrFrom ((((splitB 32 (cutCR s)).getD 2 [])++[58])++((splitB 32 (cutCR s)).getD 4 []))).1.2.1),((addrFrom ((((splitB 32 (cutCR s)).getD 2 [])++[58])++((splitB 32 (cutCR s)).getD 4 []))).1.2.2.1),((addrFrom ((((splitB 32 (cutCR s)).getD 2 [])++[58])++((splitB 32 (cutCR s)).getD 4 []))).1.2.2.2)),(((addrFrom ((((splitB 32 (cutCR s)).getD 3 [])++[58])++((splitB 32 (cutCR s)).getD 5 []))).1.1),((addrFrom ((((splitB 32 (cutCR s)).getD 3 [])++[58])++((splitB 32 (cutCR s)).getD 5 []))).1.2.1),((addrFrom ((((splitB 32 (cutCR s)).getD 3 [])++[58])++((splitB 32 (cutCR s)).getD 5 []))).1.2.2.1),((addrFrom ((((splitB 32 (cutCR s)).getD 3 [])++[58])++((splitB 32 (cutCR s)).getD 5 []))).1.2.2.2)))=[]))) r0 r0) (tm (.bool (decide (lineT ((((addrFrom ((((splitB 32 (cutCR s)).getD 2 [])++[58])++((splitB 32 (cutCR s)).getD 4 []))).1.1),((addrFrom ((((splitB 32 (cutCR s)).getD 2 [])++[58])++((splitB 32 (cutCR s)).getD 4 []))).1.2.1),((addrFrom ((((splitB 32 (cutCR s)).getD 2 [])++[58])++((splitB 32 (cutCR s)).getD 4 []))).1.2.2.1),((addrFrom ((((splitB 32 (cutCR s)).getD 2 [])++[58])++((splitB 32 (cutCR s)).getD 4 []))).1.2.2.2)),(((addrFrom ((((splitB 32 (cutCR s)).getD 3 [])++[58])++((splitB 32 (cutCR s)).getD 5 []))).1.1),((addrFrom ((((splitB 32 (cutCR s)).getD 3 [])++[58])++((splitB 32 (cutCR s)).getD 5 []))).1.2.1),((addrFrom ((((splitB 32 (cutCR s)).getD 3 [])++[58])++((splitB 32 (cutCR s)).getD 5 []))).1.2.2.1),((addrFrom ((((splitB 32 (cutCR s)).getD 3 [])++[58])++((splitB 32 (cutCR s)).getD 5 []))).1.2.2.2)))=[]))) r0 ?_)))
 refine spd 66 r0 (fun h8=>?_) (fun h8=>?_)
 ·refine gt5 r0 (gt5 r0 (gt5 r0 (gt5 r0 (qt r0 (pt (v:=.bool true) r0 r0) (nn (cdt r0 (sr (qt r0 (bdv (v:=.agg #[I 0,ns,Str [],I 0,I 0,ns,Str [],I 0]) [] r0 (fun _=>by kernel_rfl)) (sG Z5 hs32 0 r0 ag112 (fun w30 hs41=>?_))))))))))
  refine tA (I 0) r0 (tA Z6 r0 (nn ?_))
  have hs42:=hs41.pq [3] r0
  refine rt (tR (fret (resC hs42 0 r0 r0 ag112 r0 (.tmp (.tmp .nil))) r0 ?_))
  have hs43:=hs42.nl [Z0] r0
  have hs44:=hs43.nl [Z0] r0
  have e5:lineZ s=(0,false):=by exact lineZ_in (.inr (.inr (.inr (.inl ‹_›))))
  rw[e5]
  exact⟨none,0,none,0,0,([]:List Int),[],0,0,([]:List Int),[],0,rfl,(hs44.pk [1,2] r0)⟩
 refine qh r0 (mv (v:=Str s) r0) (qh r0 (mv (v:=Str (lineT ((((addrFrom ((((splitB 32 (cutCR s)).getD 2 [])++[58])++((splitB 32 (cutCR s)).getD 4 []))).1.1),((addrFrom ((((splitB 32 (cutCR s)).getD 2 [])++[58])++((splitB 32 (cutCR s)).getD 4 []))).1.2.1),((addrFrom ((((splitB 32 (cutCR s)).getD 2 [])++[58])++((splitB 32 (cutCR s)).getD 4 []))).1.2.2.1),((addrFrom ((((splitB 32 (cutCR s)).getD 2 [])++[58])++((splitB 32 (cutCR s)).getD 4 []))).1.2.2.2)),(((addrFrom ((((splitB 32 (cutCR s)).getD 3 [])++[58])++((splitB 32 (cutCR s)).getD 5 []))).1.1),((addrFrom ((((splitB 32 (cutCR s)).getD 3 [])++[58])++((splitB 32 (cutCR s)).getD 5 []))).1.2.1),((addrFrom ((((splitB 32 (cutCR s)).getD 3 [])++[58])++((splitB 32 (cutCR s)).getD 5 []))).1.2.2.1),((addrFrom ((((splitB 32 (cutCR s)).getD 3 [])++[58])++((splitB 32 (cutCR s)).getD 5 []))).1.2.2.2))))) r0) (cl ⟨_,rfl,rfl⟩ r0 (stHasPrefix _ _ _ (by omega) (by exact Nat.le_trans (lineT_102 _ _ _ _ _ _ _ _) (by decide))) ?_))
 rintro _ w31 ⟨rfl,hs45⟩
 replace hs45:=hs32.call0 hs45
 refine qh r0 (nt r0) (qt r0 (pf (v:=.bool (!(decide (preP s (lineT ((((addrFrom ((((splitB 32 (cutCR s)).getD 2 [])++[58])++((splitB 32 (cutCR s)).getD 4 []))).1.1),((addrFrom ((((splitB 32 (cutCR s)).getD 2 [])++[58])++((splitB 32 (cutCR s)).getD 4 []))).1.2.1),((addrFrom ((((splitB 32 (cutCR s)).getD 2 [])++[58])++((splitB 32 (cutCR s)).getD 4 []))).1.2.2.1),((addrFrom ((((splitB 32 (cutCR s)).getD 2 [])++[58])++((splitB 32 (cutCR s)).getD 4 []))).1.2.2.2)),(((addrFrom ((((splitB 32 (cutCR s)).getD 3 [])++[58])++((splitB 32 (cutCR s)).getD 5 []))).1.1),((addrFrom ((((splitB 32 (cutCR s)).getD 3 [])++[58])++((splitB 32 (cutCR s)).getD 5 []))).1.2.1),((addrFrom ((((splitB 32 (cutCR s)).getD 3 [])++[58])++((splitB 32 (cutCR s)).getD 5 []))).1.2.2.1),((addrFrom ((((splitB 32 (cutCR s)).getD 3 [])++[58])++((splitB 32 (cutCR s)).getD 5 []))).1.2.2.2)))))))) r0 r0) (nn (cd r0 (fun h9=>?_) (fun h9=>?_))))
 ·have h10:=nbF h9
  refine sr (qt r0 (bdv (v:=.agg #[I 0,ns,Str [],I 0,I 0,ns,Str [],I 0]) [] r0 (fun _=>by kernel_rfl)) (sG Z5 hs45 0 r0 ag112 (fun w32 hs46=>?_)))
  refine tA (I 0) r0 (tA Z6 r0 (nn ?_))
  have hs47:=hs46.pq [3] r0
  refine rt (tR (fret (resC hs47 0 r0 r0 ag112 r0 (.tmp (.tmp .nil))) r0 ?_))
  have hs48:=hs47.nl [Z0] r0
  have hs49:=hs48.nl [Z0] r0
  have e6:lineZ s=(0,false):=by exact lineZ_in (.inr (.inr (.inr (.inr (of_decide_eq_false ‹_›)))))
  rw[e6]
  exact⟨none,0,none,0,0,([]:List Int),[],0,0,([]:List Int),[],0,rfl,(hs49.pk [1,2] r0)⟩
 have h11:=nbT h9
 refine sk (nN (sr (qt r0 (lG [I ((addrFrom ((((splitB 32 (cutCR s)).getD 2 [])++[58])++((splitB 32 (cutCR s)).getD 4 []))).1.1),.slice Aq8' (((addrFrom ((((splitB 32 (cutCR s)).getD 2 [])++[58])++((splitB 32 (cutCR s)).getD 4 []))).1.2.1).length) cq8',Str ((addrFrom ((((splitB 32 (cutCR s)).getD 2 [])++[58])++((splitB 32 (cutCR s)).getD 4 []))).1.2.2.1),I ((addrFrom ((((splitB 32 (cutCR s)).getD 2 [])++[58])++((splitB 32 (cutCR s)).getD 4 []))).1.2.2.2),I ((addrFrom ((((splitB 32 (cutCR s)).getD 3 [])++[58])++((splitB 32 (cutCR s)).getD 5 []))).1.1),.slice Aq8'' (((addrFrom ((((splitB 32 (cutCR s)).getD 3 [])++[58])++((splitB 32 (cutCR s)).getD 5 []))).1.2.1).length) cq8'',Str ((addrFrom ((((splitB 32 (cutCR s)).getD 3 [])++[58])++((splitB 32 (cutCR s)).getD 5 []))).1.2.2.1),I ((addrFrom ((((splitB 32 (cutCR s)).getD 3 [])++[58])++((splitB 32 (cutCR s)).getD 5 []))).1.2.2.2)] hs45 3 r0 ag112) (tm (Str (lineT ((((addrFrom ((((splitB 32 (cutCR s)).getD 2 [])++[58])++((splitB 32 (cutCR s)).getD 4 []))).1.1),((addrFrom ((((splitB 32 (cutCR s)).getD 2 [])++[58])++((splitB 32 (cutCR s)).getD 4 []))).1.2.1),((addrFrom ((((splitB 32 (cutCR s)).getD 2 [])++[58])++((splitB 32 (cutCR s)).getD 4 []))).1.2.2.1),((addrFrom ((((splitB 32 (cutCR s)).getD 2 [])++[58])++((splitB 32 (cutCR s)).getD 4 []))).1.2.2.2)),(((addrFrom ((((splitB 32 (cutCR s)).getD 3 [])++[58])++((splitB 32 (cutCR s)).getD 5 []))).1.1),((addrFrom ((((splitB 32 (cutCR s)).getD 3 [])++[58])++((splitB 32 (cutCR s)).getD 5 []))).1.2.1),((addrFrom ((((splitB 32 (cutCR s)).getD 3 [])++[58])++((splitB 32 (cutCR s)).getD 5 []))).1.2.2.1),((addrFrom ((((splitB 32 (cutCR s)).getD 3 [])++[58])++((splitB 32 (cutCR s)).getD 5 []))).1.2.2.2))))) r0 (qt r0 (lnS st9 r0) (sG [I ((addrFrom ((((splitB 32 (cutCR s)).getD 2 [])++[58])++((splitB 32 (cutCR s)).getD 4 []))).1.1),.slice Aq8' (((addrFrom ((((splitB 32 (cutCR s)).getD 2 [])++[58])++((splitB 32 (cutCR s)).getD 4 []))).1.2.1).length) cq8',Str ((addrFrom ((((splitB 32 (cutCR s)).getD 2 [])++[58])++((splitB 32 (cutCR s)).getD 4 []))).1.2.2.1),I ((addrFrom ((((splitB 32 (cutCR s)).getD 2 [])++[58])++((splitB 32 (cutCR s)).getD 4 []))).1.2.2.2),I ((addrFrom ((((splitB 32 (cutCR s)).getD 3 [])++[58])++((splitB 32 (cutCR s)).getD 5 []))).1.1),.slice Aq8'' (((addrFrom ((((splitB 32 (cutCR s)).getD 3 [])++[58])++((splitB 32 (cutCR s)).getD 5 []))).1.2.1).length) cq8'',Str ((addrFrom ((((splitB 32 (cutCR s)).getD 3 [])++[58])++((splitB 32 (cutCR s)).getD 5 []))).1.2.2.1),I ((addrFrom ((((splitB 32 (cutCR s)).getD 3 [])++[58])++((splitB 32 (cutCR s)).getD 5 []))).1.2.2.2)] hs45 0 r0 ag112 (fun w33 hs50=>?_)))))))
 refine tA (I (((lineT ((((addrFrom ((((splitB 32 (cutCR s)).getD 2 [])++[58])++((splitB 32 (cutCR s)).getD 4 []))).1.1),((addrFrom ((((splitB 32 (cutCR s)).getD 2 [])++[58])++((splitB 32 (cutCR s)).getD 4 []))).1.2.1),((addrFrom ((((splitB 32 (cutCR s)).getD 2 [])++[58])++((splitB 32 (cutCR s)).getD 4 []))).1.2.2.1),((addrFrom ((((splitB 32 (cutCR s)).getD 2 [])++[58])++((splitB 32 (cutCR s)).getD 4 []))).1.2.2.2)),(((addrFrom ((((splitB 32 (cutCR s)).getD 3 [])++[58])++((splitB 32 (cutCR s)).getD 5 []))).1.1),((addrFrom ((((splitB 32 (cutCR s)).getD 3 [])++[58])++((splitB 32 (cutCR s)).getD 5 []))).1.2.1),((addrFrom ((((splitB 32 (cutCR s)).getD 3 [])++[58])++((splitB 32 (cutCR s)).getD 5 []))).1.2.2.1),((addrFrom ((((splitB 32 (cutCR s)).getD 3 [])++[58])++((splitB 32 (cutCR s)).getD 5 []))).1.2.2.2)))).length:Nat):Int)) r0 (tA Z35 r0 (nn (rt (fret (resC hs50 3 r0 r0 ag112 r0 (.tmp (.tmp .nil))) r0 ?_))))
 have e7:lineZ s=((((lineT ((((addrFrom ((((splitB 32 (cutCR s)).getD 2 [])++[58])++((splitB 32 (cutCR s)).getD 4 []))).1.1),((addrFrom ((((splitB 32 (cutCR s)).getD 2 [])++[58])++((splitB 32 (cutCR s)).getD 4 []))).1.2.1),((addrFrom ((((splitB 32 (cutCR s)).getD 2 [])++[58])++((splitB 32 (cutCR s)).getD 4 []))).1.2.2.1),((addrFrom ((((splitB 32 (cutCR s)).getD 2 [])++[58])++((splitB 32 (cutCR s)).getD 4 []))).1.2.2.2)),(((addrFrom ((((splitB 32 (cutCR s)).getD 3 [])++[58])++((splitB 32 (cutCR s)).getD 5 []))).1.1),((addrFrom ((((splitB 32 (cutCR s)).getD 3 [])++[58])++((splitB 32 (cutCR s)).getD 5 []))).1.2.1),((addrFrom ((((splitB 32 (cutCR s)).getD 3 [])++[58])++((splitB 32 (cutCR s)).getD 5 []))).1.2.2.1),((addrFrom ((((splitB 32 (cutCR s)).getD 3 [])++[58])++((splitB 32 (cutCR s)).getD 5 []))).1.2.2.2)))).length:Nat):Int),true):=by exact lineZ_iy ‹_› ‹_› ‹_› (of_decide_eq_true ‹_›)
 rw[e7]
 exact⟨Aq8',cq8',Aq8'',cq8'',(addrFrom ((((splitB 32 (cutCR s)).getD 2 [])++[58])++((splitB 32 (cutCR s)).getD 4 []))).1.1,(addrFrom ((((splitB 32 (cutCR s)).getD 2 [])++[58])++((splitB 32 (cutCR s)).getD 4 []))).1.2.1,(addrFrom ((((splitB 32 (cutCR s)).getD 2 [])++[58])++((splitB 32 (cutCR s)).getD 4 []))).1.2.2.1,(addrFrom ((((splitB 32 (cutCR s)).getD 2 [])++[58])++((splitB 32 (cutCR s)).getD 4 []))).1.2.2.2,(addrFrom ((((splitB 32 (cutCR s)).getD 3 [])++[58])++((splitB 32 (cutCR s)).getD 5 []))).1.1,(addrFrom ((((splitB 32 (cutCR s)).getD 3 [])++[58])++((splitB 32 (cutCR s)).getD 5 []))).1.2.1,(addrFrom ((((splitB 32 (cutCR s)).getD 3 [])++[58])++((splitB 32 (cutCR s)).getD 5 []))).1.2.2.1,(addrFrom ((((splitB 32 (cutCR s)).getD 3 [])++[58])++((splitB 32 (cutCR s)).getD 5 []))).1.2.2.2,rfl,(hs50.pk [0,1] r0)⟩
theorem iSniffSize {Ab:Option Addr} {cb:Nat} (b:List Int) (w:World) (hb:Sl w [] 1 Ab b.length cb (b.map I)) (hMl:VarP Tryz.prog w [] "internal/bytealg.MaxLen" isI64) (hGp:VarP Tryz.prog w [] "internal/strconv.uint64pow10" isPow) (hEr:VarP Tryz.prog w [] "strconv.ErrRange" isIfc) (hEs:VarP Tryz.prog w [] "strconv.ErrSyntax" isIfc):Does Tryz.prog 76 [.slice Ab b.length cb] w (fun v w'=>v=.tuple #[.int .i64 ((sniffZ b).1),.bool ((sniffZ b).2)]∧SH w w' [] []):=by
 refine fE (N:=53) Tryz.func76 r0 (by kernel_rfl) r0 ?_
 have hs0:=SH.refl w []
 have hb_m:b.length≤9223372036854775807:=Nat.le_trans hb.cap hb.capMax
 refine sr (tA (I 0) r0 (tA Z6 r0 (nx (tA (I 0) r0 (tA Z6 r0 (nn (sq (sr (tm (Z14 Ab b cb) r0 (cS hs0 r0 (iSniffKind _ _ (hb.up0 hs0)) (fun w1 hs1=>?_)))))))))))
 refine nn (bl (sr (qt r0 (eqi r0 r0) (tA (.bool (decide ((sniffK b)=1))) r0 (nl (nN (cdd r0 (fun h1=>?_) (fun h1=>?_))))))))
 ·refine rg (tm (Z14 Ab b cb) r0 (cL r0 (iOldFrom _ _ (hb.up0 hs1)) ?_))
  rintro _ w2 ⟨Aq1,cq1,c1,ak1,aq1,an1,apt1,us1,rfl,hs2⟩
  replace hs2:=hs1.call0 hs2
  refine tm (.tuple #[.agg #[I c1,I ak1,(Z4 Aq1 aq1 cq1),Str an1,I apt1,Str us1],I ((oldZ b).1),.bool ((oldZ b).2)]) r0 (qt r0 (xt 0 r0 r0) (qt r0 (xt 1 r0 r0) (qt r0 (xt 2 r0 r0) (tA (I ((oldZ b).1)) r0 (tA (.bool ((oldZ b).2)) r0 (nl (bN (nN (sr (tm (I ((oldZ b).1)) r0 (tm (.bool ((oldZ b).2)) r0 (tA (I ((oldZ b).1)) r0 (tA (.bool ((oldZ b).2)) r0 (nl (nN (rt (fret (.tmp (.tmp .nil)) r0 ?_)))))))))))))))))
  have e1:sniffZ b=((oldZ b).1,((oldZ b).2)):=by exact zq1 ‹_›
  rw[e1]
  exact⟨rfl,(hs2.pk [] r0)⟩
 refine sr (qt r0 (eqi r0 r0) (tA (.bool (decide ((sniffK b)=2))) r0 (nn (cdd r0 (fun h2=>?_) (fun h2=>?_)))))
 ·refine rg (tm (Z14 Ab b cb) r0 (cS2 hs1 r0 (iHelloFrom _ _ (hb.up0 hs1)) (fun A1 c2 w3 hs3=>?_)))
  refine tm (.tuple #[.slice A1 (((helloFrom b).1).length) c2,I ((helloFrom b).2.1),.bool ((helloFrom b).2.2)]) r0 (qt r0 (xt 0 r0 r0) (qt r0 (xt 1 r0 r0) (qt r0 (xt 2 r0 r0) (tA (I ((helloFrom b).2.1)) r0 (tA (Z95 b) r0 (nl (bN (nN (sr (tm (I ((helloFrom b).2.1)) r0 (tm (Z95 b) r0 (tA (I ((helloFrom b).2.1)) r0 (tA (Z95 b) r0 (nl (nN (rt (fret (.tmp (.tmp .nil)) r0 ?_)))))))))))))))))
  have e2:sniffZ b=((helloFrom b).2.1,((helloFrom b).2.2)):=by exact zq2 ‹_›
  rw[e2]
  exact⟨rfl,(hs3.pk [] r0)⟩
 refine sr (qt r0 (eqi r0 r0) (tA (.bool (decide ((sniffK b)=3))) r0 (nn (cdd r0 (fun h3=>?_) (fun h3=>?_)))))
 ·refine rg (tm (Z14 Ab b cb) r0 (cS hs1 r0 (iBytesText _ _ (hb.up0 hs1) (by(exact(bT_120 (by assumption:sniffK b=3) (by decide)).1)) (by(have h_:=(bT_120 (by assumption:sniffK b=3) (by decide)).2; (try rw[bT_len]); omega))) (fun w4 hs4=>?_)))
  refine cL r0 (iConnectFrom _ _ (by(have h_:=(bT_120 (by assumption:sniffK b=3) (by decide)).2; (try rw[bT_len]); omega)) (hGp.up0 hs4) (hEr.up0 hs4) (hEs.up0 hs4)) ?_
  rintro _ w5 ⟨Aq2,cq2,ak2,aq2,an2,apt2,rfl,hs5⟩
  replace hs5:=hs4.call0 hs5
  refine tm (.tuple #[.agg #[I ak2,(Z4 Aq2 aq2 cq2),Str an2,I apt2],I ((connZ (bT b)).1),.bool ((connZ (bT b)).2)]) r0 (qt r0 (xt 0 r0 r0) (qt r0 (xt 1 r0 r0) (qt r0 (xt 2 r0 r0) (tA (I ((connZ (bT b)).1)) r0 (tA (Z130 b) r0 (nl (bN (nN (sr (tm (I ((connZ (bT b)).1)) r0 (tm (Z130 b) r0 (tA (I ((connZ (bT b)).1)) r0 (tA (Z130 b) r0 (nl (nN (rt (fret (.tmp (.tmp .nil)) r0 ?_)))))))))))))))))
  have e3:sniffZ b=((connZ (bT b)).1,((connZ (bT b)).2)):=by exact zq3 ‹_›
  rw[e3]
  exact⟨rfl,(hs5.pk [] r0)⟩
 refine sr (qt r0 (eqi r0 r0) (tA (.bool (decide ((sniffK b)=4))) r0 (nn (cdd r0 (fun h4=>?_) (fun h4=>?_)))))
 ·refine rg (tm (Z14 Ab b cb) r0 (cS hs1 r0 (iBytesText _ _ (hb.up0 hs1) (by(exact(bT_120 (by assumption:sniffK b=4) (by decide)).1)) (by(have h_:=(bT_120 (by assumption:sniffK b=4) (by decide)).2; (try rw[bT_len]); omega))) (fun w6 hs6=>?_)))
  refine cL r0 (iLineFrom _ _ (by(have h_:=(bT_120 (by assumption:sniffK b=4) (by decide)).2; (try rw[bT_len]); omega)) (hMl.up0 hs6) (hGp.up0 hs6) (hEr.up0 hs6) (hEs.up0 hs6)) ?_
  rintro _ w7 ⟨Aqa1,cqa1,Aqb1,cqb1,ka1,qa1,na1,pa1,kb1,qb1,nb1,pb1,rfl,hs7⟩
  replace hs7:=hs6.call0 hs7
  refine tm (.tuple #[.agg #[I ka1,.slice Aqa1 qa1.length cqa1,Str na1,I pa1,I kb1,(Z4 Aqb1 qb1 cqb1),Str nb1,I pb1],I ((lineZ (bT b)).1),.bool ((lineZ (bT b)).2)]) r0 (qt r0 (xt 0 r0 r0) (qt r0 (xt 1 r0 r0) (qt r0 (xt 2 r0 r0) (tA (I ((lineZ (bT b)).1)) r0 (tA (Z129 b) r0 (nl (bN (nN (sr (tm (I ((lineZ (bT b)).1)) r0 (tm (Z129 b) r0 (tA (I ((lineZ (bT b)).1)) r0 (tA (Z129 b) r0 (nl (nN (rt (fret (.tmp (.tmp .nil)) r0 ?_)))))))))))))))))
  have e4:sniffZ b=((lineZ (bT b)).1,((lineZ (bT b)).2)):=by exact zq4 ‹_›
  rw[e4]
  exact⟨rfl,(hs7.pk [] r0)⟩
 refine sr (qt r0 (eqi r0 r0) (tA (.bool (decide ((sniffK b)=5))) r0 (nn (cdd r0 (fun h5=>?_) (fun h5=>?_)))))
 ·refine rg (tm (Z14 Ab b cb) r0 (cL r0 (iHeadFrom _ _ (hb.up0 hs1)) ?_))
  rintro _ w8 ⟨Aqa2,cqa2,Aqb2,cqb2,At1,nt1,ct1,ka2,qa2,na2,pa2,kb2,qb2,nb2,pb2,rfl,hs8⟩
  replace hs8:=hs1.call0 hs8
  refine tm (.tuple #[.agg #[I ka2,.slice Aqa2 qa2.length cqa2,Str na2,I pa2,I kb2,(Z4 Aqb2 qb2 cqb2),Str nb2,I pb2],.slice At1 nt1 ct1,I ((headFrom b).1),.bool ((headFrom b).2)]) r0 (qt r0 (xt 0 r0 r0) (qt r0 (xt 1 r0 r0) (qt r0 (xt 2 r0 r0) (qt r0 (xt 3 r0 r0) (tA (I ((headFrom b).1)) r0 (tA (Z144 b) r0 (nl (bN (nN (sr (tm (I ((headFrom b).1)) r0 (tm (Z144 b) r0 (tA (I ((headFrom b).1)) r0 (tA (Z144 b) r0 (nn (rt (fret (.tmp (.tmp .nil)) r0 ?_)))))))))))))))))
  have e5:sniffZ b=((headFrom b).1,((headFrom b).2)):=by exact zq5 ‹_›
  rw[e5]
  exact⟨rfl,(hs8.pk [] r0)⟩
 refine sk (bN (nN (sr (tm (I 0) r0 (tm Z6 r0 (tA (I 0) r0 (tA Z6 r0 (nn (rt (fret (.tmp (.tmp .nil)) r0 ?_))))))))))
 have e6:sniffZ b=(0,false):=by exact zq0 ‹_› ‹_› ‹_› ‹_› ‹_›
 rw[e6]
 exact⟨rfl,hs1⟩
theorem iSniffText {Ab:Option Addr} {cb:Nat} (b:List Int) (w:World) (hb:Sl w [] 1 Ab b.length cb (b.map I)) (hb_n:b.length≤1099511627776) (hMl:VarP Tryz.prog w [] "internal/bytealg.MaxLen" isI64) (hGp:VarP Tryz.prog w [] "internal/strconv.uint64pow10" isPow) (hEr:VarP Tryz.prog w [] "strconv.ErrRange" isIfc) (hEs:VarP Tryz.prog w [] "strconv.ErrSyntax" isIfc) (hGk:PA w [] ⟨1,0,none⟩ (kindTs.map Str)):Does Tryz.prog 35 [.slice Ab b.length cb] w (fun v w'=>v=Str (sniffT b)∧SH w w' [] []):=by
 refine fE (N:=21) Tryz.func35 r0 (by kernel_rfl) r0 ?_
 have hs0:=SH.refl w []
 have hb_m:b.length≤9223372036854775807:=Nat.le_trans hb.cap hb.capMax
 refine sr (tA (Str []) r0 (nx (tm (Z14 Ab b cb) r0 (cS hs0 r0 (iSniffKind _ _ (hb.up0 hs0)) (fun w1 hs1=>?_)))))
 refine cS hs1 r0 (iKindText _ _ (hGk.up0 hs1)) (fun w2 hs2=>?_)
 refine tA (Str (kindText (sniffK b))) r0 (nn (sq (sr (tm (Z14 Ab b cb) r0 (cS hs2 r0 (iSniffSize _ _ (hb.up0 hs2) (hMl.up0 hs2) (hGp.up0 hs2) (hEr.up0 hs2) (hEs.up0 hs2)) (fun w3 hs3=>?_))))))
 refine tm (.tuple #[I ((sniffZ b).1),.bool ((sniffZ b).2)]) r0 (qt r0 (xt 0 r0 r0) (qt r0 (xt 1 r0 r0) (tA (I ((sniffZ b).1)) r0 (tA (.bool ((sniffZ b).2)) r0 (nn (sq (rg (tm (.bool ((sniffZ b).2)) r0 (nn (cd r0 (fun h1=>?_) (fun h1=>?_)))))))))))
 ·refine rg (tm (Str (kindText (sniffK b))) r0 (tm (I ((sniffZ b).1)) r0 (cS hs3 r0 (stItoa _ _ (by(have hnb:=sniffZ_bd b; omega)) (hGp.up0 hs3)) (fun w4 hs4=>?_))))
  refine qt r0 (cat r0 r0 (by(have hnb:=sniffZ_bd b; have hkt:=kindText_16 (sniffK b); have hil:=Lib.itoa_length_le (sniffZ b).1 (by omega) (by omega); (try simp only[List.length_append,List.length_cons,List.length_nil]); omega))) (qt r0 (cat r0 r0 (by(have hnb:=sniffZ_bd b; have hkt:=kindText_16 (sniffK b); have hil:=Lib.itoa_length_le (sniffZ b).1 (by omega) (by omega); (try simp only[List.length_append,List.length_cons,List.length_nil]); omega))) (tA (Str ((kindText (sniffK b))++([32]++(Lib.itoa ((sniffZ b).1))))) r0 (nx (tm (Str ((kindText (sniffK b))++([32]++(Lib.itoa ((sniffZ b).1))))) r0 (tA (Str ((kindText (sniffK b))++([32]++(Lib.itoa ((sniffZ b).1))))) r0 (nn (rt (fT (Str ((kindText (sniffK b))++([32]++(Lib.itoa ((sniffZ b).1))))) r0 ?_))))))))
  have e1:(kindText (sniffK b))++([32]++(Lib.itoa ((sniffZ b).1)))=sniffT b:=by exact sniffT_y ‹_›
  exact⟨(congrArg (Str) e1),hs4⟩
 refine sk (nN (sr (tm (Str (kindText (sniffK b))) r0 (tA (Str (kindText (sniffK b))) r0 (nn (rt (fT (Str (kindText (sniffK b))) r0 ?_)))))))
 have e2:kindText (sniffK b)=sniffT b:=by exact sniffT_n ‹_›
 exact⟨(congrArg (Str) e2),hs3⟩
theorem sL51Sniff (s:List UInt8) (w:World) (hs_n:s.length≤1099511627776):Does Tryz.prog 23 [Str s] w (fun v w'=>v=Str (sniffS s)∧SH w w' [] []):=by
 refine fE (N:=33) Tryz.func23 r0 (by kernel_rfl) r0 ?_
 have hs0:=SH.refl w []
 refine sr (tA (Str []) r0 (nx (tm (Str s) r0 (cS2 hs0 r0 (sHexFrom _ _ (by omega)) (fun A1 c1 w1 hs1=>?_)))))
 refine tm (.tuple #[.slice A1 (((hexFrom s).1).length) c1,.bool ((hexFrom s).2)]) r0 (qt r0 (xt 0 r0 r0) (qt r0 (xt 1 r0 r0) (tA (.slice A1 (((hexFrom s).1).length) c1) r0 (tA (.bool ((hexFrom s).2)) r0 (nn (sq (sr (tm (.bool ((hexFrom s).2)) r0 (qt r0 (nt r0) (nn (cd r0 (fun h1=>?_) (fun h1=>?_))))))))))))
 ·have h2:=nbF h1
  exact sr (tA (Str [110,111,10]) r0 (nn (rt (tR (fS r0 (sniffS_0 ‹_›) (hs1.pk [] r0))))))
 have h3:=nbT h1
 refine sk (nN (sr (tm (.slice A1 (((hexFrom s).1).length) c1) r0 (cS hs1 r0 (sSniffSize _ _ (hs1.sl0 0 r0)) (fun w2 hs2=>?_)))))
 refine tm (.tuple #[I ((sniffZ ((hexFrom s).1)).1),.bool ((sniffZ ((hexFrom s).1)).2)]) r0 (qt r0 (xt 0 r0 r0) (qt r0 (xt 1 r0 r0) (tA (I ((sniffZ ((hexFrom s).1)).1)) r0 (tA (.bool ((sniffZ ((hexFrom s).1)).2)) r0 (nn (sq (sr (tm (.bool ((sniffZ ((hexFrom s).1)).2)) r0 (qt r0 (nt r0) (nn (cd r0 (fun h4=>?_) (fun h4=>?_))))))))))))
 ·have h5:=nbF h4
  refine sr (tm (.slice A1 (((hexFrom s).1).length) c1) r0 (cS hs2 r0 (sSniffKind _ _ (hs2.sl0 0 r0)) (fun w3 hs3=>?_)))
  refine cS hs3 r0 (sKindText _ _) (fun w4 hs4=>?_)
  exact qt r0 (cat r0 r0 (by(have hsf:=sniff_f s; have hil:=Lib.itoa_length_le (sniffZ (hexFrom s).1).1 (by omega) (by omega); (try simp only[List.length_append,List.length_cons,List.length_nil]); omega))) (tA (Str ((kindText (sniffK ((hexFrom s).1)))++[10])) r0 (nn (rt (tR (fS r0 (sniffS_1 ‹_› ‹_›) (hs4.pk [] r0))))))
 have h6:=nbT h4
 refine sk (nN (sr (tm (.slice A1 (((hexFrom s).1).length) c1) r0 (cS hs2 r0 (sSniffKind _ _ (hs2.sl0 0 r0)) (fun w5 hs5=>?_)))))
 refine cS hs5 r0 (sKindText _ _) (fun w6 hs6=>?_)
 refine qt r0 (cat r0 r0 (by(have hsf:=sniff_f s; have hil:=Lib.itoa_length_le (sniffZ (hexFrom s).1).1 (by omega) (by omega); (try simp only[List.length_append,List.length_cons,List.length_nil]); omega))) (tm (I ((sniffZ ((hexFrom s).1)).1)) r0 (cS hs6 r0 (l6Dec _ _ (by(have hsf:=sniff_f s; omega))) (fun w7 hs7=>?_)))
 refine qt r0 (cat r0 r0 (by(have hsf:=sniff_f s; have hil:=Lib.itoa_length_le (sniffZ (hexFrom s).1).1 (by omega) (by omega); (try simp only[List.length_append,List.length_cons,List.length_nil]); omega))) (qt r0 (cat r0 r0 (by(have hsf:=sniff_f s; have hil:=Lib.itoa_length_le (sniffZ (hexFrom s).1).1 (by omega) (by omega); (try simp only[List.length_append,List.length_cons,List.length_nil]); omega))) (tA (Str ((((kindText (sniffK ((hexFrom s).1)))++[32])++(Lib.itoa ((sniffZ ((hexFrom s).1)).1)))++[10])) r0 (nn (rt (fT (Str ((((kindText (sniffK ((hexFrom s).1)))++[32])++(Lib.itoa ((sniffZ ((hexFrom s).1)).1)))++[10])) r0 ?_)))))
 have e3:(((kindText (sniffK ((hexFrom s).1)))++[32])++(Lib.itoa ((sniffZ ((hexFrom s).1)).1)))++[10]=sniffS s:=by exact sniffS_2 ‹_› ‹_›
 exact⟨(congrArg (Str) e3),(hs7.pk [] r0)⟩
set_option maxHeartbeats 8000000 in
theorem iLoginText (s:List UInt8) (w:World) (hs_n:s.length≤2147483648):Does Tryz.prog 33 [Str s] w (fun v w'=>v=Str (loginX s)∧SH w w' [] []):=by
 refine fE (N:=20) Tryz.func33 r0 (by kernel_rfl) r0 ?_
 have hs0:=SH.refl w []
 refine sr (tA (Str []) r0 (nx (tm (Str s) r0 (cS2 hs0 r0 (stSplit _ 47 _ (by omega)) (fun A1 c1 w1 hs1=>?_)))))
 refine tA (.slice A1 ((splitB 47 s).length) c1) r0 (nn (sq (sr (tm (.slice A1 ((splitB 47 s).length) c1) r0 (qt r0 (lnA sl51 r0) (qt r0 (nei r0 r0) (nn (cdd r0 (fun h1=>?_) (fun h1=>?_)))))))))
 ·exact sr (tA (Str [110,111]) r0 (nn (rt (tR (fS r0 (loginX_n ‹_›) (hs1.pk [] r0))))))
 refine sk (nN (sq ?_))
 obtain ⟨b1,rfl⟩:=own_form hs1 0 r0 (by omega)
 refine raJ (fun w'=>∃ L,SH w w' [] L∧(.own (Z8 b1) ((splitB 47 s).length) c1 9 1 ((splitB 47 s).map Str))∈L∧True) (fun f w'=>∃ (A7':Option Addr) (c7':Nat),Hz f [(2,Str (hexOrT ((Z47 s).1) ((Z47 s).2)))]∧SH w w' [] [.own (Z8 b1) ((splitB 47 s).length) c1 9 1 ((splitB 47 s).map Str),.own A7' (((Z47 s).1).length) c7' 3 1 (((Z47 s).1).map I)]) mixed ?_ ?_
 ·refine dG 2 12 1023 (fun f w'=>∃ (A7':Option Addr) (c7':Nat),Hz f [(2,Str []),(17,.slice A7' (((Z47 s).1).length) c7'),(18,.bool ((Z47 s).2))]∧SH w w' [] [.own (Z8 b1) ((splitB 47 s).length) c1 9 1 ((splitB 47 s).map Str),.own A7' (((Z47 s).1).length) c7' 3 1 (((Z47 s).1).map I)]) ?_ (fun D_4_0=>?_)
  ·rintro f w2 ⟨A7',c7',⟨g1,rfl⟩,hs2⟩
   refine aO 10 r0 (cS hs2 r0 (iHexOr _ _ _ (hs2.sl0 1 r0)) (fun w3 hs3=>?_))
   refine nk (m1 hs3 0 r0) (tk (fuel:=0) (is:=[11]) (.cons r0 (.nil)) (by kernel_rfl) (by kernel_rfl) (m1 hs3 0 r0) (yA r0 (asg (v:=Str (hexOrT ((Z47 s).1) ((Z47 s).2))) r0) (.nil (ad (by kernel_rfl) ?_))))
   exact⟨A7',c7',(zR r0),hs3⟩
  refine dG 5 12 127 (fun f w'=>Hz f [(2,Str []),(15,.agg #[Str ((splitB 47 s).getD 0 []),Str ((splitB 47 s).getD 1 [])])]∧SH w w' [] [.own (Z8 b1) ((splitB 47 s).length) c1 9 1 ((splitB 47 s).map Str)]) ?_ (fun D_4_1=>?_)
  ·rintro f w4 ⟨⟨g2,rfl⟩,hs4⟩
   refine aO 7 r0 (cL r0 (iLoginBytes _ _ _ (by(have w0:=split47_len s 0; have w1:=split47_len s 1; omega)) (by(have w0:=split47_len s 0; have w1:=split47_len s 1; omega))) ?_)
   rintro _ w5 ⟨A7',c7',rfl,hs5⟩
   replace hs5:=hs4.call0 hs5
   exact nk (m1 hs5 0 r0) (tk (fuel:=2) (is:=[8,9]) (.cons r0 (.cons r0 (.nil))) (by kernel_rfl) (by kernel_rfl) (m1 hs5 0 r0) (yA r0 (xt 0 r0 r0) (yA r0 (xt 1 r0 r0) (.nil (alc D_4_0 ⟨A7',c7',(zR r0),hs5⟩)))))
  have hs6:=hs1.drew
  exact tk (fuel:=5) (is:=[0,1,2,3,4,5,6]) (.cons r0 (.cons r0 (.cons r0 (.cons r0 (.cons r0 (.cons r0 (.cons r0 (.nil)))))))) (by kernel_rfl) (by kernel_rfl) (m1 hs6 0 r0) (yA r0 (mv (v:=sb b1 ((splitB 47 s).length) c1) r0) (yA r0 (ixo 0 sl51 r0 r0 (by omega)) (yB r0 (fun ⟨Lq,hsq,mh0,_⟩=>ldo1m (g:=Str) (ys:=splitB 47 s) (o:=0) [] hsq mh0 r0 (by omega) one9) (yA r0 (mv (v:=sb b1 ((splitB 47 s).length) c1) r0) (yA r0 (ixo 1 sl51 r0 r0 (by omega)) (yB r0 (fun ⟨Lq,hsq,mh0,_⟩=>ldo1m (g:=Str) (ys:=splitB 47 s) (o:=1) [] hsq mh0 r0 (by omega) one9) (yA r0 (bdv (v:=.agg #[Str ((splitB 47 s).getD 0 []),Str ((splitB 47 s).getD 1 [])]) [(0,Str ((splitB 47 s).getD 0 [])),(1,Str ((splitB 47 s).getD 1 []))] r0 (fun _=>by kernel_rfl)) (.nil (alc D_4_1 ⟨(zR r0),hs6⟩)))))))))
 rintro f w6 ⟨A7',c7',⟨g3,rfl⟩,hs7⟩
 refine nN (rt (fT (Str (hexOrT ((Z47 s).1) ((Z47 s).2))) r0 ?_))
 have e2:hexOrT ((Z47 s).1) ((Z47 s).2)=loginX s:=by exact loginX_y ‹_›
 exact⟨(congrArg (Str) e2),(hs7.pk [] r0)⟩
set_option maxHeartbeats 8000000 in
theorem iAskText (c:List UInt8) (s:List UInt8) (w:World) (hc_n:c.length≤1099511627776) (hs_n:s.length≤1099511627776) (hGp:VarP Tryz.prog w [] "internal/strconv.uint64pow10" isPow) (hEr:VarP Tryz.prog w [] "strconv.ErrRange" isIfc) (hEs:VarP Tryz.prog w [] "strconv.ErrSyntax" isIfc):Does Tryz.prog 32 [Str c,Str s] w (fun v w'=>v=Str (askX (decide (c=[111,108,100])) s)∧SH w w' [] []):=by
 refine fE (N:=28) Tryz.func32 r0 (by kernel_rfl) r0 ?_
 have hs0:=SH.refl w []
 refine sr (tA (Str []) r0 (nx (tm (Str s) r0 (cS2 hs0 r0 (iAddressFrom _ _ (by omega) (hGp.up0 hs0) (hEr.up0 hs0) (hEs.up0 hs0)) (fun Aq1 cq1 w1 hs1=>?_)))))
 refine tm (.tuple #[.agg #[(Z132 s),(Z96 Aq1 s cq1),(Z109 s),(Z118 s)],.bool ((addrFrom s).2)]) r0 (qt r0 (xt 0 r0 r0) (qt r0 (xt 1 r0 r0) (al (cs:=Z17) hs1 tz54 r0 trivial r0 (fun b1 w2 hs2=>?_))))
 refine sG (Z54 s Aq1 cq1) hs2 1 r0 ag54 (fun w3 hs3=>?_)
 refine tA (Z99 s) r0 (nn (sq (sr (tm (Z99 s) r0 (qt r0 (nt r0) (nn (cd r0 (fun h1=>?_) (fun h1=>?_))))))))
 ·have h2:=nbF h1
  exact sr (tA (Str [110,111]) r0 (nn (rt (tR (fS r0 (askX_0 ‹_›) (hs3.pk [] r0))))))
 have h3:=nbT h1
 refine sk (nN (sq (sr (tm (Str c) r0 (qt r0 (eqs r0 r0) (nl (nN (cdd r0 (fun h4=>?_) (fun h4=>?_)))))))))
 ·refine sr (qt r0 (lG (Z54 s Aq1 cq1) hs3 1 r0 ag54) (qt r0 (bdv (v:=.agg #[I 1,(Z132 s),(Z96 Aq1 s cq1),(Z109 s),(Z118 s),Str []]) [(0,I 1),(1,.agg #[(Z132 s),(Z96 Aq1 s cq1),(Z109 s),(Z118 s)])] r0 (fun _=>by kernel_rfl)) (cS2 hs3 r0 (iOldBytes 1 _ _ _ _ [] _ (hs3.sl0 0 r0) (by(have hnl:=addrFrom_nm s; omega)) (by((simp; done)))) (fun A1 c1 w4 hs4=>?_))))
  refine qt r0 (xt 0 r0 r0) (qt r0 (xt 1 r0 r0) (cS hs4 r0 (iHexOr _ _ _ (hs4.sl0 2 r0)) (fun w5 hs5=>?_)))
  exact tA (Str (hexOrT ((Z136 s).1) ((Z136 s).2))) r0 (nn (rt (tR (fS r0 (askX_o ‹_› ‹_›) (hs5.pk [] r0)))))
 refine sk (nN (sr (qt r0 (lG (Z54 s Aq1 cq1) hs3 1 r0 ag54) (qt r0 (bdv (v:=.agg #[I 1,(Z132 s),(Z96 Aq1 s cq1),(Z109 s),(Z118 s)]) [(0,I 1),(1,.agg #[(Z132 s),(Z96 Aq1 s cq1),(Z109 s),(Z118 s)])] r0 (fun _=>by kernel_rfl)) (cS2 hs3 r0 (iRequestBytes 1 _ _ _ _ _ (hs3.sl0 0 r0) (by(have hnl:=addrFrom_nm s; omega))) (fun A2 c2 w6 hs6=>?_))))))
 refine qt r0 (xt 0 r0 r0) (qt r0 (xt 1 r0 r0) (cS hs6 r0 (iHexOr _ _ _ (hs6.sl0 2 r0)) (fun w7 hs7=>?_)))
 refine tA (Str (hexOrT ((Z61 s).1) ((Z61 s).2))) r0 (nn (rt (fT (Str (hexOrT ((Z61 s).1) ((Z61 s).2))) r0 ?_)))
 have e3:hexOrT ((Z61 s).1) ((Z61 s).2)=askX (decide (c=[111,108,100])) s:=by exact askX_r ‹_› ‹_›
 exact⟨(congrArg (Str) e3),(hs7.pk [] r0)⟩
theorem iTalkNew {Awt:Option Addr} {cwt:Nat} (wt:List Int) {Alg:Option Addr} {clg:Nat} (lg:List (List UInt8×List UInt8)) (w:World) (hwt:Sl w [] 1 Awt wt.length cwt (wt.map I)) (hwt_n:wt.length≤1099511627776) (hlg:Sl w [] 2 Alg lg.length clg (lg.flatMap gLogin)) (hlg_e: ∀ u∈lg,u.1.length≤9223372036854775807∧u.2.length≤9223372036854775807) (hlg_n:lg.length≤1099511627776) (hGp:VarP Tryz.prog w [] "internal/strconv.uint64pow10" isPow) (hEr:VarP Tryz.prog w [] "strconv.ErrRange" isIfc) (hEs:VarP Tryz.prog w [] "strconv.ErrSyntax" isIfc):Does Tryz.prog 9 [.slice Awt wt.length cwt,.slice Alg lg.length clg] w (fun v w'=>∃ Awr:Option Addr,∃ cwr:Nat,∃ Alr:Option Addr,∃ clr:Nat,v=.tuple #[.agg #[.int .i64 ((talkNew wt lg).1.1),.slice Awr ((talkNew wt lg).1.2.1).length cwr,.slice Alr ((talkNew wt lg).1.2.2.1).length clr,Str ((talkNew wt lg).1.2.2.2)],.bool ((talkNew wt lg).2)]∧SH w w' [] [.own Awr (((talkNew wt lg).1.2.1).length) cwr 3 1 (((talkNew wt lg).1.2.1).map I),.own Alr (((talkNew wt lg).1.2.2.1).length) clr 31 2 (((talkNew wt lg).1.2.2.1).flatMap gLogin)]):=by
 refine fE (N:=16) Tryz.func9 r0 (by kernel_rfl) r0 ?_
 have hs0:=SH.refl w []
 have hwt_m:wt.length≤9223372036854775807:=Nat.le_trans hwt.cap hwt.capMax
 have hlg_m:lg.length≤9223372036854775807:=Nat.le_trans hlg.cap hlg.capMax
 refine sr (al (cs:=Z31) hs0 tz27 r0 trivial r0 (fun b1 w1 hs1=>?_))
 refine tA Z6 r0 (nx (tm (Z14 Awt wt cwt) r0 (tm (Z87 Alg lg clg) r0 (qt r0 (bdv (v:=.agg #[I 0,(Z4 Awt wt cwt),(Z19 Alg lg clg),Str []]) [(1,.slice Awt wt.length cwt),(2,.slice Alg lg.length clg)] r0 (fun _=>by kernel_rfl)) (cL r0 (iCloneTalk 0 _ _ [] _ (hwt.up0 hs1) (by omega) (hlg.up0 hs1) hlg_e (by omega)) ?_)))))
 rintro _ w2 ⟨Aw1,cw1,Al1,cl1,rfl,hs2⟩
 replace hs2:=hs1.call0 hs2
 refine al (cs:=Z31) hs2 tz27 r0 trivial r0 (fun b2 w3 hs3=>?_)
 refine sG [I 0,(Z4 Aw1 wt cw1),(Z19 Al1 lg cl1),Str []] hs3 3 r0 ag27 (fun w4 hs4=>?_)
 refine nn (sq (sr (qt r0 (lG [I 0,(Z4 Aw1 wt cw1),(Z19 Al1 lg cl1),Str []] hs4 3 r0 ag27) (cS hs4 r0 (iTalkValid 0 _ _ [] _ (hs4.sl0 1 r0) (hs4.sl0 2 r0) (‹_›) (by(simp; done)) (hGp.up0 hs4) (hEr.up0 hs4) (hEs.up0 hs4)) (fun w5 hs5=>?_)))))
 refine qt r0 (nt r0) (nn (cd r0 (fun h1=>?_) (fun h1=>?_)))
 ·have h2:=nbF h1
  refine sr (qt r0 (bdv (v:=.agg #[I 0,ns,ns,Str []]) [] r0 (fun _=>by kernel_rfl)) (sG Z31 hs5 0 r0 ag27 (fun w6 hs6=>?_)))
  refine tA Z6 r0 (nn ?_)
  have hs7:=hs6.pq [3] r0
  refine rt (tR (fret (resC hs7 0 r0 r0 ag27 r0 (.tmp .nil)) r0 ?_))
  have hs8:=hs7.nl [Z0] r0
  have hs9:=hs8.nl [.own none (([]:List (List UInt8×List UInt8)).length) 0 31 2 (([]:List (List UInt8×List UInt8)).flatMap gLogin)] r0
  have e1:talkNew wt lg=((0,([]:List Int),([]:List (List UInt8×List UInt8)),[]),false):=by exact talkNew_n ‹_›
  rw[e1]
  exact⟨none,0,none,0,rfl,(hs9.pk [1,2] r0)⟩
 have h3:=nbT h1
 refine sk (nN (sr (qt r0 (lG [I 0,(Z4 Aw1 wt cw1),(Z19 Al1 lg cl1),Str []] hs5 3 r0 ag27) (sG [I 0,(Z4 Aw1 wt cw1),(Z19 Al1 lg cl1),Str []] hs5 0 r0 ag27 (fun w7 hs10=>?_)))))
 refine tA Z35 r0 (nn (rt (fret (resC hs10 3 r0 r0 ag27 r0 (.tmp .nil)) r0 ?_)))
 have e2:talkNew wt lg=((0,wt,lg,[]),true):=by exact talkNew_y ‹_›
 rw[e2]
 exact⟨Aw1,cw1,Al1,cl1,rfl,(hs10.pk [0,1] r0)⟩
set_option maxHeartbeats 8000000 in
theorem sL51Say (sx:Int) {Awt:Option Addr} {cwt:Nat} (wt:List Int) {Alg:Option Addr} {clg:Nat} (lg:List (List UInt8×List UInt8)) (to:List UInt8) (s:List UInt8) (w:World) (hwt:OwnR w Awt wt.length cwt 3 1 (wt.map I)) (hlg:OwnR w Alg lg.length clg 31 2 (lg.flatMap gLogin)) (hs_n:s.length≤1099511627776) (hfit:tkFit (sx,wt,lg,to)) (hx_wt_lg: ∀ k,(It.own Awt wt.length cwt 3 1 (wt.map I)).has k→ ¬ (It.own Alg lg.length clg 31 2 (lg.flatMap gLogin)).has k):Does Tryz.prog 24 [.agg #[I sx,.slice Awt wt.length cwt,.slice Alg lg.length clg,Str to],Str s] w (fun v w'=>∃ Awr:Option Addr,∃ cwr:Nat,∃ Alr:Option Addr,∃ clr:Nat,v=.tuple #[.agg #[.int .i64 ((sayLn (sx,wt,lg,to) s).1.1),.slice Awr ((sayLn (sx,wt,lg,to) s).1.2.1).length cwr,.slice Alr ((sayLn (sx,wt,lg,to) s).1.2.2.1).length clr,Str ((sayLn (sx,wt,lg,to) s).1.2.2.2)],Str ((sayLn (sx,wt,lg,to) s).2)]∧SH w w' (ownM Awt cwt++(ownM Alg clg++[])) [.own Awr (((sayLn (sx,wt,lg,to) s).1.2.1).length) cwr 3 1 (((sayLn (sx,wt,lg,to) s).1.2.1).map I),.own Alr (((sayLn (sx,wt,lg,to) s).1.2.2.1).length) clr 31 2 (((sayLn (sx,wt,lg,to) s).1.2.2.1).flatMap gLogin)]):=by
 refine fE (N:=47) Tryz.func24 r0 (by kernel_rfl) r0 ?_
 have hs0:=SH.entryK [(Z32 Awt wt cwt),(Z26 Alg lg clg)] (fa_cons hwt (fa_cons hlg fa_nil)) (.cons (fa_cons hx_wt_lg fa_nil) (.cons fa_nil .nil))
 have hwt_m:wt.length≤9223372036854775807:=Nat.le_trans hwt.2.1 hwt.2.2.1
 have hlg_m:lg.length≤9223372036854775807:=Nat.le_trans hlg.2.1 hlg.2.2.1
 refine sr (bx (v:=.agg #[I sx,(Z4 Awt wt cwt),(Z19 Alg lg clg),Str to]) (cs:=[I sx,(Z4 Awt wt cwt),(Z19 Alg lg clg),Str to]) hs0 r0 r0 trivial r0 (fun b1 w1 hs1=>?_))
 refine al (cs:=Z31) hs1 tz27 r0 trivial r0 (fun b2 w2 hs2=>?_)
 refine tA (Str []) r0 (nx (tm (Str s) r0 (cS2 hs2 r0 (sHexFrom _ _ (by omega)) (fun A1 c1 w3 hs3=>?_))))
 refine tm (.tuple #[.slice A1 (((hexFrom s).1).length) c1,.bool ((hexFrom s).2)]) r0 (qt r0 (xt 0 r0 r0) (qt r0 (xt 1 r0 r0) (tA (.slice A1 (((hexFrom s).1).length) c1) r0 (tA (.bool ((hexFrom s).2)) r0 (nn (sq (rg (qt r0 (lG [I sx,(Z4 Awt wt cwt),(Z19 Alg lg clg),Str to] hs3 2 r0 ag27) (tm (.slice A1 (((hexFrom s).1).length) c1) r0 (cL r0 (sTalkSay _ _ _ _ _ _ (hs3.sl0 0 r0) (hs3.sl0 1 r0) (by exact fit_R hfit.2.2.2.2) (by(have hft:=hfit; simp only[tkFit]at hft; omega)) (hs3.sl0 4 r0)) ?_))))))))))
 rintro _ w4 ⟨Aw1,cw1,Al1,cl1,Ay1,cy1,rfl,hs4⟩
 replace hs4:=hs3.call0 hs4
 refine tm (.tuple #[.agg #[(Z141 sx wt lg to s),(Z108 Aw1 sx wt lg to s cw1),(Z105 Al1 sx wt lg to s cl1),(Z122 sx wt lg to s)],.slice Ay1 (((talkSay sx wt lg to ((hexFrom s).1)).2.1).length) cy1,.bool ((talkSay sx wt lg to ((hexFrom s).1)).2.2)]) r0 (qt r0 (xt 0 r0 r0) (qt r0 (xt 1 r0 r0) (qt r0 (xt 2 r0 r0) (al (cs:=Z31) hs4 tz27 r0 trivial r0 (fun b3 w5 hs5=>?_)))))
 refine sG (Z7 sx wt lg to s Aw1 cw1 Al1 cl1) hs5 8 r0 ag27 (fun w6 hs6=>?_)
 refine tA (.slice Ay1 (((talkSay sx wt lg to ((hexFrom s).1)).2.1).length) cy1) r0 (tA (.bool ((talkSay sx wt lg to ((hexFrom s).1)).2.2)) r0 (nn (sq (sr (tm (.bool ((hexFrom s).2)) r0 (qt r0 (nt r0) (tm (.bool (!((hexFrom s).2))) r0 (spl 25 r0 (fun h1=>?_) (fun h1=>?_)))))))))
 ·have h2:=nbF h1
  refine gt5 r0 (gt5 r0 (qt r0 (pt (v:=.bool true) r0 r0) (nn (cdt r0 (sr (qt r0 (lG [I sx,(Z4 Awt wt cwt),(Z19 Alg lg clg),Str to] hs6 2 r0 ag27) (sG [I sx,(Z4 Awt wt cwt),(Z19 Alg lg clg),Str to] hs6 3 r0 ag27 (fun w7 hs7=>?_))))))))
  refine tA (Str [110,111,10]) r0 (nn ?_)
  have hs8:=hs7.pq [0,1,8] r0
  refine rt (tR (fret (resC hs8 2 r0 r0 ag27 r0 (.tmp .nil)) r0 ?_))
  have e1:sayLn (sx,wt,lg,to) s=((sx,wt,lg,to),[110,111,10]):=by exact sayLn_h ‹_›
  rw[e1]
  exact⟨Awt,cwt,Alg,clg,rfl,(hs8.pk [0,1] r0)⟩
 have h3:=nbT h1
 refine qh r0 (mv (v:=.bool ((talkSay sx wt lg to ((hexFrom s).1)).2.2)) r0) (qh r0 (nt r0) (qt r0 (pf (v:=.bool (!((talkSay sx wt lg to ((hexFrom s).1)).2.2))) r0 r0) (nn (cd r0 (fun h4=>?_) (fun h4=>?_)))))
 ·have h5:=nbF h4
  refine sr (qt r0 (lG [I sx,(Z4 Awt wt cwt),(Z19 Alg lg clg),Str to] hs6 2 r0 ag27) (sG [I sx,(Z4 Awt wt cwt),(Z19 Alg lg clg),Str to] hs6 3 r0 ag27 (fun w8 hs9=>?_)))
  refine tA (Str [110,111,10]) r0 (nn ?_)
  have hs10:=hs9.pq [0,1,8] r0
  refine rt (tR (fret (resC hs10 2 r0 r0 ag27 r0 (.tmp .nil)) r0 ?_))
  have e2:sayLn (sx,wt,lg,to) s=((sx,wt,lg,to),[110,111,10]):=by exact sayLn_n ‹_› ‹_›
  rw[e2]
  exact⟨Awt,cwt,Alg,clg,rfl,(hs10.pk [0,1] r0)⟩
 have h6:=nbT h4
 refine sk (nN ?_)
 have hs11:=hs6.pq [0,1,3,5,6,7,8] r0
 refine sq (sr (tm (.slice Ay1 (((talkSay sx wt lg to ((hexFrom s).1)).2.1).length) cy1) r0 (qt r0 (lnA sl24 r0) (qt r0 (eqi r0 r0) (nn (cdd r0 (fun h7=>?_) (fun h7=>?_)))))))
 ·refine sq ?_
  refine raJ (fun w'=>∃ L,SH w w' (ownM Awt cwt++(ownM Alg clg++[])) L∧(.blk b3 27 (Z7 sx wt lg to s Aw1 cw1 Al1 cl1))∈L∧True) (fun f w'=>Hz f [(4,pB b2),(5,Str ((stateT ((talkSay sx wt lg to ((hexFrom s).1)).1.1))++[10]))]∧SH w w' (ownM Awt cwt++(ownM Alg clg++[])) [(Z32 Awt wt cwt),(Z26 Alg lg clg),.blk b2 27 (Z7 sx wt lg to s Aw1 cw1 Al1 cl1),(Z53 Aw1 sx wt lg to s cw1),(Z50 Al1 sx wt lg to s cl1),.own Ay1 (((talkSay sx wt lg to ((hexFrom s).1)).2.1).length) cy1 3 1 (((talkSay sx wt lg to ((hexFrom s).1)).2.1).map I),.blk b3 27 (Z7 sx wt lg to s Aw1 cw1 Al1 cl1)]) mixed ?_ ?_
  ·refine dG 2 7 31 (fun f w'=>Hz f [(4,pB b2),(5,Str []),(33,.agg #[(Z141 sx wt lg to s),(Z108 Aw1 sx wt lg to s cw1),(Z105 Al1 sx wt lg to s cl1),(Z122 sx wt lg to s)]),(37,Str ((stateT ((talkSay sx wt lg to ((hexFrom s).1)).1.1))++[10]))]∧SH w w' (ownM Awt cwt++(ownM Alg clg++[])) [(Z32 Awt wt cwt),(Z26 Alg lg clg),.blk b2 27 Z31,(Z53 Aw1 sx wt lg to s cw1),(Z50 Al1 sx wt lg to s cl1),.own Ay1 (((talkSay sx wt lg to ((hexFrom s).1)).2.1).length) cy1 3 1 (((talkSay sx wt lg to ((hexFrom s).1)).2.1).map I),.blk b3 27 (Z7 sx wt lg to s Aw1 cw1 Al1 cl1)]) ?_ (fun D_6_0=>?_)
   ·rintro f w9 ⟨⟨g1,rfl⟩,hs12⟩
    refine aO 5 r0 (sG (Z7 sx wt lg to s Aw1 cw1 Al1 cl1) hs12 2 r0 ag27 (fun w10 hs13=>?_))
    refine nk (m1 hs13 5 r0) (tk (fuel:=0) (is:=[6]) (.cons r0 (.nil)) (by kernel_rfl) (by kernel_rfl) (m1 hs13 5 r0) (yA r0 (asg (v:=Str ((stateT ((talkSay sx wt lg to ((hexFrom s).1)).1.1))++[10])) r0) (.nil (ad (by kernel_rfl) ?_))))
    exact⟨(zR r0),(hs13.pk [0,1,6,2,3,4,5] r0)⟩
   refine dG 4 7 7 (fun f w'=>Hz f [(4,pB b2),(5,Str []),(33,.agg #[(Z141 sx wt lg to s),(Z108 Aw1 sx wt lg to s cw1),(Z105 Al1 sx wt lg to s cl1),(Z122 sx wt lg to s)]),(35,I ((talkSay sx wt lg to ((hexFrom s).1)).1.1))]∧SH w w' (ownM Awt cwt++(ownM Alg clg++[])) [(Z32 Awt wt cwt),(Z26 Alg lg clg),.blk b2 27 Z31,(Z53 Aw1 sx wt lg to s cw1),(Z50 Al1 sx wt lg to s cl1),.own Ay1 (((talkSay sx wt lg to ((hexFrom s).1)).2.1).length) cy1 3 1 (((talkSay sx wt lg to ((hexFrom s).1)).2.1).map I),.blk b3 27 (Z7 sx wt lg to s Aw1 cw1 Al1 cl1)]) ?_ (fun D_6_1=>?_)
   ·rintro f w11 ⟨⟨g2,rfl⟩,hs14⟩
    refine aO 3 r0 (cS hs14 r0 (sL51State _ _) (fun w12 hs15=>?_))
    exact nk (m1 hs15 6 r0) (tk (fuel:=2) (is:=[4]) (.cons r0 (.nil)) (by kernel_rfl) (by kernel_rfl) (m1 hs15 6 r0) (yA r0 (cat r0 r0 (by(have h1_:=stateT_len (talkSay sx wt lg to (hexFrom s).1).1.1; have h2_:=hexText_len (talkSay sx wt lg to (hexFrom s).1).2.1; (try simp only[List.length_append,List.length_cons,List.length_nil]); omega))) (.nil (alc D_6_0 ⟨(zR r0),hs15⟩))))
   have hs16:=hs11.drew
   exact tk (fuel:=4) (is:=[0,1,2]) (.cons r0 (.cons r0 (.cons r0 (.nil)))) (by kernel_rfl) (by kernel_rfl) (m1 hs16 6 r0) (yB r0 (fun ⟨Lq,hsq,mh0,_⟩=>ldgm (vs:=(Z7 sx wt lg to s Aw1 cw1 Al1 cl1)) hsq mh0 r0 r0 r0 ag27) (yA r0 (fa 0 fo27_0 r0) (yB r0 (fun ⟨Lq,hsq,mh0,_⟩=>lM (I ((talkSay sx wt lg to ((hexFrom s).1)).1.1)) hsq mh0 r0 one3) (.nil (alc D_6_1 ⟨(zR r0),hs16⟩)))))
  rintro f w13 ⟨⟨g3,rfl⟩,hs17⟩
  refine nN ?_
  have hs18:=hs17.pq [0,1,2,3,4] r0
  refine rt (tR (fret (resC hs18 2 r0 r0 ag27 r0 (.tmp .nil)) r0 ?_))
  have e3:sayLn (sx,wt,lg,to) s=(((talkSay sx wt lg to ((hexFrom s).1)).1.1,(talkSay sx wt lg to ((hexFrom s).1)).1.2.1,(talkSay sx wt lg to ((hexFrom s).1)).1.2.2.1,(talkSay sx wt lg to ((hexFrom s).1)).1.2.2.2),(stateT ((talkSay sx wt lg to ((hexFrom s).1)).1.1))++[10]):=by exact sayLn_0 ‹_› ‹_› ‹_›
  rw[e3]
  exact⟨Aw1,cw1,Al1,cl1,rfl,(hs18.pk [3,4] r0)⟩
 refine sk (nN (sq ?_))
 refine raJ (fun w'=>∃ L,SH w w' (ownM Awt cwt++(ownM Alg clg++[])) L∧(.blk b3 27 (Z7 sx wt lg to s Aw1 cw1 Al1 cl1))∈L∧True) (fun f w'=>Hz f [(4,pB b2),(5,Str ((((stateT ((talkSay sx wt lg to ((hexFrom s).1)).1.1))++[32])++(hexText ((talkSay sx wt lg to ((hexFrom s).1)).2.1)))++[10]))]∧SH w w' (ownM Awt cwt++(ownM Alg clg++[])) [(Z32 Awt wt cwt),(Z26 Alg lg clg),.blk b2 27 (Z7 sx wt lg to s Aw1 cw1 Al1 cl1),(Z53 Aw1 sx wt lg to s cw1),(Z50 Al1 sx wt lg to s cl1),.own Ay1 (((talkSay sx wt lg to ((hexFrom s).1)).2.1).length) cy1 3 1 (((talkSay sx wt lg to ((hexFrom s).1)).2.1).map I),.blk b3 27 (Z7 sx wt lg to s Aw1 cw1 Al1 cl1)]) mixed ?_ ?_
 ·refine dG 2 11 511 (fun f w'=>Hz f [(4,pB b2),(5,Str []),(38,.agg #[(Z141 sx wt lg to s),(Z108 Aw1 sx wt lg to s cw1),(Z105 Al1 sx wt lg to s cl1),(Z122 sx wt lg to s)]),(46,Str ((((stateT ((talkSay sx wt lg to ((hexFrom s).1)).1.1))++[32])++(hexText ((talkSay sx wt lg to ((hexFrom s).1)).2.1)))++[10]))]∧SH w w' (ownM Awt cwt++(ownM Alg clg++[])) [(Z32 Awt wt cwt),(Z26 Alg lg clg),.blk b2 27 Z31,(Z53 Aw1 sx wt lg to s cw1),(Z50 Al1 sx wt lg to s cl1),.own Ay1 (((talkSay sx wt lg to ((hexFrom s).1)).2.1).length) cy1 3 1 (((talkSay sx wt lg to ((hexFrom s).1)).2.1).map I),.blk b3 27 (Z7 sx wt lg to s Aw1 cw1 Al1 cl1)]) ?_ (fun D_7_0=>?_)
  ·rintro f w14 ⟨⟨g4,rfl⟩,hs19⟩
   refine aO 9 r0 (sG (Z7 sx wt lg to s Aw1 cw1 Al1 cl1) hs19 2 r0 ag27 (fun w15 hs20=>?_))
   refine nk (m1 hs20 5 r0) (tk (fuel:=0) (is:=[10]) (.cons r0 (.nil)) (by kernel_rfl) (by kernel_rfl) (m1 hs20 5 r0) (yA r0 (asg (v:=Str ((((stateT ((talkSay sx wt lg to ((hexFrom s).1)).1.1))++[32])++(hexText ((talkSay sx wt lg to ((hexFrom s).1)).2.1)))++[10])) r0) (.nil (ad (by kernel_rfl) ?_))))
   exact⟨(zR r0),(hs20.pk [0,1,6,2,3,4,5] r0)⟩
  refine dG 5 11 63 (fun f w'=>Hz f [(4,pB b2),(5,Str []),(38,.agg #[(Z141 sx wt lg to s),(Z108 Aw1 sx wt lg to s cw1),(Z105 Al1 sx wt lg to s cl1),(Z122 sx wt lg to s)]),(42,Str ((stateT ((talkSay sx wt lg to ((hexFrom s).1)).1.1))++[32])),(43,.slice Ay1 (((talkSay sx wt lg to ((hexFrom s).1)).2.1).length) cy1)]∧SH w w' (ownM Awt cwt++(ownM Alg clg++[])) [(Z32 Awt wt cwt),(Z26 Alg lg clg),.blk b2 27 Z31,(Z53 Aw1 sx wt lg to s cw1),(Z50 Al1 sx wt lg to s cl1),.own Ay1 (((talkSay sx wt lg to ((hexFrom s).1)).2.1).length) cy1 3 1 (((talkSay sx wt lg to ((hexFrom s).1)).2.1).map I),.blk b3 27 (Z7 sx wt lg to s Aw1 cw1 Al1 cl1)]) ?_ (fun D_7_1=>?_)
  ·rintro f w16 ⟨⟨g5,rfl⟩,hs21⟩
   refine aO 6 r0 (cS hs21 r0 (sHexText _ _ (hs21.sl0 5 r0)) (fun w17 hs22=>?_))
   exact nk (m1 hs22 6 r0) (tk (fuel:=2) (is:=[7,8]) (.cons r0 (.cons r0 (.nil))) (by kernel_rfl) (by kernel_rfl) (m1 hs22 6 r0) (yA r0 (cat r0 r0 (by(have h1_:=stateT_len (talkSay sx wt lg to (hexFrom s).1).1.1; have h2_:=hexText_len (talkSay sx wt lg to (hexFrom s).1).2.1; (try simp only[List.length_append,List.length_cons,List.length_nil]); omega))) (yA r0 (cat r0 r0 (by(have h1_:=stateT_len (talkSay sx wt lg to (hexFrom s).1).1.1; have h2_:=hexText_len (talkSay sx wt lg to (hexFrom s).1).2.1; (try simp only[List.length_append,List.length_cons,List.length_nil]); omega))) (.nil (alc D_7_0 ⟨(zR r0),hs22⟩)))))
  refine dG 7 11 39 (fun f w'=>Hz f [(4,pB b2),(5,Str []),(38,.agg #[(Z141 sx wt lg to s),(Z108 Aw1 sx wt lg to s cw1),(Z105 Al1 sx wt lg to s cl1),(Z122 sx wt lg to s)]),(40,I ((talkSay sx wt lg to ((hexFrom s).1)).1.1)),(43,.slice Ay1 (((talkSay sx wt lg to ((hexFrom s).1)).2.1).length) cy1)]∧SH w w' (ownM Awt cwt++(ownM Alg clg++[])) [(Z32 Awt wt cwt),(Z26 Alg lg clg),.blk b2 27 Z31,(Z53 Aw1 sx wt lg to s cw1),(Z50 Al1 sx wt lg to s cl1),.own Ay1 (((talkSay sx wt lg to ((hexFrom s).1)).2.1).length) cy1 3 1 (((talkSay sx wt lg to ((hexFrom s).1)).2.1).map I),.blk b3 27 (Z7 sx wt lg to s Aw1 cw1 Al1 cl1)]) ?_ (fun D_7_2=>?_)
  ·rintro f w18 ⟨⟨g6,rfl⟩,hs23⟩
   refine aO 3 r0 (cS hs23 r0 (sL51State _ _) (fun w19 hs24=>?_))
   exact nk (m1 hs24 6 r0) (tk (fuel:=5) (is:=[4]) (.cons r0 (.nil)) (by kernel_rfl) (by kernel_rfl) (m1 hs24 6 r0) (yA r0 (cat r0 r0 (by(have h1_:=stateT_len (talkSay sx wt lg to (hexFrom s).1).1.1; have h2_:=hexText_len (talkSay sx wt lg to (hexFrom s).1).2.1; (try simp only[List.length_append,List.length_cons,List.length_nil]); omega))) (.nil (alc D_7_1 ⟨(zR r0),hs24⟩))))
  have hs25:=hs11.drew
  exact tk (fuel:=7) (is:=[0,1,2,5]) (.cons r0 (.cons r0 (.cons r0 (.cons r0 (.nil))))) (by kernel_rfl) (by kernel_rfl) (m1 hs25 6 r0) (yB r0 (fun ⟨Lq,hsq,mh0,_⟩=>ldgm (vs:=(Z7 sx wt lg to s Aw1 cw1 Al1 cl1)) hsq mh0 r0 r0 r0 ag27) (yA r0 (fa 0 fo27_0 r0) (yB r0 (fun ⟨Lq,hsq,mh0,_⟩=>lM (I ((talkSay sx wt lg to ((hexFrom s).1)).1.1)) hsq mh0 r0 one3) (yA r0 (mv (v:=.slice Ay1 (((talkSay sx wt lg to ((hexFrom s).1)).2.1).length) cy1) r0) (.nil (alc D_7_2 ⟨(zR r0),hs25⟩))))))
 rintro f w20 ⟨⟨g7,rfl⟩,hs26⟩
 refine nN ?_
 have hs27:=hs26.pq [0,1,2,3,4] r0
 refine rt (fret (resC hs27 2 r0 r0 ag27 r0 (.tmp .nil)) r0 ?_)
 have e4:sayLn (sx,wt,lg,to) s=(((talkSay sx wt lg to ((hexFrom s).1)).1.1,(talkSay sx wt lg to ((hexFrom s).1)).1.2.1,(talkSay sx wt lg to ((hexFrom s).1)).1.2.2.1,(talkSay sx wt lg to ((hexFrom s).1)).1.2.2.2),(((stateT ((talkSay sx wt lg to ((hexFrom s).1)).1.1))++[32])++(hexText ((talkSay sx wt lg to ((hexFrom s).1)).2.1)))++[10]):=by exact sayLn_1 ‹_› ‹_› ‹_›
 rw[e4]
 exact⟨Aw1,cw1,Al1,cl1,rfl,(hs27.pk [3,4] r0)⟩
set_option maxHeartbeats 8000000 in
theorem sL51Line (sx:Int) {Awt:Option Addr} {cwt:Nat} (wt:List Int) {Alg:Option Addr} {clg:Nat} (lg:List (List UInt8×List UInt8)) (to:List UInt8) (l:List UInt8) (w:World) (hwt:OwnR w Awt wt.length cwt 3 1 (wt.map I)) (hlg:OwnR w Alg lg.length clg 31 2 (lg.flatMap gLogin)) (hl_n:l.length≤2147483648) (hfit:tkFit (sx,wt,lg,to)) (hx_wt_lg: ∀ k,(It.own Awt wt.length cwt 3 1 (wt.map I)).has k→ ¬ (It.own Alg lg.length clg 31 2 (lg.flatMap gLogin)).has k):Does Tryz.prog 7 [.agg #[I sx,.slice Awt wt.length cwt,.slice Alg lg.length clg,Str to],Str l] w (fun v w'=>∃ Awr:Option Addr,∃ cwr:Nat,∃ Alr:Option Addr,∃ clr:Nat,v=.tuple #[.agg #[.int .i64 ((lineXn (sx,wt,lg,to) l).1.1),.slice Awr ((lineXn (sx,wt,lg,to) l).1.2.1).length cwr,.slice Alr ((lineXn (sx,wt,lg,to) l).1.2.2.1).length clr,Str ((lineXn (sx,wt,lg,to) l).1.2.2.2)],Str ((lineXn (sx,wt,lg,to) l).2)]∧SH w w' (ownM Awt cwt++(ownM Alg clg++[])) [.own Awr (((lineXn (sx,wt,lg,to) l).1.2.1).length) cwr 3 1 (((lineXn (sx,wt,lg,to) l).1.2.1).map I),.own Alr (((lineXn (sx,wt,lg,to) l).1.2.2.1).length) clr 31 2 (((lineXn (sx,wt,lg,to) l).1.2.2.1).flatMap gLogin)]):=by
 refine fE (N:=86) Tryz.func7 r0 (by kernel_rfl) r0 ?_
 have hs0:=SH.entryK [(Z32 Awt wt cwt),(Z26 Alg lg clg)] (fa_cons hwt (fa_cons hlg fa_nil)) (.cons (fa_cons hx_wt_lg fa_nil) (.cons fa_nil .nil))
 have hwt_m:wt.length≤9223372036854775807:=Nat.le_trans hwt.2.1 hwt.2.2.1
 have hlg_m:lg.length≤9223372036854775807:=Nat.le_trans hlg.2.1 hlg.2.2.1
 refine sr (bx (v:=.agg #[I sx,(Z4 Awt wt cwt),(Z19 Alg lg clg),Str to]) (cs:=[I sx,(Z4 Awt wt cwt),(Z19 Alg lg clg),Str to]) hs0 r0 r0 trivial r0 (fun b1 w1 hs1=>?_))
 refine al (cs:=Z31) hs1 tz27 r0 trivial r0 (fun b2 w2 hs2=>?_)
 refine tA (Str []) r0 (nx (tm (Str l) r0 (cS2 hs2 r0 (l2Cut _ (32:UInt8) _ (by omega)) (fun A1 c1 w3 hs3=>?_))))
 refine tA (.slice A1 ((splitB (32:UInt8) l).length) c1) r0 (nn (sq (sr (tm (.slice A1 ((splitB (32:UInt8) l).length) c1) r0 (qt r0 (lnA sl51 r0) (qt r0 (nei r0 r0) (nn (cdd r0 (fun h1=>?_) (fun h1=>?_)))))))))
 ·refine sr (qt r0 (lG [I sx,(Z4 Awt wt cwt),(Z19 Alg lg clg),Str to] hs3 2 r0 ag27) (sG [I sx,(Z4 Awt wt cwt),(Z19 Alg lg clg),Str to] hs3 3 r0 ag27 (fun w4 hs4=>?_)))
  refine tA (Str [119,104,97,116,10]) r0 (nn ?_)
  have hs5:=hs4.pq [0,1,4] r0
  refine rt (tR (fret (resC hs5 2 r0 r0 ag27 r0 (.tmp .nil)) r0 ?_))
  have e1:lineXn (sx,wt,lg,to) l=((sx,wt,lg,to),[119,104,97,116,10]):=by exact ln_n ‹_›
  rw[e1]
  exact⟨Awt,cwt,Alg,clg,rfl,(hs5.pk [0,1] r0)⟩
 refine sk (nN (sr (tm (.slice A1 ((splitB (32:UInt8) l).length) c1) r0 (ixw1 1 sl51 r0 r0 (hs3.sl0 4 r0) (by omega) (getm Str [] (by omega)) trivial r0 (fun a1 ha1=>?_)))))
 have hlf:=ln_f l
 have w1:=hlf.1 1
 have w0:=hlf.1 0
 refine qt r0 (lda (SH.refl w3 []) ha1 (fun _ h=>h) r0 r0 one9) (cS2 hs3 r0 (sAddressFrom ((splitB (32:UInt8) l).getD 1 []) _ (by omega)) (fun Aq1 cq1 w5 hs6=>?_))
 refine tm (.tuple #[.agg #[(Z93 l),(Z78 Aq1 l cq1),(Z81 l),(Z85 l)],.bool ((addrFrom ((splitB (32:UInt8) l).getD 1 [])).2)]) r0 (qt r0 (xt 0 r0 r0) (qt r0 (xt 1 r0 r0) (al (cs:=Z17) hs6 tz54 r0 trivial r0 (fun b3 w6 hs7=>?_))))
 refine sG (Z60 l Aq1 cq1) hs7 6 r0 ag54 (fun w7 hs8=>?_)
 refine tA (.bool ((addrFrom ((splitB (32:UInt8) l).getD 1 [])).2)) r0 (nn (sq (sr (tm (.slice A1 ((splitB (32:UInt8) l).length) c1) r0 (ixw1 0 sl51 r0 r0 (hs8.sl0 4 r0) (by omega) (getm Str [] (by omega)) trivial r0 (fun a2 ha2=>?_))))))
 refine qt r0 (lda (SH.refl w7 []) ha2 (fun _ h=>h) r0 r0 one9) (nn (bl (sr (qt r0 (eqs r0 r0) (tA (.bool (decide ((splitB (32:UInt8) l).getD 0 []=[111,108,100]))) r0 (nn (cdd r0 (fun h2=>?_) (fun h2=>?_))))))))
 ·refine sr (qt r0 (lG (Z60 l Aq1 cq1) hs8 6 r0 ag54) (qt r0 (bdv (v:=.agg #[I 1,(Z93 l),(Z78 Aq1 l cq1),(Z81 l),(Z85 l),Str []]) [(0,I 1),(1,.agg #[(Z93 l),(Z78 Aq1 l cq1),(Z81 l),(Z85 l)])] r0 (fun _=>by kernel_rfl)) (cS2 hs8 r0 (sOldBytes 1 ((addrFrom ((splitB (32:UInt8) l).getD 1 [])).1.1) ((addrFrom ((splitB (32:UInt8) l).getD 1 [])).1.2.1) ((addrFrom ((splitB (32:UInt8) l).getD 1 [])).1.2.2.1) ((addrFrom ((splitB (32:UInt8) l).getD 1 [])).1.2.2.2) [] _ (hs8.sl0 5 r0) (by omega) (by((simp; done)))) (fun A2 c2 w8 hs9=>?_))))
  refine tm (.tuple #[.slice A2 (((Z2 l).1).length) c2,.bool ((Z2 l).2)]) r0 (qt r0 (xt 0 r0 r0) (qt r0 (xt 1 r0 r0) (tA (.slice A2 (((Z2 l).1).length) c2) r0 (tA (.bool ((Z2 l).2)) r0 (nn ?_)))))
  have hs10:=hs9.pq [0,1,2,3,7] r0
  refine sq ?_
  refine raJ (fun w'=>∃ L,SH w w' (ownM Awt cwt++(ownM Alg clg++[])) L∧(.blk b1 27 [I sx,(Z4 Awt wt cwt),(Z19 Alg lg clg),Str to])∈L∧True) (fun f w'=>Hz f [(4,pB b2),(5,Str (hexOrT ((Z2 l).1) ((Z2 l).2)++[10]))]∧SH w w' (ownM Awt cwt++(ownM Alg clg++[])) [(Z32 Awt wt cwt),(Z26 Alg lg clg),.blk b1 27 [I sx,(Z4 Awt wt cwt),(Z19 Alg lg clg),Str to],.blk b2 27 [I sx,(Z4 Awt wt cwt),(Z19 Alg lg clg),Str to],.own A2 (((Z2 l).1).length) c2 3 1 (((Z2 l).1).map I)]) mixed ?_ ?_
  ·refine dG 2 6 15 (fun f w'=>Hz f [(4,pB b2),(5,Str []),(39,.agg #[I sx,(Z4 Awt wt cwt),(Z19 Alg lg clg),Str to]),(42,Str (hexOrT ((Z2 l).1) ((Z2 l).2)++[10]))]∧SH w w' (ownM Awt cwt++(ownM Alg clg++[])) [(Z32 Awt wt cwt),(Z26 Alg lg clg),.blk b1 27 [I sx,(Z4 Awt wt cwt),(Z19 Alg lg clg),Str to],.blk b2 27 Z31,.own A2 (((Z2 l).1).length) c2 3 1 (((Z2 l).1).map I)]) ?_ (fun D_8_0=>?_)
   ·rintro f w9 ⟨⟨g1,rfl⟩,hs11⟩
    refine aO 4 r0 (sG [I sx,(Z4 Awt wt cwt),(Z19 Alg lg clg),Str to] hs11 3 r0 ag27 (fun w10 hs12=>?_))
    refine nk (m1 hs12 2 r0) (tk (fuel:=0) (is:=[5]) (.cons r0 (.nil)) (by kernel_rfl) (by kernel_rfl) (m1 hs12 2 r0) (yA r0 (asg (v:=Str (hexOrT ((Z2 l).1) ((Z2 l).2)++[10])) r0) (.nil (ad (by kernel_rfl) ?_))))
    exact⟨(zR r0),(hs12.pk [0,1,2,4,3] r0)⟩
   refine dG 3 6 7 (fun f w'=>Hz f [(4,pB b2),(5,Str []),(39,.agg #[I sx,(Z4 Awt wt cwt),(Z19 Alg lg clg),Str to]),(40,.slice A2 (((Z2 l).1).length) c2),(41,.bool ((Z2 l).2))]∧SH w w' (ownM Awt cwt++(ownM Alg clg++[])) [(Z32 Awt wt cwt),(Z26 Alg lg clg),.blk b1 27 [I sx,(Z4 Awt wt cwt),(Z19 Alg lg clg),Str to],.blk b2 27 Z31,.own A2 (((Z2 l).1).length) c2 3 1 (((Z2 l).1).map I)]) ?_ (fun D_8_1=>?_)
   ·rintro f w11 ⟨⟨g2,rfl⟩,hs13⟩
    refine aO 3 r0 (cS hs13 r0 (sL51Bytes ((Z2 l).1) ((Z2 l).2) _ (hs13.sl0 4 r0)) (fun w12 hs14=>?_))
    exact nk (m1 hs14 2 r0) (alc D_8_0 ⟨(zR r0),hs14⟩)
   have hs15:=hs10.drew
   exact tk (fuel:=3) (is:=[0,1,2]) (.cons r0 (.cons r0 (.cons r0 (.nil)))) (by kernel_rfl) (by kernel_rfl) (m1 hs15 2 r0) (yB r0 (fun ⟨Lq,hsq,mh0,_⟩=>ldgm (vs:=[I sx,(Z4 Awt wt cwt),(Z19 Alg lg clg),Str to]) hsq mh0 r0 r0 r0 ag27) (yA r0 (mv (v:=.slice A2 (((Z2 l).1).length) c2) r0) (yA r0 (mv (v:=.bool ((Z2 l).2)) r0) (.nil (alc D_8_1 ⟨(zR r0),hs15⟩)))))
  rintro f w13 ⟨⟨g3,rfl⟩,hs16⟩
  refine nN ?_
  have hs17:=hs16.pq [0,1,3] r0
  refine rt (bR (tR (fret (resC hs17 2 r0 r0 ag27 r0 (.tmp .nil)) r0 ?_)))
  have e2:lineXn (sx,wt,lg,to) l=((sx,wt,lg,to),(hexOrT ((Z2 l).1) ((Z2 l).2)++[10])):=by exact ln_o ‹_› ‹_›
  rw[e2]
  exact⟨Awt,cwt,Alg,clg,rfl,(hs17.pk [0,1] r0)⟩
 refine sr (qt r0 (eqs r0 r0) (tA (.bool (decide ((splitB (32:UInt8) l).getD 0 []=[114,101,113,117,101,115,116]))) r0 (nn (cdd r0 (fun h3=>?_) (fun h3=>?_)))))
 ·refine sr (qt r0 (lG (Z60 l Aq1 cq1) hs8 6 r0 ag54) (qt r0 (bdv (v:=.agg #[I 1,(Z93 l),(Z78 Aq1 l cq1),(Z81 l),(Z85 l)]) [(0,I 1),(1,.agg #[(Z93 l),(Z78 Aq1 l cq1),(Z81 l),(Z85 l)])] r0 (fun _=>by kernel_rfl)) (cS2 hs8 r0 (sRequestBytes 1 ((addrFrom ((splitB (32:UInt8) l).getD 1 [])).1.1) ((addrFrom ((splitB (32:UInt8) l).getD 1 [])).1.2.1) ((addrFrom ((splitB (32:UInt8) l).getD 1 [])).1.2.2.1) ((addrFrom ((splitB (32:UInt8) l).getD 1 [])).1.2.2.2) _ (hs8.sl0 5 r0) (by omega)) (fun A3 c3 w14 hs18=>?_))))
  refine tm (.tuple #[.slice A3 (((Z3 l).1).length) c3,.bool ((Z3 l).2)]) r0 (qt r0 (xt 0 r0 r0) (qt r0 (xt 1 r0 r0) (tA (.slice A3 (((Z3 l).1).length) c3) r0 (tA (.bool ((Z3 l).2)) r0 (nn ?_)))))
  have hs19:=hs18.pq [0,1,2,3,7] r0
  refine sq ?_
  refine raJ (fun w'=>∃ L,SH w w' (ownM Awt cwt++(ownM Alg clg++[])) L∧(.blk b1 27 [I sx,(Z4 Awt wt cwt),(Z19 Alg lg clg),Str to])∈L∧True) (fun f w'=>Hz f [(4,pB b2),(5,Str (hexOrT ((Z3 l).1) ((Z3 l).2)++[10]))]∧SH w w' (ownM Awt cwt++(ownM Alg clg++[])) [(Z32 Awt wt cwt),(Z26 Alg lg clg),.blk b1 27 [I sx,(Z4 Awt wt cwt),(Z19 Alg lg clg),Str to],.blk b2 27 [I sx,(Z4 Awt wt cwt),(Z19 Alg lg clg),Str to],.own A3 (((Z3 l).1).length) c3 3 1 (((Z3 l).1).map I)]) mixed ?_ ?_
  ·refine dG 2 6 15 (fun f w'=>Hz f [(4,pB b2),(5,Str []),(51,.agg #[I sx,(Z4 Awt wt cwt),(Z19 Alg lg clg),Str to]),(54,Str (hexOrT ((Z3 l).1) ((Z3 l).2)++[10]))]∧SH w w' (ownM Awt cwt++(ownM Alg clg++[])) [(Z32 Awt wt cwt),(Z26 Alg lg clg),.blk b1 27 [I sx,(Z4 Awt wt cwt),(Z19 Alg lg clg),Str to],.blk b2 27 Z31,.own A3 (((Z3 l).1).length) c3 3 1 (((Z3 l).1).map I)]) ?_ (fun D_11_0=>?_)
   ·rintro f w15 ⟨⟨g4,rfl⟩,hs20⟩
    refine aO 4 r0 (sG [I sx,(Z4 Awt wt cwt),(Z19 Alg lg clg),Str to] hs20 3 r0 ag27 (fun w16 hs21=>?_))
    refine nk (m1 hs21 2 r0) (tk (fuel:=0) (is:=[5]) (.cons r0 (.nil)) (by kernel_rfl) (by kernel_rfl) (m1 hs21 2 r0) (yA r0 (asg (v:=Str (hexOrT ((Z3 l).1) ((Z3 l).2)++[10])) r0) (.nil (ad (by kernel_rfl) ?_))))
    exact⟨(zR r0),(hs21.pk [0,1,2,4,3] r0)⟩
   refine dG 3 6 7 (fun f w'=>Hz f [(4,pB b2),(5,Str []),(51,.agg #[I sx,(Z4 Awt wt cwt),(Z19 Alg lg clg),Str to]),(52,.slice A3 (((Z3 l).1).length) c3),(53,.bool ((Z3 l).2))]∧SH w w' (ownM Awt cwt++(ownM Alg clg++[])) [(Z32 Awt wt cwt),(Z26 Alg lg clg),.blk b1 27 [I sx,(Z4 Awt wt cwt),(Z19 Alg lg clg),Str to],.blk b2 27 Z31,.own A3 (((Z3 l).1).length) c3 3 1 (((Z3 l).1).map I)]) ?_ (fun D_11_1=>?_)
   ·rintro f w17 ⟨⟨g5,rfl⟩,hs22⟩
    refine aO 3 r0 (cS hs22 r0 (sL51Bytes ((Z3 l).1) ((Z3 l).2) _ (hs22.sl0 4 r0)) (fun w18 hs23=>?_))
    exact nk (m1 hs23 2 r0) (alc D_11_0 ⟨(zR r0),hs23⟩)
   have hs24:=hs19.drew
   exact tk (fuel:=3) (is:=[0,1,2]) (.cons r0 (.cons r0 (.cons r0 (.nil)))) (by kernel_rfl) (by kernel_rfl) (m1 hs24 2 r0) (yB r0 (fun ⟨Lq,hsq,mh0,_⟩=>ldgm (vs:=[I sx,(Z4 Awt wt cwt),(Z19 Alg lg clg),Str to]) hsq mh0 r0 r0 r0 ag27) (yA r0 (mv (v:=.slice A3 (((Z3 l).1).length) c3) r0) (yA r0 (mv (v:=.bool ((Z3 l).2)) r0) (.nil (alc D_11_1 ⟨(zR r0),hs24⟩)))))
  rintro f w19 ⟨⟨g6,rfl⟩,hs25⟩
  refine nN ?_
  have hs26:=hs25.pq [0,1,3] r0
  refine rt (bR (tR (fret (resC hs26 2 r0 r0 ag27 r0 (.tmp .nil)) r0 ?_)))
  have e3:lineXn (sx,wt,lg,to) l=((sx,wt,lg,to),(hexOrT ((Z3 l).1) ((Z3 l).2)++[10])):=by exact ln_r ‹_› ‹_›
  rw[e3]
  exact⟨Awt,cwt,Alg,clg,rfl,(hs26.pk [0,1] r0)⟩
 refine sr (qt r0 (eqs r0 r0) (tA (.bool (decide ((splitB (32:UInt8) l).getD 0 []=[108,111,103,105,110]))) r0 (nn ?_)))
 have hs27:=hs8.pq [0,1,2,3,4] r0
 refine cdd r0 (fun h4=>?_) (fun h4=>?_)
 ·refine sr (tm (.slice A1 ((splitB (32:UInt8) l).length) c1) r0 (ixw1 1 sl51 r0 r0 (hs27.sl0 4 r0) (by omega) (getm Str [] (by omega)) trivial r0 (fun a3 ha3=>?_)))
  refine qt r0 (lda (SH.refl w7 []) ha3 (fun _ h=>h) r0 r0 one9) (cS hs27 r0 (sL51Login ((splitB (32:UInt8) l).getD 1 []) _ (by omega)) (fun w20 hs28=>?_))
  refine cS2 hs28 r0 (sLoginBytes ((loginT ((splitB (32:UInt8) l).getD 1 [])).1) ((loginT ((splitB (32:UInt8) l).getD 1 [])).2) _ (by omega) (by omega)) (fun A4 c4 w21 hs29=>?_)
  refine tm (.tuple #[.slice A4 (((Z10 l).1).length) c4,.bool ((Z10 l).2)]) r0 (qt r0 (xt 0 r0 r0) (qt r0 (xt 1 r0 r0) (tA (.slice A4 (((Z10 l).1).length) c4) r0 (tA (.bool ((Z10 l).2)) r0 (nn (sq ?_))))))
  obtain ⟨b4,rfl⟩:=own_form hs29 4 r0 (by omega)
  refine raJ (fun w'=>∃ L,SH w w' (ownM Awt cwt++(ownM Alg clg++[])) L∧(.blk b1 27 [I sx,(Z4 Awt wt cwt),(Z19 Alg lg clg),Str to])∈L∧True) (fun f w'=>Hz f [(4,pB b2),(5,Str (hexOrT ((Z10 l).1) ((Z10 l).2)++[10]))]∧SH w w' (ownM Awt cwt++(ownM Alg clg++[])) [(Z32 Awt wt cwt),(Z26 Alg lg clg),.blk b1 27 [I sx,(Z4 Awt wt cwt),(Z19 Alg lg clg),Str to],.blk b2 27 [I sx,(Z4 Awt wt cwt),(Z19 Alg lg clg),Str to],.own (Z8 b4) ((splitB (32:UInt8) l).length) c1 9 1 ((splitB (32:UInt8) l).map Str),.own A4 (((Z10 l).1).length) c4 3 1 (((Z10 l).1).map I)]) mixed ?_ ?_
  ·refine dG 2 6 15 (fun f w'=>Hz f [(4,pB b2),(5,Str []),(65,.agg #[I sx,(Z4 Awt wt cwt),(Z19 Alg lg clg),Str to]),(68,Str (hexOrT ((Z10 l).1) ((Z10 l).2)++[10]))]∧SH w w' (ownM Awt cwt++(ownM Alg clg++[])) [(Z32 Awt wt cwt),(Z26 Alg lg clg),.blk b1 27 [I sx,(Z4 Awt wt cwt),(Z19 Alg lg clg),Str to],.blk b2 27 Z31,.own (Z8 b4) ((splitB (32:UInt8) l).length) c1 9 1 ((splitB (32:UInt8) l).map Str),.own A4 (((Z10 l).1).length) c4 3 1 (((Z10 l).1).map I)]) ?_ (fun D_14_0=>?_)
   ·rintro f w22 ⟨⟨g7,rfl⟩,hs30⟩
    refine aO 4 r0 (sG [I sx,(Z4 Awt wt cwt),(Z19 Alg lg clg),Str to] hs30 3 r0 ag27 (fun w23 hs31=>?_))
    refine nk (m1 hs31 2 r0) (tk (fuel:=0) (is:=[5]) (.cons r0 (.nil)) (by kernel_rfl) (by kernel_rfl) (m1 hs31 2 r0) (yA r0 (asg (v:=Str (hexOrT ((Z10 l).1) ((Z10 l).2)++[10])) r0) (.nil (ad (by kernel_rfl) ?_))))
    exact⟨(zR r0),(hs31.pk [0,1,2,5,3,4] r0)⟩
   refine dG 3 6 7 (fun f w'=>Hz f [(4,pB b2),(5,Str []),(65,.agg #[I sx,(Z4 Awt wt cwt),(Z19 Alg lg clg),Str to]),(66,.slice A4 (((Z10 l).1).length) c4),(67,.bool ((Z10 l).2))]∧SH w w' (ownM Awt cwt++(ownM Alg clg++[])) [(Z32 Awt wt cwt),(Z26 Alg lg clg),.blk b1 27 [I sx,(Z4 Awt wt cwt),(Z19 Alg lg clg),Str to],.blk b2 27 Z31,.own (Z8 b4) ((splitB (32:UInt8) l).length) c1 9 1 ((splitB (32:UInt8) l).map Str),.own A4 (((Z10 l).1).length) c4 3 1 (((Z10 l).1).map I)]) ?_ (fun D_14_1=>?_)
   ·rintro f w24 ⟨⟨g8,rfl⟩,hs32⟩
    refine aO 3 r0 (cS hs32 r0 (sL51Bytes ((Z10 l).1) ((Z10 l).2) _ (hs32.sl0 5 r0)) (fun w25 hs33=>?_))
    exact nk (m1 hs33 2 r0) (alc D_14_0 ⟨(zR r0),hs33⟩)
   have hs34:=hs29.drew
   exact tk (fuel:=3) (is:=[0,1,2]) (.cons r0 (.cons r0 (.cons r0 (.nil)))) (by kernel_rfl) (by kernel_rfl) (m1 hs34 2 r0) (yB r0 (fun ⟨Lq,hsq,mh0,_⟩=>ldgm (vs:=[I sx,(Z4 Awt wt cwt),(Z19 Alg lg clg),Str to]) hsq mh0 r0 r0 r0 ag27) (yA r0 (mv (v:=.slice A4 (((Z10 l).1).length) c4) r0) (yA r0 (mv (v:=.bool ((Z10 l).2)) r0) (.nil (alc D_14_1 ⟨(zR r0),hs34⟩)))))
  rintro f w26 ⟨⟨g9,rfl⟩,hs35⟩
  refine nN ?_
  have hs36:=hs35.pq [0,1,3] r0
  refine rt (bR (tR (fret (resC hs36 2 r0 r0 ag27 r0 (.tmp .nil)) r0 ?_)))
  have e4:lineXn (sx,wt,lg,to) l=((sx,wt,lg,to),(hexOrT ((Z10 l).1) ((Z10 l).2)++[10])):=by exact ln_l ‹_› ‹_›
  rw[e4]
  exact⟨Awt,cwt,Alg,clg,rfl,(hs36.pk [0,1] r0)⟩
 refine sr (qt r0 (eqs r0 r0) (tA (.bool (decide ((splitB (32:UInt8) l).getD 0 []=[115,110,105,102,102]))) r0 (nn (cdd r0 (fun h5=>?_) (fun h5=>?_)))))
 ·refine sq ?_
  obtain ⟨b5,rfl⟩:=own_form hs27 4 r0 (by omega)
  refine raJ (fun w'=>∃ L,SH w w' (ownM Awt cwt++(ownM Alg clg++[])) L∧(.blk b1 27 [I sx,(Z4 Awt wt cwt),(Z19 Alg lg clg),Str to])∈L∧(.own (Z8 b5) ((splitB (32:UInt8) l).length) c1 9 1 ((splitB (32:UInt8) l).map Str))∈L∧True) (fun f w'=>Hz f [(4,pB b2),(5,Str (Z158 l))]∧SH w w' (ownM Awt cwt++(ownM Alg clg++[])) [(Z32 Awt wt cwt),(Z26 Alg lg clg),.blk b1 27 [I sx,(Z4 Awt wt cwt),(Z19 Alg lg clg),Str to],.blk b2 27 [I sx,(Z4 Awt wt cwt),(Z19 Alg lg clg),Str to],.own (Z8 b5) ((splitB (32:UInt8) l).length) c1 9 1 ((splitB (32:UInt8) l).map Str)]) mixed ?_ ?_
  ·refine dG 2 7 31 (fun f w'=>Hz f [(4,pB b2),(5,Str []),(71,.agg #[I sx,(Z4 Awt wt cwt),(Z19 Alg lg clg),Str to]),(75,Str (Z158 l))]∧SH w w' (ownM Awt cwt++(ownM Alg clg++[])) [(Z32 Awt wt cwt),(Z26 Alg lg clg),.blk b1 27 [I sx,(Z4 Awt wt cwt),(Z19 Alg lg clg),Str to],.blk b2 27 Z31,.own (Z8 b5) ((splitB (32:UInt8) l).length) c1 9 1 ((splitB (32:UInt8) l).map Str)]) ?_ (fun D_16_0=>?_)
   ·rintro f w27 ⟨⟨g10,rfl⟩,hs37⟩
    refine aO 5 r0 (sG [I sx,(Z4 Awt wt cwt),(Z19 Alg lg clg),Str to] hs37 3 r0 ag27 (fun w28 hs38=>?_))
    refine nk ⟨_,hs38,memi 2 r0,memi 3 r0,trivial⟩ (tk (fuel:=0) (is:=[6]) (.cons r0 (.nil)) (by kernel_rfl) (by kernel_rfl) ⟨_,hs38,memi 2 r0,memi 3 r0,trivial⟩ (yA r0 (asg (v:=Str (Z158 l)) r0) (.nil (ad (by kernel_rfl) ?_))))
    exact⟨(zR r0),(hs38.pk [0,1,2,4,3] r0)⟩
   refine dG 3 7 15 (fun f w'=>Hz f [(4,pB b2),(5,Str []),(71,.agg #[I sx,(Z4 Awt wt cwt),(Z19 Alg lg clg),Str to]),(74,Str ((splitB (32:UInt8) l).getD 1 []))]∧SH w w' (ownM Awt cwt++(ownM Alg clg++[])) [(Z32 Awt wt cwt),(Z26 Alg lg clg),.blk b1 27 [I sx,(Z4 Awt wt cwt),(Z19 Alg lg clg),Str to],.blk b2 27 Z31,.own (Z8 b5) ((splitB (32:UInt8) l).length) c1 9 1 ((splitB (32:UInt8) l).map Str)]) ?_ (fun D_16_1=>?_)
   ·rintro f w29 ⟨⟨g11,rfl⟩,hs39⟩
    refine aO 4 r0 (cS hs39 r0 (sL51Sniff ((splitB (32:UInt8) l).getD 1 []) _ (by omega)) (fun w30 hs40=>?_))
    exact nk ⟨_,hs40,memi 2 r0,memi 4 r0,trivial⟩ (alc D_16_0 ⟨(zR r0),hs40⟩)
   have hs41:=hs27.drew
   exact tk (fuel:=3) (is:=[0,1,2,3]) (.cons r0 (.cons r0 (.cons r0 (.cons r0 (.nil))))) (by kernel_rfl) (by kernel_rfl) ⟨_,hs41,memi 2 r0,memi 4 r0,trivial⟩ (yB r0 (fun ⟨Lq,hsq,mh0,mh1,_⟩=>ldgm (vs:=[I sx,(Z4 Awt wt cwt),(Z19 Alg lg clg),Str to]) hsq mh0 r0 r0 r0 ag27) (yA r0 (mv (v:=sb b5 ((splitB (32:UInt8) l).length) c1) r0) (yA r0 (ixo 1 sl51 r0 r0 (by omega)) (yB r0 (fun ⟨Lq,hsq,mh0,mh1,_⟩=>ldo1m (g:=Str) (ys:=splitB (32:UInt8) l) (o:=1) [] hsq mh1 r0 (by omega) one9) (.nil (alc D_16_1 ⟨(zR r0),hs41⟩))))))
  rintro f w31 ⟨⟨g12,rfl⟩,hs42⟩
  refine nN ?_
  have hs43:=hs42.pq [0,1,3] r0
  refine rt (bR (tR (fret (resC hs43 2 r0 r0 ag27 r0 (.tmp .nil)) r0 ?_)))
  have e5:lineXn (sx,wt,lg,to) l=((sx,wt,lg,to),sniffS ((splitB (32:UInt8) l).getD 1 [])):=by exact ln_s ‹_› ‹_›
  rw[e5]
  exact⟨Awt,cwt,Alg,clg,rfl,(hs43.pk [0,1] r0)⟩
 refine sr (qt r0 (eqs r0 r0) (tA (.bool (decide ((splitB (32:UInt8) l).getD 0 []=[115,97,121]))) r0 (nn (cdd r0 (fun h6=>?_) (fun h6=>?_)))))
 ·refine sq ?_
  obtain ⟨b6,rfl⟩:=own_form hs27 4 r0 (by omega)
  refine raJ (fun w'=>∃ L,SH w w' (ownM Awt cwt++(ownM Alg clg++[])) L∧(.blk b1 27 [I sx,(Z4 Awt wt cwt),(Z19 Alg lg clg),Str to])∈L∧(.own (Z8 b6) ((splitB (32:UInt8) l).length) c1 9 1 ((splitB (32:UInt8) l).map Str))∈L∧True) (fun f w'=>∃ (Aw4''''':Option Addr) (cw4''''':Nat) (Al4''''':Option Addr) (cl4''''':Nat),Hz f [(4,pB b2),(5,Str ((Z33 sx wt lg to l).2))]∧SH w w' (ownM Awt cwt++(ownM Alg clg++[])) [.blk b1 27 [I sx,(Z4 Awt wt cwt),(Z19 Alg lg clg),Str to],.blk b2 27 [I ((Z33 sx wt lg to l).1.1),.slice Aw4''''' (((Z33 sx wt lg to l).1.2.1).length) cw4''''',.slice Al4''''' (((Z33 sx wt lg to l).1.2.2.1).length) cl4''''',Str ((Z33 sx wt lg to l).1.2.2.2)],.own (Z8 b6) ((splitB (32:UInt8) l).length) c1 9 1 ((splitB (32:UInt8) l).map Str),.own Aw4''''' (((Z33 sx wt lg to l).1.2.1).length) cw4''''' 3 1 (((Z33 sx wt lg to l).1.2.1).map I),.own Al4''''' (((Z33 sx wt lg to l).1.2.2.1).length) cl4''''' 31 2 (((Z33 sx wt lg to l).1.2.2.1).flatMap gLogin)]) mixed ?_ ?_
  ·refine dG 2 9 127 (fun f w'=>∃ (Aw4''''':Option Addr) (cw4''''':Nat) (Al4''''':Option Addr) (cl4''''':Nat),Hz f [(4,pB b2),(5,Str []),(83,.agg #[I ((Z33 sx wt lg to l).1.1),.slice Aw4''''' (((Z33 sx wt lg to l).1.2.1).length) cw4''''',.slice Al4''''' (((Z33 sx wt lg to l).1.2.2.1).length) cl4''''',Str ((Z33 sx wt lg to l).1.2.2.2)]),(84,Str ((Z33 sx wt lg to l).2))]∧SH w w' (ownM Awt cwt++(ownM Alg clg++[])) [.blk b1 27 [I sx,(Z4 Awt wt cwt),(Z19 Alg lg clg),Str to],.blk b2 27 Z31,.own (Z8 b6) ((splitB (32:UInt8) l).length) c1 9 1 ((splitB (32:UInt8) l).map Str),.own Aw4''''' (((Z33 sx wt lg to l).1.2.1).length) cw4''''' 3 1 (((Z33 sx wt lg to l).1.2.1).map I),.own Al4''''' (((Z33 sx wt lg to l).1.2.2.1).length) cl4''''' 31 2 (((Z33 sx wt lg to l).1.2.2.1).flatMap gLogin)]) ?_ (fun D_18_0=>?_)
   ·rintro f w32 ⟨Aw4''''',cw4''''',Al4''''',cl4''''',⟨g13,rfl⟩,hs44⟩
    refine aO 7 r0 (sG [I ((Z33 sx wt lg to l).1.1),.slice Aw4''''' (((Z33 sx wt lg to l).1.2.1).length) cw4''''',.slice Al4''''' (((Z33 sx wt lg to l).1.2.2.1).length) cl4''''',Str ((Z33 sx wt lg to l).1.2.2.2)] hs44 1 r0 ag27 (fun w33 hs45=>?_))
    refine nk ⟨_,hs45,memi 0 r0,memi 1 r0,trivial⟩ (tk (fuel:=0) (is:=[8]) (.cons r0 (.nil)) (by kernel_rfl) (by kernel_rfl) ⟨_,hs45,memi 0 r0,memi 1 r0,trivial⟩ (yA r0 (asg (v:=Str ((Z33 sx wt lg to l).2)) r0) (.nil (ad (by kernel_rfl) ?_))))
    exact⟨Aw4''''',cw4''''',Al4''''',cl4''''',(zR r0),(hs45.pk [0,4,1,2,3] r0)⟩
   refine dG 5 9 15 (fun f w'=>Hz f [(4,pB b2),(5,Str []),(78,.agg #[I sx,(Z4 Awt wt cwt),(Z19 Alg lg clg),Str to]),(81,Str ((splitB (32:UInt8) l).getD 1 []))]∧SH w w' (ownM Awt cwt++(ownM Alg clg++[])) [(Z32 Awt wt cwt),(Z26 Alg lg clg),.blk b1 27 [I sx,(Z4 Awt wt cwt),(Z19 Alg lg clg),Str to],.blk b2 27 Z31,.own (Z8 b6) ((splitB (32:UInt8) l).length) c1 9 1 ((splitB (32:UInt8) l).map Str)]) ?_ (fun D_18_1=>?_)
   ·rintro f w34 ⟨⟨g14,rfl⟩,hs46⟩
    refine aO 4 r0 (cL r0 (sL51Say _ _ _ _ ((splitB (32:UInt8) l).getD 1 []) _ (own_ok hs46 0 r0) (own_ok hs46 1 r0) (by omega) (‹_›) (it_dis hs46 0 1 (by decide) r0 r0)) ?_)
    rintro _ w35 ⟨Aw4''''',cw4''''',Al4''''',cl4''''',rfl,hs47⟩
    replace hs47:=hs46.cK [0,1] [2,3,4] hs47 r0
    exact nk ⟨_,hs47,memi 0 r0,memi 2 r0,trivial⟩ (tk (fuel:=2) (is:=[5,6]) (.cons r0 (.cons r0 (.nil))) (by kernel_rfl) (by kernel_rfl) ⟨_,hs47,memi 0 r0,memi 2 r0,trivial⟩ (yA r0 (xt 0 r0 r0) (yA r0 (xt 1 r0 r0) (.nil (alc D_18_0 ⟨Aw4''''',cw4''''',Al4''''',cl4''''',(zR r0),hs47⟩)))))
   have hs48:=hs27.drew
   exact tk (fuel:=5) (is:=[0,1,2,3]) (.cons r0 (.cons r0 (.cons r0 (.cons r0 (.nil))))) (by kernel_rfl) (by kernel_rfl) ⟨_,hs48,memi 2 r0,memi 4 r0,trivial⟩ (yB r0 (fun ⟨Lq,hsq,mh0,mh1,_⟩=>ldgm (vs:=[I sx,(Z4 Awt wt cwt),(Z19 Alg lg clg),Str to]) hsq mh0 r0 r0 r0 ag27) (yA r0 (mv (v:=sb b6 ((splitB (32:UInt8) l).length) c1) r0) (yA r0 (ixo 1 sl51 r0 r0 (by omega)) (yB r0 (fun ⟨Lq,hsq,mh0,mh1,_⟩=>ldo1m (g:=Str) (ys:=splitB (32:UInt8) l) (o:=1) [] hsq mh1 r0 (by omega) one9) (.nil (alc D_18_1 ⟨(zR r0),hs48⟩))))))
  rintro f w36 ⟨Aw4''''',cw4''''',Al4''''',cl4''''',⟨g15,rfl⟩,hs49⟩
  refine nN ?_
  have hs50:=hs49.pq [1,3,4] r0
  refine rt (bR (tR (fret (resC hs50 0 r0 r0 ag27 r0 (.tmp .nil)) r0 ?_)))
  have e6:lineXn (sx,wt,lg,to) l=(((Z33 sx wt lg to l).1.1,(Z33 sx wt lg to l).1.2.1,(Z33 sx wt lg to l).1.2.2.1,(Z33 sx wt lg to l).1.2.2.2),(Z33 sx wt lg to l).2):=by exact ln_y ‹_› ‹_›
  rw[e6]
  exact⟨Aw4''''',cw4''''',Al4''''',cl4''''',rfl,(hs50.pk [1,2] r0)⟩
 refine sk (bN (nN (sr (qt r0 (lG [I sx,(Z4 Awt wt cwt),(Z19 Alg lg clg),Str to] hs27 2 r0 ag27) (sG [I sx,(Z4 Awt wt cwt),(Z19 Alg lg clg),Str to] hs27 3 r0 ag27 (fun w37 hs51=>?_))))))
 refine tA (Str [119,104,97,116,10]) r0 (nn ?_)
 have hs52:=hs51.pq [0,1,4] r0
 refine rt (fret (resC hs52 2 r0 r0 ag27 r0 (.tmp .nil)) r0 ?_)
 have e7:lineXn (sx,wt,lg,to) l=((sx,wt,lg,to),[119,104,97,116,10]):=by exact ln_w ‹_› ‹_› ‹_› ‹_› ‹_› ‹_›
 rw[e7]
 exact⟨Awt,cwt,Alg,clg,rfl,(hs52.pk [0,1] r0)⟩
set_option maxHeartbeats 8000000 in
theorem sExecute (s:List UInt8) (w:World) (hs_n:s.length≤2147483648):Does Tryz.prog 4 [Str s] w (fun v w'=>v=Str (execT s)∧SH w w' [] []):=by
 refine fE (N:=51) Tryz.func4 r0 (by kernel_rfl) r0 ?_
 have hs0:=SH.refl w []
 refine sr (tA (Str []) r0 (nn (sq (sr (tm (Str s) r0 (qt r0 (lnS st9 r0) (qt r0 (gtr r0 r0) (nn (cdd r0 (fun h1=>?_) (fun h1=>?_))))))))))
 ·exact sr (tA (Str [116,111,111,32,108,111,110,103,10]) r0 (nn (rt (tR (fS r0 (by exact(execT_long (by omega)).symm) hs0)))))
 refine sk (nN (sr (bsk hs0 sl24 [I 2,I 0] [I 2,I 0] trivial r0 (fun b1 w1 hs1=>?_))))
 refine qt r0 (bdv (v:=.agg #[Z155,Str [97,98,99]]) [(0,Str [97,110,110]),(1,Str [97,98,99])] r0 (fun _=>by kernel_rfl)) (bsk hs1 sl25 [.agg #[Z155,Str [97,98,99]]] [Z155,Str [97,98,99]] trivial r0 (fun b2 w2 hs2=>?_))
 refine cL r0 (sTalkNew ([2,0]:List Int) ([(([97,110,110],[97,98,99]):List UInt8×List UInt8)]:List (List UInt8×List UInt8)) _ (hs2.sl0 0 r0) (by((simp; done))) (hs2.sl0 1 r0) (by(intro u hu; simp at hu; simp[hu])) (by((simp; done)))) ?_
 rintro _ w3 ⟨Aw1,cw1,Al1,cl1,rfl,hs3⟩
 replace hs3:=hs2.call0 hs3
 refine tm (.tuple #[.agg #[I ((talkNew ([2,0]:List Int) ([(([97,110,110],[97,98,99]):List UInt8×List UInt8)]:List (List UInt8×List UInt8))).1.1),.slice Aw1 (((talkNew ([2,0]:List Int) ([(([97,110,110],[97,98,99]):List UInt8×List UInt8)]:List (List UInt8×List UInt8))).1.2.1).length) cw1,.slice Al1 (((talkNew ([2,0]:List Int) ([(([97,110,110],[97,98,99]):List UInt8×List UInt8)]:List (List UInt8×List UInt8))).1.2.2.1).length) cl1,Str ((talkNew ([2,0]:List Int) ([(([97,110,110],[97,98,99]):List UInt8×List UInt8)]:List (List UInt8×List UInt8))).1.2.2.2)],.bool ((talkNew ([2,0]:List Int) ([(([97,110,110],[97,98,99]):List UInt8×List UInt8)]:List (List UInt8×List UInt8))).2)]) r0 (qt r0 (xt 0 r0 r0) (qt r0 (xt 1 r0 r0) (al (cs:=Z31) hs3 tz27 r0 trivial r0 (fun b3 w4 hs4=>?_))))
 refine sG [I ((talkNew ([2,0]:List Int) ([(([97,110,110],[97,98,99]):List UInt8×List UInt8)]:List (List UInt8×List UInt8))).1.1),.slice Aw1 (((talkNew ([2,0]:List Int) ([(([97,110,110],[97,98,99]):List UInt8×List UInt8)]:List (List UInt8×List UInt8))).1.2.1).length) cw1,.slice Al1 (((talkNew ([2,0]:List Int) ([(([97,110,110],[97,98,99]):List UInt8×List UInt8)]:List (List UInt8×List UInt8))).1.2.2.1).length) cl1,Str ((talkNew ([2,0]:List Int) ([(([97,110,110],[97,98,99]):List UInt8×List UInt8)]:List (List UInt8×List UInt8))).1.2.2.2)] hs4 4 r0 ag27 (fun w5 hs5=>?_)
 refine tA (.bool ((talkNew ([2,0]:List Int) ([(([97,110,110],[97,98,99]):List UInt8×List UInt8)]:List (List UInt8×List UInt8))).2)) r0 (nn ?_)
 have hs6:=hs5.pq [2,3,4] r0
 refine sr (tA (Str []) r0 (nx (tA (I 0) r0 (nn (sq (sr (tA (I 0) r0 (nn (bl (lp (σ:=Int×(Option Addr)×Nat×(List Int)×(Option Addr)×Nat×(List Lg)×(List UInt8)×Nat×Nat×(List UInt8)) (fun⟨zs,Azw,czw,zw,Azl,czl,zl,zt,k,m,o⟩ f w'=>Hz f [(0,Str s),(3,pB b3),(5,Str o),(6,I (m:Int)),(7,I (k:Int))]∧(k≤s.length)∧(m≤k)∧(scS (s.take k)=((zs,zw,zl,zt),o,(s.take k).drop m))∧SH w w' [] [.own Azw zw.length czw 3 1 (zw.map I),.own Azl zl.length czl 31 2 (zl.flatMap gLogin),.blk b3 27 [I zs,.slice Azw zw.length czw,.slice Azl zl.length czl,Str zt]]) (fun⟨zs,Azw,czw,zw,Azl,czl,zl,zt,k,m,o⟩=>s.length-k) ((talkNew ([2,0]:List Int) ([(([97,110,110],[97,98,99]):List UInt8×List UInt8)]:List (List UInt8×List UInt8))).1.1,Aw1,cw1,(talkNew ([2,0]:List Int) ([(([97,110,110],[97,98,99]):List UInt8×List UInt8)]:List (List UInt8×List UInt8))).1.2.1,Al1,cl1,(talkNew ([2,0]:List Int) ([(([97,110,110],[97,98,99]):List UInt8×List UInt8)]:List (List UInt8×List UInt8))).1.2.2.1,(talkNew ([2,0]:List Int) ([(([97,110,110],[97,98,99]):List UInt8×List UInt8)]:List (List UInt8×List UInt8))).1.2.2.2,0,0,[]) ⟨(zR r0),(by omega),(by omega),(by rw[talkNew_0]; rfl),hs6⟩ ?_))))))))))
 rintro ⟨zs,Azw,czw,zw,Azl,czl,zl,zt,k,m,o⟩ f w6 ⟨⟨g1,rfl⟩,hk,hm,hz,hs7⟩
 refine sq (sr (tm (I (k:Int)) r0 (tm (Str s) r0 (qt r0 (lnS st9 r0) (qt r0 (lss r0 r0) (nl (nN (cdd r0 (fun h2=>?_) (fun h2=>?_)))))))))
 ·refine sk (nN (sq (bl (sr (tm (Str s) r0 (tm (I (k:Int)) r0 (qt r0 (ixs k st9 r0 r0 (by omega)) (qt r0 (eqi r0 r0) (nn (cdd r0 (fun h3=>?_) (fun h3=>?_)))))))))))
  ·refine sq ?_
   refine raJ (fun w'=>∃ L,SH w w' [] L∧(.blk b3 27 [I zs,.slice Azw zw.length czw,.slice Azl zl.length czl,Str zt])∈L∧True) (fun f w'=>∃ (Aw5':Option Addr) (cw5':Nat) (Al5':Option Addr) (cl5' b9':Nat),Hz f [(0,Str s),(3,pB b3),(5,Str o),(7,I (k:Int)),(8,pB b9'),(9,Str ((lineXn (zs,zw,zl,zt) ((s.take k).drop m)).2))]∧SH w w' [] [.blk b3 27 [I zs,.slice Azw zw.length czw,.slice Azl zl.length czl,Str zt],.own Aw5' (((lineXn (zs,zw,zl,zt) ((s.take k).drop m)).1.2.1).length) cw5' 3 1 (((lineXn (zs,zw,zl,zt) ((s.take k).drop m)).1.2.1).map I),.blk b9' 27 [I ((lineXn (zs,zw,zl,zt) ((s.take k).drop m)).1.1),.slice Aw5' (((lineXn (zs,zw,zl,zt) ((s.take k).drop m)).1.2.1).length) cw5',.slice Al5' (((lineXn (zs,zw,zl,zt) ((s.take k).drop m)).1.2.2.1).length) cl5',Str ((lineXn (zs,zw,zl,zt) ((s.take k).drop m)).1.2.2.2)],.own Al5' (((lineXn (zs,zw,zl,zt) ((s.take k).drop m)).1.2.2.1).length) cl5' 31 2 (((lineXn (zs,zw,zl,zt) ((s.take k).drop m)).1.2.2.1).flatMap gLogin)]) mixed ?_ ?_
   ·refine dG 2 12 1023 (fun f w'=>∃ (Aw5':Option Addr) (cw5':Nat) (Al5':Option Addr) (cl5' b9':Nat),Hz f [(0,Str s),(3,pB b3),(5,Str o),(7,I (k:Int)),(8,pB b9'),(37,.agg #[I ((lineXn (zs,zw,zl,zt) ((s.take k).drop m)).1.1),.slice Aw5' (((lineXn (zs,zw,zl,zt) ((s.take k).drop m)).1.2.1).length) cw5',.slice Al5' (((lineXn (zs,zw,zl,zt) ((s.take k).drop m)).1.2.2.1).length) cl5',Str ((lineXn (zs,zw,zl,zt) ((s.take k).drop m)).1.2.2.2)]),(38,Str ((lineXn (zs,zw,zl,zt) ((s.take k).drop m)).2))]∧SH w w' [] [.blk b3 27 [I zs,.slice Azw zw.length czw,.slice Azl zl.length czl,Str zt],.own Aw5' (((lineXn (zs,zw,zl,zt) ((s.take k).drop m)).1.2.1).length) cw5' 3 1 (((lineXn (zs,zw,zl,zt) ((s.take k).drop m)).1.2.1).map I),.blk b9' 27 Z31,.own Al5' (((lineXn (zs,zw,zl,zt) ((s.take k).drop m)).1.2.2.1).length) cl5' 31 2 (((lineXn (zs,zw,zl,zt) ((s.take k).drop m)).1.2.2.1).flatMap gLogin)]) ?_ (fun D_10_0=>?_)
    ·rintro f w7 ⟨Aw5',cw5',Al5',cl5',b9',⟨g2,rfl⟩,hs8⟩
     refine aO 10 r0 (sG [I ((lineXn (zs,zw,zl,zt) ((s.take k).drop m)).1.1),.slice Aw5' (((lineXn (zs,zw,zl,zt) ((s.take k).drop m)).1.2.1).length) cw5',.slice Al5' (((lineXn (zs,zw,zl,zt) ((s.take k).drop m)).1.2.2.1).length) cl5',Str ((lineXn (zs,zw,zl,zt) ((s.take k).drop m)).1.2.2.2)] hs8 2 r0 ag27 (fun w8 hs9=>?_))
     refine nk (m1 hs9 0 r0) (tk (fuel:=0) (is:=[11]) (.cons r0 (.nil)) (by kernel_rfl) (by kernel_rfl) (m1 hs9 0 r0) (yA r0 (asg (v:=Str ((lineXn (zs,zw,zl,zt) ((s.take k).drop m)).2)) r0) (.nil (ad (by kernel_rfl) ?_))))
     exact⟨Aw5',cw5',Al5',cl5',b9',(zR r0),(hs9.pk [0,1,3,2] r0)⟩
    refine dG 3 12 511 (fun f w'=>∃ (Aw5':Option Addr) (cw5':Nat) (Al5':Option Addr) (cl5':Nat),Hz f [(0,Str s),(3,pB b3),(5,Str o),(7,I (k:Int)),(37,.agg #[I ((lineXn (zs,zw,zl,zt) ((s.take k).drop m)).1.1),.slice Aw5' (((lineXn (zs,zw,zl,zt) ((s.take k).drop m)).1.2.1).length) cw5',.slice Al5' (((lineXn (zs,zw,zl,zt) ((s.take k).drop m)).1.2.2.1).length) cl5',Str ((lineXn (zs,zw,zl,zt) ((s.take k).drop m)).1.2.2.2)]),(38,Str ((lineXn (zs,zw,zl,zt) ((s.take k).drop m)).2))]∧SH w w' [] [.blk b3 27 [I zs,.slice Azw zw.length czw,.slice Azl zl.length czl,Str zt],.own Aw5' (((lineXn (zs,zw,zl,zt) ((s.take k).drop m)).1.2.1).length) cw5' 3 1 (((lineXn (zs,zw,zl,zt) ((s.take k).drop m)).1.2.1).map I),.own Al5' (((lineXn (zs,zw,zl,zt) ((s.take k).drop m)).1.2.2.1).length) cl5' 31 2 (((lineXn (zs,zw,zl,zt) ((s.take k).drop m)).1.2.2.1).flatMap gLogin)]) ?_ (fun D_10_1=>?_)
    ·rintro f w9 ⟨Aw5',cw5',Al5',cl5',⟨g3,rfl⟩,hs10⟩
     refine aO 9 r0 (al (cs:=Z31) hs10 tz27 r0 trivial r0 (fun b9' w10 hs11=>?_))
     exact nk (m1 hs11 0 r0) (alc D_10_0 ⟨Aw5',cw5',Al5',cl5',b9',(zR r0),(hs11.pk [0,1,3,2] r0)⟩)
    refine dG 6 12 543 (fun f w'=>∃ (b9':Nat),Hz f [(0,Str s),(3,pB b3),(5,Str o),(7,I (k:Int)),(8,pB b9'),(31,.agg #[I zs,.slice Azw zw.length czw,.slice Azl zl.length czl,Str zt]),(35,Str ((s.take k).drop m))]∧SH w w' [] [.own Azw zw.length czw 3 1 (zw.map I),.own Azl zl.length czl 31 2 (zl.flatMap gLogin),.blk b3 27 [I zs,.slice Azw zw.length czw,.slice Azl zl.length czl,Str zt],.blk b9' 27 Z31]) ?_ (fun D_10_2=>?_)
    ·rintro f w11 ⟨b9',⟨g4,rfl⟩,hs12⟩
     refine aO 5 r0 (cL r0 (sL51Line _ _ _ _ _ _ (own_ok hs12 0 r0) (own_ok hs12 1 r0) (by((simp; omega))) (by(have hft0:=(scS_fit (s:=s.take k)).1; rw[hz]at hft0; exact hft0)) (it_dis hs12 0 1 (by decide) r0 r0)) ?_)
     rintro _ w12 ⟨Aw5',cw5',Al5',cl5',rfl,hs13⟩
     replace hs13:=hs12.cK [0,1] [2,3] hs13 r0
     exact nk (m1 hs13 0 r0) (tk (fuel:=2) (is:=[6,7,8]) (.cons r0 (.cons r0 (.cons r0 (.nil)))) (by kernel_rfl) (by kernel_rfl) (m1 hs13 0 r0) (yA r0 (mv (v:=.tuple #[.agg #[I ((lineXn (zs,zw,zl,zt) ((s.take k).drop m)).1.1),.slice Aw5' (((lineXn (zs,zw,zl,zt) ((s.take k).drop m)).1.2.1).length) cw5',.slice Al5' (((lineXn (zs,zw,zl,zt) ((s.take k).drop m)).1.2.2.1).length) cl5',Str ((lineXn (zs,zw,zl,zt) ((s.take k).drop m)).1.2.2.2)],Str ((lineXn (zs,zw,zl,zt) ((s.take k).drop m)).2)]) r0) (yA r0 (xt 0 r0 r0) (yA r0 (xt 1 r0 r0) (.nil (alc D_10_0 ⟨Aw5',cw5',Al5',cl5',b9',(zR r0),(hs13.pk [0,2,1,3] r0)⟩))))))
    refine dG 7 12 31 (fun f w'=>Hz f [(0,Str s),(3,pB b3),(5,Str o),(7,I (k:Int)),(31,.agg #[I zs,.slice Azw zw.length czw,.slice Azl zl.length czl,Str zt]),(35,Str ((s.take k).drop m))]∧SH w w' [] [.own Azw zw.length czw 3 1 (zw.map I),.own Azl zl.length czl 31 2 (zl.flatMap gLogin),.blk b3 27 [I zs,.slice Azw zw.length czw,.slice Azl zl.length czl,Str zt]]) ?_ (fun D_10_3=>?_)
    ·rintro f w13 ⟨⟨g5,rfl⟩,hs14⟩
     refine aaL [5,9] (fa_cons ?_ (fa_one ?_))
     ·refine one_ r0 (cL r0 (sL51Line _ _ _ _ _ _ (own_ok hs14 0 r0) (own_ok hs14 1 r0) (by((simp; omega))) (by(have hft0:=(scS_fit (s:=s.take k)).1; rw[hz]at hft0; exact hft0)) (it_dis hs14 0 1 (by decide) r0 r0)) ?_)
      rintro _ w14 ⟨Aw5',cw5',Al5',cl5',rfl,hs15⟩
      replace hs15:=hs14.cK [0,1] [2] hs15 r0
      exact nk (m1 hs15 0 r0) (tk (fuel:=3) (is:=[6,7,8]) (.cons r0 (.cons r0 (.cons r0 (.nil)))) (by kernel_rfl) (by kernel_rfl) (m1 hs15 0 r0) (yA r0 (mv (v:=.tuple #[.agg #[I ((lineXn (zs,zw,zl,zt) ((s.take k).drop m)).1.1),.slice Aw5' (((lineXn (zs,zw,zl,zt) ((s.take k).drop m)).1.2.1).length) cw5',.slice Al5' (((lineXn (zs,zw,zl,zt) ((s.take k).drop m)).1.2.2.1).length) cl5',Str ((lineXn (zs,zw,zl,zt) ((s.take k).drop m)).1.2.2.2)],Str ((lineXn (zs,zw,zl,zt) ((s.take k).drop m)).2)]) r0) (yA r0 (xt 0 r0 r0) (yA r0 (xt 1 r0 r0) (.nil (alc D_10_1 ⟨Aw5',cw5',Al5',cl5',(zR r0),hs15⟩))))))
     refine one_ r0 (al (cs:=Z31) hs14 tz27 r0 trivial r0 (fun b9' w15 hs16=>?_))
     exact nk (m1 hs16 2 r0) (alc D_10_2 ⟨b9',(zR r0),hs16⟩)
    have hs17:=hs7.drew
    exact tk (fuel:=7) (is:=[0,1,2,3,4]) (.cons r0 (.cons r0 (.cons r0 (.cons r0 (.cons r0 (.nil)))))) (by kernel_rfl) (by kernel_rfl) (m1 hs17 2 r0) (yB r0 (fun ⟨Lq,hsq,mh0,_⟩=>ldgm (vs:=[I zs,.slice Azw zw.length czw,.slice Azl zl.length czl,Str zt]) hsq mh0 r0 r0 r0 ag27) (yA r0 (mv (v:=Str s) r0) (yA r0 (mv (v:=I (m:Int)) r0) (yA r0 (mv (v:=I (k:Int)) r0) (yA r0 (cus (l:=s) m k st9 r0 r0 r0 (by omega) (by omega)) (.nil (alc D_10_3 ⟨(zR r0),hs17⟩)))))))
   rintro f w16 ⟨Aw5',cw5',Al5',cl5',b9',⟨g6,rfl⟩,hs18⟩
   refine nN (sr (qt r0 (lG [I ((lineXn (zs,zw,zl,zt) ((s.take k).drop m)).1.1),.slice Aw5' (((lineXn (zs,zw,zl,zt) ((s.take k).drop m)).1.2.1).length) cw5',.slice Al5' (((lineXn (zs,zw,zl,zt) ((s.take k).drop m)).1.2.2.1).length) cl5',Str ((lineXn (zs,zw,zl,zt) ((s.take k).drop m)).1.2.2.2)] hs18 2 r0 ag27) (sG [I ((lineXn (zs,zw,zl,zt) ((s.take k).drop m)).1.1),.slice Aw5' (((lineXn (zs,zw,zl,zt) ((s.take k).drop m)).1.2.1).length) cw5',.slice Al5' (((lineXn (zs,zw,zl,zt) ((s.take k).drop m)).1.2.2.1).length) cl5',Str ((lineXn (zs,zw,zl,zt) ((s.take k).drop m)).1.2.2.2)] hs18 0 r0 ag27 (fun w17 hs19=>?_))))
   refine nx (tm (Str o) r0 (tm (Str ((lineXn (zs,zw,zl,zt) ((s.take k).drop m)).2)) r0 (qt r0 (cat r0 r0 (by(have hft:=scS_fit (s:=s.take k); rw[hz]at hft; simp only[tkFit,List.length_take]at hft; have h1_:=lineX_len (zs,zw,zl,zt) ((s.take k).drop m); have h2_:=stateT_len zs; (try simp only[lineXn]); (try simp only[List.length_append,List.length_cons,List.length_nil]); omega))) (tA (Str (o++((lineXn (zs,zw,zl,zt) ((s.take k).drop m)).2))) r0 (nn (rg (tm (I (k:Int)) r0 (qt r0 (add r0 r0 (by(exact⟨by omega,by omega⟩))) (tA (I ((k:Int)+1)) r0 (nl (bN (nN (rg (tm (I (k:Int)) r0 (qt r0 (add r0 r0 (by(exact⟨by omega,by omega⟩))) (tA (I ((k:Int)+1)) r0 (nn ?_)))))))))))))))))
   refine⟨((lineXn (zs,zw,zl,zt) ((s.take k).drop m)).1.1,Aw5',cw5',(lineXn (zs,zw,zl,zt) ((s.take k).drop m)).1.2.1,Al5',cl5',(lineXn (zs,zw,zl,zt) ((s.take k).drop m)).1.2.2.1,(lineXn (zs,zw,zl,zt) ((s.take k).drop m)).1.2.2.2,k+1,k+1,(o++((lineXn (zs,zw,zl,zt) ((s.take k).drop m)).2))),⟨(zR r0),(by omega),(by omega),(scT_line (by omega) hz (c10.1 ‹_›) r0 r0),(hs19.pk [0,2,3] r0)⟩,?_⟩
   show s.length-(k+1)<s.length-k
   omega
  refine sk (bN (nN (rg (tm (I (k:Int)) r0 (qt r0 (add r0 r0 (by(exact⟨by omega,by omega⟩))) (tA (I ((k:Int)+1)) r0 (nl (nN ?_))))))))
  refine⟨(zs,Azw,czw,zw,Azl,czl,zl,zt,k+1,m,o),⟨(zR r0),(by omega),(by omega),(scT_step (by omega) hm hz (fun hh=>absurd (c10.2 hh) ‹_›)),hs7⟩,?_⟩
  show s.length-(k+1)<s.length-k
  omega
 refine ex (tE (tE (bE (nN (sr (tm (Str o) r0 (qt r0 (fa 0 fo27_0 r0) (qt r0 (lD (I zs) hs7 2 r0 one3) (cS hs7 r0 (sL51State _ _) (fun w18 hs20=>?_))))))))))
 refine qt r0 (cat r0 r0 (by(have hft:=scS_fit (s:=s.take k); rw[hz]at hft; simp only[tkFit,List.length_take]at hft; have h1_:=lineX_len (zs,zw,zl,zt) ((s.take k).drop m); have h2_:=stateT_len zs; (try simp only[lineXn]); (try simp only[List.length_append,List.length_cons,List.length_nil]); omega))) (qt r0 (cat r0 r0 (by(have hft:=scS_fit (s:=s.take k); rw[hz]at hft; simp only[tkFit,List.length_take]at hft; have h1_:=lineX_len (zs,zw,zl,zt) ((s.take k).drop m); have h2_:=stateT_len zs; (try simp only[lineXn]); (try simp only[List.length_append,List.length_cons,List.length_nil]); omega))) (tA (Str ((o++(stateT zs))++[10])) r0 (nn (rt (fT (Str ((o++(stateT zs))++[10])) r0 ?_)))))
 have e2:(o++(stateT zs))++[10]=execT s:=by exact(scT_end (k:=k) (by omega) (by omega) hz).symm
 exact⟨(congrArg (Str) e2),(hs20.pk [] r0)⟩
set_option maxHeartbeats 8000000 in
theorem tkSayText {tb:Nat} {Awt:Option Addr} {cwt:Nat} {Alg:Option Addr} {clg:Nat} (sx:Int) (wt:List Int) (lg:List Lg) (to:List UInt8) {Ab:Option Addr} {cb:Nat} (b:List Int) (w:World) (htk:w.heap[tb]?=some (.cells [.int .i64 sx,.slice Awt wt.length cwt,.slice Alg lg.length clg,Str to].toArray 27 (0,0))) (hwt:OwnR w Awt wt.length cwt 3 1 (wt.map I)) (hlg:OwnR w Alg lg.length clg 31 2 (lg.flatMap gLogin)) (hx1: ∀ k,(It.blk tb 27 [.int .i64 sx,.slice Awt wt.length cwt,.slice Alg lg.length clg,Str to]).has k→ ¬ (It.own Awt wt.length cwt 3 1 (wt.map I)).has k) (hx2: ∀ k,(It.blk tb 27 [.int .i64 sx,.slice Awt wt.length cwt,.slice Alg lg.length clg,Str to]).has k→ ¬ (It.own Alg lg.length clg 31 2 (lg.flatMap gLogin)).has k) (hx3: ∀ k,(It.own Awt wt.length cwt 3 1 (wt.map I)).has k→ ¬ (It.own Alg lg.length clg 31 2 (lg.flatMap gLogin)).has k) (hfit:tkFit (sx,wt,lg,to)) (hb:Sl w ([tb]++(ownM Awt cwt++(ownM Alg clg++[]))) 1 Ab b.length cb (b.map I)) (hb_n:b.length≤1099511627776) (hGp:VarP Tryz.prog w ([tb]++(ownM Awt cwt++(ownM Alg clg++[]))) "internal/strconv.uint64pow10" isPow) (hEr:VarP Tryz.prog w ([tb]++(ownM Awt cwt++(ownM Alg clg++[]))) "strconv.ErrRange" isIfc) (hEs:VarP Tryz.prog w ([tb]++(ownM Awt cwt++(ownM Alg clg++[]))) "strconv.ErrSyntax" isIfc) (hSt:PA w ([tb]++(ownM Awt cwt++(ownM Alg clg++[]))) ⟨0,0,none⟩ (stateTs.map Str)):Does Tryz.prog 36 [pB tb,.slice Ab b.length cb] w (fun v w'=>∃ Awr:Option Addr,∃ cwr:Nat,∃ Alr:Option Addr,∃ clr:Nat,v=Str ((sayX (sx,wt,lg,to) b).2)∧SH w w' ([tb]++(ownM Awt cwt++(ownM Alg clg++[]))) [.blk tb 27 [I ((sayX (sx,wt,lg,to) b).1.1),.slice Awr (((sayX (sx,wt,lg,to) b).1.2.1).length) cwr,.slice Alr (((sayX (sx,wt,lg,to) b).1.2.2.1).length) clr,Str ((sayX (sx,wt,lg,to) b).1.2.2.2)],.own Awr (((sayX (sx,wt,lg,to) b).1.2.1).length) cwr 3 1 (((sayX (sx,wt,lg,to) b).1.2.1).map I),.own Alr (((sayX (sx,wt,lg,to) b).1.2.2.1).length) clr 31 2 (((sayX (sx,wt,lg,to) b).1.2.2.1).flatMap gLogin)]):=by
 refine fE (N:=41) Tryz.func36 r0 (by kernel_rfl) r0 ?_
 have hs0:=SH.entryK [.blk tb 27 [I sx,(Z4 Awt wt cwt),(Z19 Alg lg clg),Str to],(Z32 Awt wt cwt),(Z26 Alg lg clg)] (fa_cons htk (fa_cons hwt (fa_cons hlg fa_nil))) (.cons (fa_cons hx1 (fa_cons hx2 fa_nil)) (.cons (fa_cons hx3 fa_nil) (.cons fa_nil .nil)))
 have hb_m:b.length≤9223372036854775807:=Nat.le_trans hb.cap hb.capMax
 refine sr (tA (Str []) r0 (nx (tm (pB tb) r0 (tn r0 (qt r0 (lG [I sx,(Z4 Awt wt cwt),(Z19 Alg lg clg),Str to] hs0 0 r0 ag27) (tm (Z14 Ab b cb) r0 (cL r0 (iTalkSay _ _ _ _ _ _ (hs0.sl0 1 r0) (hs0.sl0 2 r0) (by exact fit_R hfit.2.2.2.2) (by(have hft:=hfit; simp only[tkFit]at hft; omega)) (hb.up hs0 (fun _ h=>h) (by simp)) (hGp.up hs0 (fun _ h=>h) (by simp)) (hEr.up hs0 (fun _ h=>h) (by simp)) (hEs.up hs0 (fun _ h=>h) (by simp))) ?_)))))))
 rintro _ w1 ⟨Aw1,cw1,Al1,cl1,Ay1,cy1,rfl,hs1⟩
 replace hs1:=hs0.call0 hs1
 refine tm (.tuple #[.agg #[I ((talkSay sx wt lg to b).1.1),.slice Aw1 (((talkSay sx wt lg to b).1.2.1).length) cw1,.slice Al1 (((talkSay sx wt lg to b).1.2.2.1).length) cl1,Str ((talkSay sx wt lg to b).1.2.2.2)],.slice Ay1 (((talkSay sx wt lg to b).2.1).length) cy1,.bool ((talkSay sx wt lg to b).2.2)]) r0 (qt r0 (xt 0 r0 r0) (qt r0 (xt 1 r0 r0) (qt r0 (xt 2 r0 r0) (al (cs:=Z31) hs1 tz27 r0 trivial r0 (fun b1 w2 hs2=>?_)))))
 refine sG (Z68 sx wt lg to b Aw1 cw1 Al1 cl1) hs2 6 r0 ag27 (fun w3 hs3=>?_)
 refine tA (.slice Ay1 (((talkSay sx wt lg to b).2.1).length) cy1) r0 (tA (.bool ((talkSay sx wt lg to b).2.2)) r0 (nn (sq (sr (tm (.bool ((talkSay sx wt lg to b).2.2)) r0 (qt r0 (nt r0) (nn (cd r0 (fun h1=>?_) (fun h1=>?_)))))))))
 ·have h2:=nbF h1
  refine sr (tA (Str [110,111]) r0 (nn ?_))
  have hs4:=hs3.pq [0,1,2] r0
  refine rt (tR (fT (Str [110,111]) r0 ?_))
  have e1:sayX (sx,wt,lg,to) b=((sx,wt,lg,to),[110,111]):=by exact sayX_n ‹_›
  rw[e1]
  exact⟨Awt,cwt,Alg,clg,rfl,hs4⟩
 have h3:=nbT h1
 refine sk (nN (sr (tm (pB tb) r0 (qt r0 (lG (Z68 sx wt lg to b Aw1 cw1 Al1 cl1) hs3 6 r0 ag27) (tn r0 (sG (Z68 sx wt lg to b Aw1 cw1 Al1 cl1) hs3 0 r0 ag27 (fun w4 hs5=>?_)))))))
 refine nn ?_
 have hs6:=hs5.pq [2,3,4,6] r0
 refine sq (sr (tm (.slice Ay1 (((talkSay sx wt lg to b).2.1).length) cy1) r0 (qt r0 (lnA sl24 r0) (qt r0 (eqi r0 r0) (nn (cdd r0 (fun h4=>?_) (fun h4=>?_)))))))
 ·refine sr (tm (pB tb) r0 (tn r0 (qt r0 (fa 0 fo27_0 r0) (qt r0 (lD (I ((talkSay sx wt lg to b).1.1)) hs6 3 r0 one3) (ixg1 (n:=5) (((talkSay sx wt lg to b).1.1).toNat) ar48 r0 (ieq (x:=(talkSay sx wt lg to b).1.1) (by(have hss:=talkSay_st sx wt lg to b; omega))) hSt (by(have hss:=talkSay_st sx wt lg to b; omega)) (getm Str [] (by rw[stateTs_len]; (have hss:=talkSay_st sx wt lg to b; omega))) trivial r0 (fun a1 ha1=>?_))))))
  refine qt r0 (lda hs6 ha1 (fun _ h=>h) r0 r0 one9) (tA (Str (stateTs.getD (((talkSay sx wt lg to b).1.1).toNat) [])) r0 (nn (rt (tR (fT (Str (stateTs.getD (((talkSay sx wt lg to b).1.1).toNat) [])) r0 ?_)))))
  have e2:sayX (sx,wt,lg,to) b=(((talkSay sx wt lg to b).1.1,(talkSay sx wt lg to b).1.2.1,(talkSay sx wt lg to b).1.2.2.1,(talkSay sx wt lg to b).1.2.2.2),stateTs.getD (((talkSay sx wt lg to b).1.1).toNat) []):=by(have hss:=talkSay_st sx wt lg to b; rw[stateTs_at hss.1 hss.2]; exact sayX_0 ‹_› ‹_›)
  rw[e2]
  exact⟨Aw1,cw1,Al1,cl1,rfl,(hs6.pk [3,0,1] r0)⟩
 refine sk (nN (sq (rq (fun w'=>SH w w' ([tb]++(ownM Awt cwt++(ownM Alg clg++[]))) [.own Aw1 (((talkSay sx wt lg to b).1.2.1).length) cw1 3 1 (((talkSay sx wt lg to b).1.2.1).map I),.own Al1 (((talkSay sx wt lg to b).1.2.2.1).length) cl1 31 2 (((talkSay sx wt lg to b).1.2.2.1).flatMap gLogin),.own Ay1 (((talkSay sx wt lg to b).2.1).length) cy1 3 1 (((talkSay sx wt lg to b).2.1).map I),.blk tb 27 (Z68 sx wt lg to b Aw1 cw1 Al1 cl1)]) mixed (by kernel_rfl) hs6.drew (qA r0 (mv (v:=pB tb) r0) (qA r0 (nc r0) (qA r0 (fa 0 fo27_0 r0) (qB r0 (fun hsq=>lD (I ((talkSay sx wt lg to b).1.1)) hsq 3 r0 one3) (ixgq1 (n:=5) (((talkSay sx wt lg to b).1.1).toNat) ar48 r0 (ieq (x:=(talkSay sx wt lg to b).1.1) (by(have hss:=talkSay_st sx wt lg to b; omega))) hSt (by(have hss:=talkSay_st sx wt lg to b; omega)) (getm Str [] (by rw[stateTs_len]; (have hss:=talkSay_st sx wt lg to b; omega))) trivial r0 (fun a2 ha2=>?_)))))))))
 refine qB r0 (fun hsq=>lda hsq ha2 (fun _ h=>h) r0 r0 one9) (qA r0 (cat r0 r0 (by(have hss:=talkSay_st sx wt lg to b; rw[stateTs_at hss.1 hss.2]; have h1_:=stateT_len (talkSay sx wt lg to b).1.1; have h2_:=hexText_len (talkSay sx wt lg to b).2.1; (try simp only[List.length_append,List.length_cons,List.length_nil]); omega))) (qA r0 (mv (v:=.slice Ay1 (((talkSay sx wt lg to b).2.1).length) cy1) r0) (qc (Str (hexText ((talkSay sx wt lg to b).2.1))) trivial r0 (fun wq hsq=>(iHexText _ _ (hsq.sl0 2 r0)).mono (fun v w' h=>⟨h.1,by simpa using hsq.call0 h.2⟩)) (qA r0 (cat r0 r0 (by(have hss:=talkSay_st sx wt lg to b; rw[stateTs_at hss.1 hss.2]; have h1_:=stateT_len (talkSay sx wt lg to b).1.1; have h2_:=hexText_len (talkSay sx wt lg to b).2.1; (try simp only[List.length_append,List.length_cons,List.length_nil]); omega))) (qA r0 (asg (v:=Str (((stateTs.getD (((talkSay sx wt lg to b).1.1).toNat) [])++[32])++(hexText ((talkSay sx wt lg to b).2.1)))) r0) (qn (fun w5 hs7=>?_)))))))
 refine nN (rt (fT (Str (((stateTs.getD (((talkSay sx wt lg to b).1.1).toNat) [])++[32])++(hexText ((talkSay sx wt lg to b).2.1)))) r0 ?_))
 have e3:sayX (sx,wt,lg,to) b=(((talkSay sx wt lg to b).1.1,(talkSay sx wt lg to b).1.2.1,(talkSay sx wt lg to b).1.2.2.1,(talkSay sx wt lg to b).1.2.2.2),((stateTs.getD (((talkSay sx wt lg to b).1.1).toNat) [])++[32])++(hexText ((talkSay sx wt lg to b).2.1))):=by(have hss:=talkSay_st sx wt lg to b; rw[stateTs_at hss.1 hss.2]; exact sayX_1 ‹_› ‹_›)
 rw[e3]
 exact⟨Aw1,cw1,Al1,cl1,rfl,(hs7.pk [3,0,1] r0)⟩
set_option maxHeartbeats 8000000 in
theorem tkLine {tb:Nat} {Awt:Option Addr} {cwt:Nat} {Alg:Option Addr} {clg:Nat} (sx:Int) (wt:List Int) (lg:List Lg) (to:List UInt8) (l:List UInt8) (w:World) (htk:w.heap[tb]?=some (.cells [.int .i64 sx,.slice Awt wt.length cwt,.slice Alg lg.length clg,Str to].toArray 27 (0,0))) (hwt:OwnR w Awt wt.length cwt 3 1 (wt.map I)) (hlg:OwnR w Alg lg.length clg 31 2 (lg.flatMap gLogin)) (hx1: ∀ k,(It.blk tb 27 [.int .i64 sx,.slice Awt wt.length cwt,.slice Alg lg.length clg,Str to]).has k→ ¬ (It.own Awt wt.length cwt 3 1 (wt.map I)).has k) (hx2: ∀ k,(It.blk tb 27 [.int .i64 sx,.slice Awt wt.length cwt,.slice Alg lg.length clg,Str to]).has k→ ¬ (It.own Alg lg.length clg 31 2 (lg.flatMap gLogin)).has k) (hx3: ∀ k,(It.own Awt wt.length cwt 3 1 (wt.map I)).has k→ ¬ (It.own Alg lg.length clg 31 2 (lg.flatMap gLogin)).has k) (hfit:tkFit (sx,wt,lg,to)) (hl_n:l.length≤2147483648) (hMl:VarP Tryz.prog w ([tb]++(ownM Awt cwt++(ownM Alg clg++[]))) "internal/bytealg.MaxLen" isI64) (hGp:VarP Tryz.prog w ([tb]++(ownM Awt cwt++(ownM Alg clg++[]))) "internal/strconv.uint64pow10" isPow) (hEr:VarP Tryz.prog w ([tb]++(ownM Awt cwt++(ownM Alg clg++[]))) "strconv.ErrRange" isIfc) (hEs:VarP Tryz.prog w ([tb]++(ownM Awt cwt++(ownM Alg clg++[]))) "strconv.ErrSyntax" isIfc) (hGk:PA w ([tb]++(ownM Awt cwt++(ownM Alg clg++[]))) ⟨1,0,none⟩ (kindTs.map Str)) (hSt:PA w ([tb]++(ownM Awt cwt++(ownM Alg clg++[]))) ⟨0,0,none⟩ (stateTs.map Str)):Does Tryz.prog 13 [pB tb,Str l] w (fun v w'=>∃ Awr:Option Addr,∃ cwr:Nat,∃ Alr:Option Addr,∃ clr:Nat,v=Str ((lineX (sx,wt,lg,to) l).2)∧SH w w' ([tb]++(ownM Awt cwt++(ownM Alg clg++[]))) [.blk tb 27 [I ((lineX (sx,wt,lg,to) l).1.1),.slice Awr (((lineX (sx,wt,lg,to) l).1.2.1).length) cwr,.slice Alr (((lineX (sx,wt,lg,to) l).1.2.2.1).length) clr,Str ((lineX (sx,wt,lg,to) l).1.2.2.2)],.own Awr (((lineX (sx,wt,lg,to) l).1.2.1).length) cwr 3 1 (((lineX (sx,wt,lg,to) l).1.2.1).map I),.own Alr (((lineX (sx,wt,lg,to) l).1.2.2.1).length) clr 31 2 (((lineX (sx,wt,lg,to) l).1.2.2.1).flatMap gLogin)]):=by
 refine fE (N:=53) Tryz.func13 r0 (by kernel_rfl) r0 ?_
 have hs0:=SH.entryK [.blk tb 27 [I sx,(Z4 Awt wt cwt),(Z19 Alg lg clg),Str to],(Z32 Awt wt cwt),(Z26 Alg lg clg)] (fa_cons htk (fa_cons hwt (fa_cons hlg fa_nil))) (.cons (fa_cons hx1 (fa_cons hx2 fa_nil)) (.cons (fa_cons hx3 fa_nil) (.cons fa_nil .nil)))
 refine sr (tA (Str []) r0 (nx (tm (Str l) r0 (cS2 hs0 r0 (stSplit _ 32 _ (by omega)) (fun A1 c1 w1 hs1=>?_)))))
 refine tA (.slice A1 ((splitB 32 l).length) c1) r0 (nn (sq (sr (tm (.slice A1 ((splitB 32 l).length) c1) r0 (qt r0 (lnA sl51 r0) (qt r0 (nei r0 r0) (nn (cdd r0 (fun h1=>?_) (fun h1=>?_)))))))))
 ·refine sr (tA (Str [119,104,97,116]) r0 (nn (rt (tR (fT (Str [119,104,97,116]) r0 ?_)))))
  have e1:lineX (sx,wt,lg,to) l=((sx,wt,lg,to),[119,104,97,116]):=by exact line_n ‹_›
  rw[e1]
  exact⟨Awt,cwt,Alg,clg,rfl,(hs1.pk [0,1,2] r0)⟩
 refine sk (nN (sq (sr (tm (.slice A1 ((splitB 32 l).length) c1) r0 (ixw1 0 sl51 r0 r0 (hs1.sl0 3 r0) (by omega) (getm Str [] (by omega)) trivial r0 (fun a1 ha1=>?_))))))
 refine qt r0 (lda (SH.refl w1 []) ha1 (fun _ h=>h) r0 r0 one9) (nn (bl (sq (sr (qt r0 (eqs r0 r0) (tA (.bool (decide ((splitB 32 l).getD 0 []=[111,108,100]))) r0 (nn (cdd r0 (fun h2=>?_) (fun h2=>?_)))))))))
 ·refine sk (nN (cdd r0 (fun h3=>?_) (fun h3=>absurd (by exact h2) h3)))
  refine sq ?_
  obtain ⟨b1,rfl⟩:=own_form hs1 3 r0 (by omega)
  have hlf:=ln_f l
  have w1:=hlf.1 1
  have w0:=hlf.1 0
  refine rq (fun w'=>SH w w' ([tb]++(ownM Awt cwt++(ownM Alg clg++[]))) [.blk tb 27 [I sx,(Z4 Awt wt cwt),(Z19 Alg lg clg),Str to],(Z32 Awt wt cwt),(Z26 Alg lg clg),.own (Z8 b1) ((splitB 32 l).length) c1 9 1 ((splitB 32 l).map Str)]) mixed (by kernel_rfl) hs1.drew (qA r0 (mv (v:=sb b1 ((splitB 32 l).length) c1) r0) (qA r0 (ixo 0 sl51 r0 r0 (by omega)) (qB r0 (fun hsq=>ldo1n (g:=Str) (ys:=splitB 32 l) (o:=0) [] hsq 3 r0 r0 (by omega) one9) (qA r0 (mv (v:=sb b1 ((splitB 32 l).length) c1) r0) (qA r0 (ixo 1 sl51 r0 r0 (by omega)) (qB r0 (fun hsq=>ldo1n (g:=Str) (ys:=splitB 32 l) (o:=1) [] hsq 3 r0 r0 (by omega) one9) (qc (Str (askX (decide ((Z114 l)=[111,108,100])) (Z49 l))) trivial r0 (fun wq hsq=>(iAskText _ _ _ (by omega) (by omega) (hGp.up hsq (fun _ h=>h) (by simp)) (hEr.up hsq (fun _ h=>h) (by simp)) (hEs.up hsq (fun _ h=>h) (by simp))).mono (fun v w' h=>⟨h.1,by simpa using hsq.call0 h.2⟩)) (qA r0 (asg (v:=Str (askX (decide ((Z114 l)=[111,108,100])) (Z49 l))) r0) (qn (fun w2 hs2=>?_))))))))))
  refine nN (rt (bR (tR (fT (Str (askX (decide ((Z114 l)=[111,108,100])) (Z49 l))) r0 ?_))))
  have e2:lineX (sx,wt,lg,to) l=((sx,wt,lg,to),askX (decide ((Z114 l)=[111,108,100])) (Z49 l)):=by exact li_o ‹_› (by simp_all; done)
  rw[e2]
  exact⟨Awt,cwt,Alg,clg,rfl,(hs2.pk [0,1,2] r0)⟩
 refine rg (qt r0 (eqs r0 r0) (tA (.bool (decide ((splitB 32 l).getD 0 []=[114,101,113,117,101,115,116]))) r0 (nn (cdd r0 (fun h4=>?_) (fun h4=>?_)))))
 ·refine sq ?_
  obtain ⟨b2,rfl⟩:=own_form hs1 3 r0 (by omega)
  refine rq (fun w'=>SH w w' ([tb]++(ownM Awt cwt++(ownM Alg clg++[]))) [.blk tb 27 [I sx,(Z4 Awt wt cwt),(Z19 Alg lg clg),Str to],(Z32 Awt wt cwt),(Z26 Alg lg clg),.own (Z8 b2) ((splitB 32 l).length) c1 9 1 ((splitB 32 l).map Str)]) mixed (by kernel_rfl) hs1.drew (qA r0 (mv (v:=sb b2 ((splitB 32 l).length) c1) r0) (qA r0 (ixo 0 sl51 r0 r0 (by omega)) (qB r0 (fun hsq=>ldo1n (g:=Str) (ys:=splitB 32 l) (o:=0) [] hsq 3 r0 r0 (by omega) one9) (qA r0 (mv (v:=sb b2 ((splitB 32 l).length) c1) r0) (qA r0 (ixo 1 sl51 r0 r0 (by omega)) (qB r0 (fun hsq=>ldo1n (g:=Str) (ys:=splitB 32 l) (o:=1) [] hsq 3 r0 r0 (by omega) one9) (qc (Str (askX (decide ((Z114 l)=[111,108,100])) (Z49 l))) trivial r0 (fun wq hsq=>(iAskText _ _ _ (by(have hlf:=ln_f l; have w1:=hlf.1 1; have w0:=hlf.1 0; omega)) (by(have hlf:=ln_f l; have w1:=hlf.1 1; have w0:=hlf.1 0; omega)) (hGp.up hsq (fun _ h=>h) (by simp)) (hEr.up hsq (fun _ h=>h) (by simp)) (hEs.up hsq (fun _ h=>h) (by simp))).mono (fun v w' h=>⟨h.1,by simpa using hsq.call0 h.2⟩)) (qA r0 (asg (v:=Str (askX (decide ((Z114 l)=[111,108,100])) (Z49 l))) r0) (qn (fun w3 hs3=>?_))))))))))
  refine nN (rt (bR (tR (fT (Str (askX (decide ((Z114 l)=[111,108,100])) (Z49 l))) r0 ?_))))
  have e3:lineX (sx,wt,lg,to) l=((sx,wt,lg,to),askX (decide ((Z114 l)=[111,108,100])) (Z49 l)):=by exact li_o ‹_› (by simp_all; done)
  rw[e3]
  exact⟨Awt,cwt,Alg,clg,rfl,(hs3.pk [0,1,2] r0)⟩
 refine sr (qt r0 (eqs r0 r0) (tA (.bool (decide ((splitB 32 l).getD 0 []=[108,111,103,105,110]))) r0 (nn (cdd r0 (fun h5=>?_) (fun h5=>?_)))))
 ·refine sr (tm (.slice A1 ((splitB 32 l).length) c1) r0 (ixw1 1 sl51 r0 r0 (hs1.sl0 3 r0) (by omega) (getm Str [] (by omega)) trivial r0 (fun a2 ha2=>?_)))
  refine qt r0 (lda (SH.refl w1 []) ha2 (fun _ h=>h) r0 r0 one9) (cS hs1 r0 (iLoginText _ _ (by(have hlf:=ln_f l; have w1:=hlf.1 1; have w0:=hlf.1 0; omega))) (fun w4 hs4=>?_))
  refine tA (Str (loginX (Z49 l))) r0 (nn (rt (bR (tR (fT (Str (loginX (Z49 l))) r0 ?_)))))
  have e4:lineX (sx,wt,lg,to) l=((sx,wt,lg,to),loginX (Z49 l)):=by exact li_l ‹_› ‹_›
  rw[e4]
  exact⟨Awt,cwt,Alg,clg,rfl,(hs4.pk [0,1,2] r0)⟩
 refine sq (sr (qt r0 (eqs r0 r0) (tA (.bool (decide ((splitB 32 l).getD 0 []=[115,110,105,102,102]))) r0 (nn (cdd r0 (fun h6=>?_) (fun h6=>?_))))))
 ·refine sk (nN (cdd r0 (fun h7=>?_) (fun h7=>absurd (by exact h6) h7)))
  refine sr (tm (.slice A1 ((splitB 32 l).length) c1) r0 (ixw1 1 sl51 r0 r0 (hs1.sl0 3 r0) (by omega) (getm Str [] (by omega)) trivial r0 (fun a3 ha3=>?_)))
  refine qt r0 (lda (SH.refl w1 []) ha3 (fun _ h=>h) r0 r0 one9) (cS2 hs1 r0 (iHexFrom _ _ (by(have hlf:=ln_f l; have w1:=hlf.1 1; have w0:=hlf.1 0; omega))) (fun A2 c2 w5 hs5=>?_))
  refine tm (.tuple #[.slice A2 (((hexFrom (Z49 l)).1).length) c2,.bool ((hexFrom (Z49 l)).2)]) r0 (qt r0 (xt 0 r0 r0) (qt r0 (xt 1 r0 r0) (tA (.slice A2 (((hexFrom (Z49 l)).1).length) c2) r0 (tA (.bool ((hexFrom (Z49 l)).2)) r0 (nn (sq (sr (tm (.bool ((hexFrom (Z49 l)).2)) r0 (qt r0 (nt r0) (nn (cd r0 (fun h8=>?_) (fun h8=>?_))))))))))))
  ·have h9:=nbF h8
   refine sr (tA (Str [110,111]) r0 (nn ?_))
   have hs6:=hs5.pq [0,1,2] r0
   refine rt (tR (bR (tR (fT (Str [110,111]) r0 ?_))))
   have e5:lineX (sx,wt,lg,to) l=((sx,wt,lg,to),[110,111]):=by exact li_h ‹_› (by simp_all; done) ‹_›
   rw[e5]
   exact⟨Awt,cwt,Alg,clg,rfl,hs6⟩
  have h10:=nbT h8
  refine sk (nN (sq (sr (tm (.slice A1 ((splitB 32 l).length) c1) r0 (ixw1 0 sl51 r0 r0 (hs5.sl0 3 r0) (by omega) (getm Str [] (by omega)) trivial r0 (fun a4 ha4=>?_))))))
  refine qt r0 (lda (SH.refl w5 []) ha4 (fun _ h=>h) r0 r0 one9) (qt r0 (eqs r0 r0) (nn (cdd r0 (fun h11=>?_) (fun h11=>absurd (by exact h6) h11))))
  refine sr (tm (.slice A2 (((hexFrom (Z49 l)).1).length) c2) r0 (cS hs5 r0 (iSniffText _ _ (hs5.sl0 4 r0) (by(have hxl:=hexFrom_len (Z49 l); omega)) (hMl.up hs5 (fun _ h=>h) (by simp)) (hGp.up hs5 (fun _ h=>h) (by simp)) (hEr.up hs5 (fun _ h=>h) (by simp)) (hEs.up hs5 (fun _ h=>h) (by simp)) (hGk.upw hs5 (fun _ h=>h) (by simp))) (fun w6 hs7=>?_)))
  refine tA (Str (sniffT ((hexFrom (Z49 l)).1))) r0 (nn ?_)
  have hs8:=hs7.pq [0,1,2] r0
  refine rt (tR (bR (tR (fT (Str (sniffT ((hexFrom (Z49 l)).1))) r0 ?_))))
  have e6:lineX (sx,wt,lg,to) l=((sx,wt,lg,to),sniffT ((hexFrom (Z49 l)).1)):=by exact li_s ‹_› ‹_› ‹_›
  rw[e6]
  exact⟨Awt,cwt,Alg,clg,rfl,hs8⟩
 refine rg (qt r0 (eqs r0 r0) (tA (.bool (decide ((splitB 32 l).getD 0 []=[115,97,121]))) r0 (nn (cdd r0 (fun h12=>?_) (fun h12=>?_)))))
 ·refine sr (tm (.slice A1 ((splitB 32 l).length) c1) r0 (ixw1 1 sl51 r0 r0 (hs1.sl0 3 r0) (by omega) (getm Str [] (by omega)) trivial r0 (fun a5 ha5=>?_)))
  refine qt r0 (lda (SH.refl w1 []) ha5 (fun _ h=>h) r0 r0 one9) (cS2 hs1 r0 (iHexFrom _ _ (by(have hlf:=ln_f l; have w1:=hlf.1 1; have w0:=hlf.1 0; omega))) (fun A3 c3 w7 hs9=>?_))
  refine tm (.tuple #[.slice A3 (((hexFrom (Z49 l)).1).length) c3,.bool ((hexFrom (Z49 l)).2)]) r0 (qt r0 (xt 0 r0 r0) (qt r0 (xt 1 r0 r0) (tA (.slice A3 (((hexFrom (Z49 l)).1).length) c3) r0 (tA (.bool ((hexFrom (Z49 l)).2)) r0 (nn (sq (sr (tm (.bool ((hexFrom (Z49 l)).2)) r0 (qt r0 (nt r0) (nn (cd r0 (fun h13=>?_) (fun h13=>?_))))))))))))
  ·have h14:=nbF h13
   refine sr (tA (Str [110,111]) r0 (nn ?_))
   have hs10:=hs9.pq [0,1,2] r0
   refine rt (tR (bR (tR (fT (Str [110,111]) r0 ?_))))
   have e7:lineX (sx,wt,lg,to) l=((sx,wt,lg,to),[110,111]):=by exact li_h ‹_› (by simp_all; done) ‹_›
   rw[e7]
   exact⟨Awt,cwt,Alg,clg,rfl,hs10⟩
  have h15:=nbT h13
  refine sk (nN (sq (sr (tm (.slice A1 ((splitB 32 l).length) c1) r0 (ixw1 0 sl51 r0 r0 (hs9.sl0 3 r0) (by omega) (getm Str [] (by omega)) trivial r0 (fun a6 ha6=>?_))))))
  refine qt r0 (lda (SH.refl w7 []) ha6 (fun _ h=>h) r0 r0 one9) (qt r0 (eqs r0 r0) (nn (cdd r0 (fun h16=>absurd h16 (by exact h6)) (fun h16=>?_))))
  refine sk (nN (sr (tm (pB tb) r0 (tm (.slice A3 (((hexFrom (Z49 l)).1).length) c3) r0 (cL r0 (tkSayText _ _ _ _ _ _ (blk_heap hs9 0 r0) (own_ok hs9 1 r0) (own_ok hs9 2 r0) (it_dis hs9 0 1 (by decide) r0 r0) (it_dis hs9 0 2 (by decide) r0 r0) (it_dis hs9 1 2 (by decide) r0 r0) (by(assumption)) (hs9.sl3 4 0 1 2 (by decide) (by decide) (by decide) r0 r0 r0 r0) (by(have hxl:=hexFrom_len (Z49 l); omega)) (hGp.up hs9 (fun _ h=>h) (hs9.lo4 0 1 2 r0 r0 r0)) (hEr.up hs9 (fun _ h=>h) (hs9.lo4 0 1 2 r0 r0 r0)) (hEs.up hs9 (fun _ h=>h) (hs9.lo4 0 1 2 r0 r0 r0)) (hSt.upw hs9 (fun _ h=>h) (hs9.lo4 0 1 2 r0 r0 r0))) ?_)))))
  rintro _ w8 ⟨Aw1,cw1,Al1,cl1,rfl,hs11⟩
  replace hs11:=hs9.cK [0,1,2] [3,4] hs11 r0
  refine tA (Str ((sayX (sx,wt,lg,to) ((hexFrom (Z49 l)).1)).2)) r0 (nn ?_)
  have hs12:=hs11.pq [2,3,4] r0
  refine rt (bR (tR (fT (Str ((sayX (sx,wt,lg,to) ((hexFrom (Z49 l)).1)).2)) r0 ?_)))
  have e8:lineX (sx,wt,lg,to) l=(((sayX (sx,wt,lg,to) ((hexFrom (Z49 l)).1)).1.1,(sayX (sx,wt,lg,to) ((hexFrom (Z49 l)).1)).1.2.1,(sayX (sx,wt,lg,to) ((hexFrom (Z49 l)).1)).1.2.2.1,(sayX (sx,wt,lg,to) ((hexFrom (Z49 l)).1)).1.2.2.2),(sayX (sx,wt,lg,to) ((hexFrom (Z49 l)).1)).2):=by exact li_y ‹_› ‹_› ‹_›
  rw[e8]
  exact⟨Aw1,cw1,Al1,cl1,rfl,hs12⟩
 refine sk (bN (nN (sr (tA (Str [119,104,97,116]) r0 (nn (rt (fT (Str [119,104,97,116]) r0 ?_)))))))
 have e9:lineX (sx,wt,lg,to) l=((sx,wt,lg,to),[119,104,97,116]):=by exact li_w ‹_› ‹_› ‹_› ‹_› ‹_› ‹_›
 rw[e9]
 exact⟨Awt,cwt,Alg,clg,rfl,(hs1.pk [0,1,2] r0)⟩
theorem slCutSuffix (s:List UInt8) (t:List UInt8) (w:World) (hs_n:s.length≤1099511627776) (ht_n:t.length≤1099511627776):Does Tryz.prog 29 [Str s,Str t] w (fun v w'=>v=.tuple #[Str (cutS s t),.bool (decide (sufP s t))]∧SH w w' [] []):=by
 refine fE (N:=18) Tryz.func29 r0 (by kernel_rfl) r0 ?_
 have hs0:=SH.refl w []
 refine sr (tA (Str []) r0 (tA Z6 r0 (nn (sq (sq (rg (tm (Str s) r0 (tm (Str t) r0 (cS hs0 r0 (slHasSuffix _ _ _ (by omega) (by omega)) (fun w1 hs1=>?_))))))))))
 refine qt r0 (nt r0) (nn (cd r0 (fun h1=>?_) (fun h1=>?_)))
 ·have h2:=nbF h1
  refine sr (tm (Str s) r0 (tA (Str s) r0 (tA Z6 r0 (nn (rt (tR (fret (.tmp (.tmp .nil)) r0 ?_)))))))
  have e1:s=cutS s t:=by(simp only[cutS,if_neg (of_decide_eq_false ‹_›)]; done)
  have e2:false=(decide (sufP s t)):=by exact(decide_eq_false (of_decide_eq_false ‹_›)).symm
  exact⟨(tup2 (congrArg (Str) e1) (congrArg (Value.bool) e2)),hs1⟩
 have h3:=nbT h1
 refine sk (nN (sr (tm (Str s) r0 (tm (Str s) r0 (qt r0 (lnS st9 r0) (tm (Str t) r0 (qt r0 (lnS st9 r0) (qt r0 (subN r0 r0 (by(have hx:=of_decide_eq_true (by assumption:decide (sufP s t)=true); have hy:=hx.1; omega)) (by omega)) (qt r0 (cuhs (l:=s) (s.length-t.length) st9 r0 r0 (by omega)) (tA (Str (s.take (s.length-t.length))) r0 (tA Z35 r0 (nn (rt (fret (.tmp (.tmp .nil)) r0 ?_))))))))))))))
 have e3:s.take (s.length-t.length)=cutS s t:=by(simp only[cutS,if_pos (of_decide_eq_true ‹_›)]; done)
 have e4:true=(decide (sufP s t)):=by exact(decide_eq_true (of_decide_eq_true ‹_›)).symm
 exact⟨(tup2 (congrArg (Str) e3) (congrArg (Value.bool) e4)),hs1⟩
theorem stCutSuffix (s:List UInt8) (t:List UInt8) (w:World) (hs_n:s.length≤1099511627776) (ht_n:t.length≤1099511627776):Does Tryz.prog 11 [Str s,Str t] w (fun v w'=>v=.tuple #[Str (cutS s t),.bool (decide (sufP s t))]∧SH w w' [] []):=by
 refine fE (N:=11) Tryz.func11 r0 (by kernel_rfl) r0 ?_
 have hs0:=SH.refl w []
 refine sr (tA (Str []) r0 (tA Z6 r0 (nx (tm (Str s) r0 (tm (Str t) r0 (cS hs0 r0 (slCutSuffix _ _ _ (by omega) (by omega)) (fun w1 hs1=>?_)))))))
 refine qt r0 (xt 0 r0 r0) (qt r0 (xt 1 r0 r0) (tA (Str (cutS s t)) r0 (tA (.bool (decide (sufP s t))) r0 (nn (rt (fret (.tmp (.tmp .nil)) r0 ?_))))))
 exact⟨rfl,hs1⟩
theorem stLines1 {n1 l box:Nat} (J:List UInt8→World→Prop) (hJ: ∀ s W W1 L1,J s W→SH W W1 [box] L1→J s W1) (hJn: ∀ s W,J s W→s.length≤2147483648) (hY: ∀ ln rest W1,J (ln++rest) W1→LineOf ln rest→W1.heap[box]?=some (.cells #[Str rest] 9 (0,0))→ ∃ fn tmps assign body,(Instr.yield l #[Str ln]).run Tryz.prog W1=.ok (.round l fn tmps assign body) W1∧RoundIn Fence.wide (n1-1) Tryz.prog l fn tmps assign body W1 (fun e W'=>e=.returned (.bool true)∧J rest W'∧W'.heap[box]?=some (.cells #[Str rest] 9 (0,0)))) (w:World) (s:List UInt8) (hb:w.heap[box]?=some (.cells #[Str s] 9 (0,0))) (h0:J s w):CallsIn Fence.wide n1 Tryz.prog 27 #[.func (.yield l) #[] #[],pB box] w (fun e W'=>(∃ v,e=.returned v)∧J [] W'):=by
 refine enter_in (N:=25) (args:=[.func (.yield l) #[] #[],pB box]) (rs:=[]) Tryz.func27 r0 r0 r0 r0 r0 (blX (lpX (σ:=List UInt8) (fun s f w=>Hz f [(0,.func (.yield l) #[] #[]),(1,pB box)]∧w.heap[box]?=some (.cells #[Str s] 9 (0,0))∧J s w) (fun s=>s.length) s ⟨(zR r0),hb,h0⟩ ?_))
 clear hb h0
 rintro s f w ⟨⟨g,rfl⟩,hb,hj⟩
 have hs_n:=hJn _ _ hj
 have hib_:=idxB_range s 10
 have hs0:=SH.entry1 hb
 refine sqX (sqX (ofW (rg (qt r0 (lD (Str s) hs0 0 r0 one9) (qt r0 (lnS st9 r0) (qt r0 (gtr r0 r0) (nl (nN (cddX r0 (fun h1=>?_) (fun h1=>?_))))))))))
 ·refine skX (nN (blX (sqX (ofW (rg (tA (Str []) r0 (nl (nN (sqX (sqX (ofW (rg (qt r0 (lD (Str s) hs0 0 r0 one9) (cS hs0 r0 (stIndexByte _ (10:UInt8) _) (fun w1 hs1=>?_)))))))))))))))
  refine tA (I (idxB s (10:UInt8))) r0 (nn (sqX (ofW (rg (tm (I (idxB s (10:UInt8))) r0 (qt r0 (geq r0 r0) (nn (cddX r0 (fun h2=>?_) (fun h2=>?_)))))))))
  ·refine ofW ?_
   refine raJ (fun w'=>∃ L,SH w w' [box] L∧True) (fun f w'=>Hz f [(0,.func (.yield l) #[] #[]),(1,pB box),(3,Str (Z101 s))]∧SH w w' [box] [.blk box 9 [Str (Z102 s)]]) mixed ?_ ?_
   ·have hs2:=hs1.drew
    refine tk (fuel:=6) (is:=[1,2,5,6]) (.cons r0 (.cons r0 (.cons r0 (.cons r0 (.nil))))) (by kernel_rfl) (by kernel_rfl) ⟨_,hs2,trivial⟩ (yA r0 (mv (v:=I (idxB s (10:UInt8))) r0) (yA r0 (add r0 r0 (by exact⟨by omega,by omega⟩)) (yA r0 (mv (v:=I (idxB s (10:UInt8))) r0) (yA r0 (add r0 r0 (by exact⟨by omega,by omega⟩)) (.nil (a2 (i:=0) (j:=4) (by kernel_rfl) ?_ ?_))))))
    ·refine one_ r0 (qt r0 (lD (Str s) hs2 0 r0 one9) (nk ⟨_,hs2,trivial⟩ (tk (fuel:=3) (is:=[3,8]) (.cons r0 (.cons r0 (.nil))) (by kernel_rfl) (by kernel_rfl) ⟨_,hs2,trivial⟩ (yA r0 (cuhs (l:=s) (((idxB s (10:UInt8))+1).toNat) st9 r0 (ieq (x:=(idxB s (10:UInt8))+1) (by omega)) (by omega)) (yA r0 (asg (v:=Str (Z101 s)) r0) (.nil (a1 (i:=4) (by kernel_rfl) (one_ r0 (qt r0 (lD (Str s) hs2 0 r0 one9) (nk ⟨_,hs2,trivial⟩ (tk (fuel:=1) (is:=[7]) (.cons r0 (.nil)) (by kernel_rfl) (by kernel_rfl) ⟨_,hs2,trivial⟩ (yA r0 (culs (l:=s) (((idxB s (10:UInt8))+1).toNat) st9 r0 (ieq (x:=(idxB s (10:UInt8))+1) (by omega)) (by omega)) (.nil (a1 (i:=9) (by kernel_rfl) (one_ r0 (sT (Str (Z102 s)) hs2 0 r0 one9 (fun w2 hs3=>?_)))))))))))))))))
     refine nk ⟨_,hs3,trivial⟩ (ad (by kernel_rfl) ?_)
     exact⟨(zR r0),hs3⟩
    refine one_ r0 (qt r0 (lD (Str s) hs2 0 r0 one9) (nk ⟨_,hs2,trivial⟩ (tk (fuel:=4) (is:=[7]) (.cons r0 (.nil)) (by kernel_rfl) (by kernel_rfl) ⟨_,hs2,trivial⟩ (yA r0 (culs (l:=s) (((idxB s (10:UInt8))+1).toNat) st9 r0 (ieq (x:=(idxB s (10:UInt8))+1) (by omega)) (by omega)) (.nil (a1 (i:=0) (by kernel_rfl) (one_ r0 (qt r0 (lD (Str s) hs2 0 r0 one9) (nk ⟨_,hs2,trivial⟩ (tk (fuel:=1) (is:=[3,8]) (.cons r0 (.cons r0 (.nil))) (by kernel_rfl) (by kernel_rfl) ⟨_,hs2,trivial⟩ (yA r0 (cuhs (l:=s) (((idxB s (10:UInt8))+1).toNat) st9 r0 (ieq (x:=(idxB s (10:UInt8))+1) (by omega)) (by omega)) (yA r0 (asg (v:=Str (Z101 s)) r0) (.nil (a1 (i:=9) (by kernel_rfl) (one_ r0 (sT (Str (Z102 s)) hs2 0 r0 one9 (fun w3 hs4=>?_)))))))))))))))))
    refine nk ⟨_,hs4,trivial⟩ (ad (by kernel_rfl) ?_)
    exact⟨(zR r0),hs4⟩
   rintro f w4 ⟨⟨g1,rfl⟩,hs5⟩
   refine nN (sqX (rgX (qX trivial r0 r0 (mv (v:=.func (.yield l) #[] #[]) r0) (qX trivial r0 r0 (mv (v:=Str (Z101 s)) r0) ?_))))
   obtain ⟨fn_,tmps_,as_,bd_,hy_,hR_⟩:=hY (Z101 s) (Z102 s) _ (by
    have hjj:=hJ _ _ _ _ hj hs5
    have he_:s=(Z101 s)++(Z102 s):=by exact(List.take_append_drop _ _).symm
    rwa [he_]at hjj) (by exact line_cut ‹_›) (hs5.ok _ (by simp):(It.blk box 9 [Str (Z102 s)]).ok w4)
   refine yldX (args:=[.tmp 22]) trivial r0 r0 hy_ hR_ ?_
   rintro _ w4 ⟨rfl,hj4,hb4⟩
   refine⟨_,rfl,?_⟩
   refine qX trivial r0 r0 (nt r0) (nlX (nN (cdfX r0 (skX (bN (nN ?_))))))
   refine⟨_,⟨(zR r0),hb4,hj4⟩,?_⟩
   (simp only[List.length_drop]; omega)
  refine ofW (rg (qt r0 (lD (Str s) hs1 0 r0 one9) (tA (Str s) r0 (sT (Str []) hs1 0 r0 one9 (fun w5 hs6=>?_)))))
  refine nn (sqX (rgX (qX trivial r0 r0 (mv (v:=.func (.yield l) #[] #[]) r0) (qX trivial r0 r0 (mv (v:=Str s) r0) ?_))))
  obtain ⟨fn_,tmps_,as_,bd_,hy_,hR_⟩:=hY (s) ([]) _ (by
   have hjj:=hJ _ _ _ _ hj hs6
   have he_:s=s++[]:=by exact(List.append_nil _).symm
   rwa [he_]at hjj) (by exact line_all ‹_› (by omega)) (hs6.ok _ (by simp):(It.blk box 9 [Str ([])]).ok w5)
  refine yldX (args:=[.tmp 22]) trivial r0 r0 hy_ hR_ ?_
  rintro _ w4 ⟨rfl,hj4,hb4⟩
  refine⟨_,rfl,?_⟩
  refine qX trivial r0 r0 (nt r0) (nlX (nN (cdfX r0 (skX (bN (nN ?_))))))
  refine⟨_,⟨(zR r0),hb4,hj4⟩,?_⟩
  (simp only[List.length_nil]; omega)
 refine exX (tE (tE (bE ?_)))
 have he_:s=[]:=List.eq_nil_of_length_eq_zero (by omega)
 subst he_
 exact⟨[],.nil,⟨_,rfl⟩,hJ _ _ _ _ hj hs0⟩
theorem stLines (s:List UInt8) (w:World) (hs_n:s.length≤2147483648):Does Tryz.prog 10 [Str s] w (fun v w'=>∃ gr:Nat,v=.func (.func 27) #[] #[.pointer (some ⟨gr,0,none⟩)]∧SH w w' [] [.blk gr 9 [Str s]]):=by
 refine fE (N:=4) Tryz.func10 r0 (by kernel_rfl) r0 ?_
 have hs0:=SH.refl w []
 refine sr (bx (v:=Str s) (cs:=[Str s]) hs0 r0 r0 trivial r0 (fun b1 w1 hs1=>?_))
 refine tA (.nilFunc) r0 (nx (qt r0 (mf) (tA (.func (.func 27) #[] #[pB b1]) r0 (nl (nN (rt (fT (.func (.func 27) #[] #[pB b1]) r0 ?_)))))))
 exact⟨b1,rfl,hs1⟩
theorem iExecute (s:List UInt8) (w:World) (hs_n:s.length≤2147483648) (hMl:VarP Tryz.prog w [] "internal/bytealg.MaxLen" isI64) (hGp:VarP Tryz.prog w [] "internal/strconv.uint64pow10" isPow) (hEr:VarP Tryz.prog w [] "strconv.ErrRange" isIfc) (hEs:VarP Tryz.prog w [] "strconv.ErrSyntax" isIfc) (hGk:PA w [] ⟨1,0,none⟩ (kindTs.map Str)) (hSt:PA w [] ⟨0,0,none⟩ (stateTs.map Str)):Does Tryz.prog 5 [Str s] w (fun v w'=>v=Str (execT s)∧SH w w' [] []):=by
 refine fn_enterX (N:=39) (n:=5) Tryz.func5 r0 (by kernel_rfl) r0 r0 r0 ?_
 have hs0:SH w w [] []:=SH.refl w []
 refine sqZ (ofW (rg (tA (Str []) r0 (nl (nZ (sqZ (sqX (ofW (rg (tm (Str s) r0 (qt r0 (lnS st9 r0) (qt r0 (gtr r0 r0) (nn (cddX r0 (fun h1=>?_) (fun h1=>?_)))))))))))))))
 ·refine sqX (ofW (rg (tA (Str [116,111,111,32,108,111,110,103,10]) r0 (nn (rtX (rZ (end0 r0 (fT (Str [116,111,111,32,108,111,110,103,10]) r0 ?_))))))))
  have e1:[116,111,111,32,108,111,110,103,10]=execT s:=by exact(execT_long (by omega)).symm
  exact⟨(congrArg (Str) e1),hs0⟩
 refine skX (nZ (sqZ (ofW (rg (bsk hs0 sl24 [I 2,I 0] [I 2,I 0] trivial r0 (fun b1 w1 (hs1:SH w w1 [] [(Z138 b1)])=>?_))))))
 refine qt r0 (bdv (v:=.agg #[Z155,Str [97,98,99]]) [(0,Str [97,110,110]),(1,Str [97,98,99])] r0 (fun _=>by kernel_rfl)) (bsk hs1 sl25 [.agg #[Z155,Str [97,98,99]]] [Z155,Str [97,98,99]] trivial r0 (fun b2 w2 (hs2:SH w w2 [] [(Z138 b1),.own (Z8 b2) (([(([97,110,110],[97,98,99]):List UInt8×List UInt8)]:List (List UInt8×List UInt8)).length) 1 31 2 (([(([97,110,110],[97,98,99]):List UInt8×List UInt8)]:List (List UInt8×List UInt8)).flatMap gLogin)])=>?_))
 refine cL r0 (iTalkNew ([2,0]:List Int) ([(([97,110,110],[97,98,99]):List UInt8×List UInt8)]:List (List UInt8×List UInt8)) _ (hs2.sl0 0 r0) (by(simp; done)) (hs2.sl0 1 r0) (by(intro u hu; simp at hu; simp[hu]; done)) (by(simp; done)) (hGp.up0 hs2) (hEr.up0 hs2) (hEs.up0 hs2)) ?_
 rintro _ w3 ⟨Aw1,cw1,Al1,cl1,rfl,hs3⟩
 replace hs3:=hs2.call0 hs3
 refine tm (.tuple #[.agg #[I ((talkNew ([2,0]:List Int) ([(([97,110,110],[97,98,99]):List UInt8×List UInt8)]:List (List UInt8×List UInt8))).1.1),.slice Aw1 (((talkNew ([2,0]:List Int) ([(([97,110,110],[97,98,99]):List UInt8×List UInt8)]:List (List UInt8×List UInt8))).1.2.1).length) cw1,.slice Al1 (((talkNew ([2,0]:List Int) ([(([97,110,110],[97,98,99]):List UInt8×List UInt8)]:List (List UInt8×List UInt8))).1.2.2.1).length) cl1,Str ((talkNew ([2,0]:List Int) ([(([97,110,110],[97,98,99]):List UInt8×List UInt8)]:List (List UInt8×List UInt8))).1.2.2.2)],.bool ((talkNew ([2,0]:List Int) ([(([97,110,110],[97,98,99]):List UInt8×List UInt8)]:List (List UInt8×List UInt8))).2)]) r0 (qt r0 (xt 0 r0 r0) (qt r0 (xt 1 r0 r0) (al (cs:=Z31) hs3 tz27 r0 trivial r0 (fun b3 w4 (hs4:SH w w4 [] [(Z138 b1),.own (Z8 b2) (([(([97,110,110],[97,98,99]):List UInt8×List UInt8)]:List (List UInt8×List UInt8)).length) 1 31 2 (([(([97,110,110],[97,98,99]):List UInt8×List UInt8)]:List (List UInt8×List UInt8)).flatMap gLogin),.own Aw1 (((talkNew ([2,0]:List Int) ([(([97,110,110],[97,98,99]):List UInt8×List UInt8)]:List (List UInt8×List UInt8))).1.2.1).length) cw1 3 1 (((talkNew ([2,0]:List Int) ([(([97,110,110],[97,98,99]):List UInt8×List UInt8)]:List (List UInt8×List UInt8))).1.2.1).map I),.own Al1 (((talkNew ([2,0]:List Int) ([(([97,110,110],[97,98,99]):List UInt8×List UInt8)]:List (List UInt8×List UInt8))).1.2.2.1).length) cl1 31 2 (((talkNew ([2,0]:List Int) ([(([97,110,110],[97,98,99]):List UInt8×List UInt8)]:List (List UInt8×List UInt8))).1.2.2.1).flatMap gLogin),.blk b3 27 Z31])=>?_))))
 refine sG [I ((talkNew ([2,0]:List Int) ([(([97,110,110],[97,98,99]):List UInt8×List UInt8)]:List (List UInt8×List UInt8))).1.1),.slice Aw1 (((talkNew ([2,0]:List Int) ([(([97,110,110],[97,98,99]):List UInt8×List UInt8)]:List (List UInt8×List UInt8))).1.2.1).length) cw1,.slice Al1 (((talkNew ([2,0]:List Int) ([(([97,110,110],[97,98,99]):List UInt8×List UInt8)]:List (List UInt8×List UInt8))).1.2.2.1).length) cl1,Str ((talkNew ([2,0]:List Int) ([(([97,110,110],[97,98,99]):List UInt8×List UInt8)]:List (List UInt8×List UInt8))).1.2.2.2)] hs4 4 r0 ag27 (fun w5 (hs5:SH w w5 [] [(Z138 b1),.own (Z8 b2) (([(([97,110,110],[97,98,99]):List UInt8×List UInt8)]:List (List UInt8×List UInt8)).length) 1 31 2 (([(([97,110,110],[97,98,99]):List UInt8×List UInt8)]:List (List UInt8×List UInt8)).flatMap gLogin),.own Aw1 (((talkNew ([2,0]:List Int) ([(([97,110,110],[97,98,99]):List UInt8×List UInt8)]:List (List UInt8×List UInt8))).1.2.1).length) cw1 3 1 (((talkNew ([2,0]:List Int) ([(([97,110,110],[97,98,99]):List UInt8×List UInt8)]:List (List UInt8×List UInt8))).1.2.1).map I),.own Al1 (((talkNew ([2,0]:List Int) ([(([97,110,110],[97,98,99]):List UInt8×List UInt8)]:List (List UInt8×List UInt8))).1.2.2.1).length) cl1 31 2 (((talkNew ([2,0]:List Int) ([(([97,110,110],[97,98,99]):List UInt8×List UInt8)]:List (List UInt8×List UInt8))).1.2.2.1).flatMap gLogin),.blk b3 27 [I ((talkNew ([2,0]:List Int) ([(([97,110,110],[97,98,99]):List UInt8×List UInt8)]:List (List UInt8×List UInt8))).1.1),.slice Aw1 (((talkNew ([2,0]:List Int) ([(([97,110,110],[97,98,99]):List UInt8×List UInt8)]:List (List UInt8×List UInt8))).1.2.1).length) cw1,.slice Al1 (((talkNew ([2,0]:List Int) ([(([97,110,110],[97,98,99]):List UInt8×List UInt8)]:List (List UInt8×List UInt8))).1.2.2.1).length) cl1,Str ((talkNew ([2,0]:List Int) ([(([97,110,110],[97,98,99]):List UInt8×List UInt8)]:List (List UInt8×List UInt8))).1.2.2.2)]])=>?_)
 refine tA (.bool ((talkNew ([2,0]:List Int) ([(([97,110,110],[97,98,99]):List UInt8×List UInt8)]:List (List UInt8×List UInt8))).2)) r0 (nl (nZ (sqZ (ofW (rg (al (cs:=[.pointer none,ns]) hs5 tz38 r0 trivial r0 (fun b4 w6 (hs6:SH w w6 [] [(Z138 b1),.own (Z8 b2) (([(([97,110,110],[97,98,99]):List UInt8×List UInt8)]:List (List UInt8×List UInt8)).length) 1 31 2 (([(([97,110,110],[97,98,99]):List UInt8×List UInt8)]:List (List UInt8×List UInt8)).flatMap gLogin),.own Aw1 (((talkNew ([2,0]:List Int) ([(([97,110,110],[97,98,99]):List UInt8×List UInt8)]:List (List UInt8×List UInt8))).1.2.1).length) cw1 3 1 (((talkNew ([2,0]:List Int) ([(([97,110,110],[97,98,99]):List UInt8×List UInt8)]:List (List UInt8×List UInt8))).1.2.1).map I),.own Al1 (((talkNew ([2,0]:List Int) ([(([97,110,110],[97,98,99]):List UInt8×List UInt8)]:List (List UInt8×List UInt8))).1.2.2.1).length) cl1 31 2 (((talkNew ([2,0]:List Int) ([(([97,110,110],[97,98,99]):List UInt8×List UInt8)]:List (List UInt8×List UInt8))).1.2.2.1).flatMap gLogin),.blk b3 27 [I ((talkNew ([2,0]:List Int) ([(([97,110,110],[97,98,99]):List UInt8×List UInt8)]:List (List UInt8×List UInt8))).1.1),.slice Aw1 (((talkNew ([2,0]:List Int) ([(([97,110,110],[97,98,99]):List UInt8×List UInt8)]:List (List UInt8×List UInt8))).1.2.1).length) cw1,.slice Al1 (((talkNew ([2,0]:List Int) ([(([97,110,110],[97,98,99]):List UInt8×List UInt8)]:List (List UInt8×List UInt8))).1.2.2.1).length) cl1,Str ((talkNew ([2,0]:List Int) ([(([97,110,110],[97,98,99]):List UInt8×List UInt8)]:List (List UInt8×List UInt8))).1.2.2.2)],.blk b4 38 [.pointer none,ns]])=>?_)))))))
 refine nl (nZ (sqZ0 (sqZ (ofW (rg (tm (Str s) r0 (cL r0 (stLines _ _ (by omega)) ?_)))))))
 rintro _ w7 ⟨g1,rfl,hs7⟩
 replace hs7:=hs6.call0 hs7
 refine nl (nZ ?_)
 have hs8:SH w w7 [] [(Z138 b1),.own (Z8 b2) (([(([97,110,110],[97,98,99]):List UInt8×List UInt8)]:List (List UInt8×List UInt8)).length) 1 31 2 (([(([97,110,110],[97,98,99]):List UInt8×List UInt8)]:List (List UInt8×List UInt8)).flatMap gLogin),.own Aw1 (((talkNew ([2,0]:List Int) ([(([97,110,110],[97,98,99]):List UInt8×List UInt8)]:List (List UInt8×List UInt8))).1.2.1).length) cw1 3 1 (((talkNew ([2,0]:List Int) ([(([97,110,110],[97,98,99]):List UInt8×List UInt8)]:List (List UInt8×List UInt8))).1.2.1).map I),.own Al1 (((talkNew ([2,0]:List Int) ([(([97,110,110],[97,98,99]):List UInt8×List UInt8)]:List (List UInt8×List UInt8))).1.2.2.1).length) cl1 31 2 (((talkNew ([2,0]:List Int) ([(([97,110,110],[97,98,99]):List UInt8×List UInt8)]:List (List UInt8×List UInt8))).1.2.2.1).flatMap gLogin),.blk b3 27 [I ((talkNew ([2,0]:List Int) ([(([97,110,110],[97,98,99]):List UInt8×List UInt8)]:List (List UInt8×List UInt8))).1.1),.slice Aw1 (((talkNew ([2,0]:List Int) ([(([97,110,110],[97,98,99]):List UInt8×List UInt8)]:List (List UInt8×List UInt8))).1.2.1).length) cw1,.slice Al1 (((talkNew ([2,0]:List Int) ([(([97,110,110],[97,98,99]):List UInt8×List UInt8)]:List (List UInt8×List UInt8))).1.2.2.1).length) cl1,Str ((talkNew ([2,0]:List Int) ([(([97,110,110],[97,98,99]):List UInt8×List UInt8)]:List (List UInt8×List UInt8))).1.2.2.2)],.blk b4 38 [.pointer none,ns],.blk g1 9 [Str s],Z90]:=SH.nils (by intro i hi; simp at hi; subst hi; exact nilItem) hs7
 have hs9:SH w w7 [] [.blk b3 27 [I ((talkNew ([2,0]:List Int) ([(([97,110,110],[97,98,99]):List UInt8×List UInt8)]:List (List UInt8×List UInt8))).1.1),.slice Aw1 (((talkNew ([2,0]:List Int) ([(([97,110,110],[97,98,99]):List UInt8×List UInt8)]:List (List UInt8×List UInt8))).1.2.1).length) cw1,.slice Al1 (((talkNew ([2,0]:List Int) ([(([97,110,110],[97,98,99]):List UInt8×List UInt8)]:List (List UInt8×List UInt8))).1.2.2.1).length) cl1,Str ((talkNew ([2,0]:List Int) ([(([97,110,110],[97,98,99]):List UInt8×List UInt8)]:List (List UInt8×List UInt8))).1.2.2.2)],.own Aw1 (((talkNew ([2,0]:List Int) ([(([97,110,110],[97,98,99]):List UInt8×List UInt8)]:List (List UInt8×List UInt8))).1.2.1).length) cw1 3 1 (((talkNew ([2,0]:List Int) ([(([97,110,110],[97,98,99]):List UInt8×List UInt8)]:List (List UInt8×List UInt8))).1.2.1).map I),.own Al1 (((talkNew ([2,0]:List Int) ([(([97,110,110],[97,98,99]):List UInt8×List UInt8)]:List (List UInt8×List UInt8))).1.2.2.1).length) cl1 31 2 (((talkNew ([2,0]:List Int) ([(([97,110,110],[97,98,99]):List UInt8×List UInt8)]:List (List UInt8×List UInt8))).1.2.2.1).flatMap gLogin),.blk b4 38 [.pointer none,.slice none (([]:List UInt8).length) 0],Z90,.blk g1 9 [Str s]]:=hs8.pk [4,2,3,5,7,6] r0
 have hB6:=SH.entryK [.blk b3 27 [I ((talkNew ([2,0]:List Int) ([(([97,110,110],[97,98,99]):List UInt8×List UInt8)]:List (List UInt8×List UInt8))).1.1),.slice Aw1 (((talkNew ([2,0]:List Int) ([(([97,110,110],[97,98,99]):List UInt8×List UInt8)]:List (List UInt8×List UInt8))).1.2.1).length) cw1,.slice Al1 (((talkNew ([2,0]:List Int) ([(([97,110,110],[97,98,99]):List UInt8×List UInt8)]:List (List UInt8×List UInt8))).1.2.2.1).length) cl1,Str ((talkNew ([2,0]:List Int) ([(([97,110,110],[97,98,99]):List UInt8×List UInt8)]:List (List UInt8×List UInt8))).1.2.2.2)],.own Aw1 (((talkNew ([2,0]:List Int) ([(([97,110,110],[97,98,99]):List UInt8×List UInt8)]:List (List UInt8×List UInt8))).1.2.1).length) cw1 3 1 (((talkNew ([2,0]:List Int) ([(([97,110,110],[97,98,99]):List UInt8×List UInt8)]:List (List UInt8×List UInt8))).1.2.1).map I),.own Al1 (((talkNew ([2,0]:List Int) ([(([97,110,110],[97,98,99]):List UInt8×List UInt8)]:List (List UInt8×List UInt8))).1.2.2.1).length) cl1 31 2 (((talkNew ([2,0]:List Int) ([(([97,110,110],[97,98,99]):List UInt8×List UInt8)]:List (List UInt8×List UInt8))).1.2.2.1).flatMap gLogin),.blk b4 38 [.pointer none,.slice none (([]:List UInt8).length) 0],Z90,.blk g1 9 [Str s]] hs9.ok hs9.dis
 have hMl_k:=hMl.up hs9 (by simp) hs9.loB
 have hGp_k:=hGp.up hs9 (by simp) hs9.loB
 have hGk_k:=hGk.upw hs9 (by simp) hs9.loB
 have hSt_k:=hSt.upw hs9 (by simp) hs9.loB
 have hEr_k:=hEr.up hs9 (by simp) hs9.loB
 have hEs_k:=hEs.up hs9 (by simp) hs9.loB
 refine rangeZ r0 (K:=fun(⟨zs,zw,zl,zt,o,A1,c1,A2,c2,A3,c3,pb_⟩:Int×List Int×List Lg×List UInt8×List UInt8×Option Addr×Nat×Option Addr×Nat×Option Addr×Nat×Option Addr)=>[.blk b3 27 [I zs,.slice A1 zw.length c1,.slice A2 zl.length c2,Str zt],.own A1 zw.length c1 3 1 (zw.map I),.own A2 zl.length c2 31 2 (zl.flatMap gLogin),.blk b4 38 [.pointer pb_,.slice A3 o.length c3],.own A3 o.length c3 5 1 (o.map U)]) (R:=fun rest (⟨zs,zw,zl,zt,o,A1,c1,A2,c2,A3,c3,pb_⟩:Int×List Int×List Lg×List UInt8×List UInt8×Option Addr×Nat×Option Addr×Nat×Option Addr×Nat×Option Addr)=>scR s rest (zs,zw,zl,zt) o∧(pb_=none∨pb_=some ⟨b4,0,none⟩)) s ((talkNew ([2,0]:List Int) ([(([97,110,110],[97,98,99]):List UInt8×List UInt8)]:List (List UInt8×List UInt8))).1.1,(talkNew ([2,0]:List Int) ([(([97,110,110],[97,98,99]):List UInt8×List UInt8)]:List (List UInt8×List UInt8))).1.2.1,(talkNew ([2,0]:List Int) ([(([97,110,110],[97,98,99]):List UInt8×List UInt8)]:List (List UInt8×List UInt8))).1.2.2.1,(talkNew ([2,0]:List Int) ([(([97,110,110],[97,98,99]):List UInt8×List UInt8)]:List (List UInt8×List UInt8))).1.2.2.2,[],Aw1,cw1,Al1,cl1,none,0,none) r0 ⟨_,_,Tryz.func27,by kernel_rfl,rfl⟩ r0 hB6 ⟨by rw[talkNew_0]; exact scR_0,.inl r0⟩ ?_ (fun l J hJ hJn hY W s hb hj=>stLines1 J hJ hJn hY W s hb hj) r0 ?_ ?_
 ·rintro s1 ⟨zs,zw,zl,zt,o,A1,c1,A2,c2,A3,c3,pb_⟩ ⟨h,_⟩
  rcases h with ⟨pre,he_,_⟩ | ⟨he_,_⟩
  ·rw[he_,List.length_append]at hs_n; omega
  subst he_; simp
 ·rintro l ⟨zs,zw,zl,zt,o,A1,c1,A2,c2,A3,c3,pb_⟩ ln rest W ⟨hR,hpb_⟩ hln
  have hnl_:ln.length≤s.length:=scR_len hR
  have hft:=scR_fit hR
  refine rgB r0 (tA (Str ln) r0 (nl ⟨rfl,rfl,rfl,fun wb hwb hsb=>?_⟩))
  have hsr:SH wb wb ([b3]++(ownM A1 c1++(ownM A2 c2++([b4]++(ownM A3 c3++[]))))) [.blk b3 27 [I zs,.slice A1 zw.length c1,.slice A2 zl.length c2,Str zt],.own A1 zw.length c1 3 1 (zw.map I),.own A2 zl.length c2 31 2 (zl.flatMap gLogin),.blk b4 38 [.pointer pb_,.slice A3 o.length c3],.own A3 o.length c3 5 1 (o.map U)]:=hsb
  have hMl:=hMl_k.up hwb (fun _ h=>h) hwb.loB
  have hGp:=hGp_k.up hwb (fun _ h=>h) hwb.loB
  have hGk:=hGk_k.upw hwb (fun _ h=>h) hwb.loB
  have hSt:=hSt_k.upw hwb (fun _ h=>h) hwb.loB
  have hEr:=hEr_k.up hwb (fun _ h=>h) hwb.loB
  have hEs:=hEs_k.up hwb (fun _ h=>h) hwb.loB
  refine blX (sqX (rgB r0 (tm (Str ln) r0 (cS hsr r0 (stCutSuffix _ [10] _ (by omega) (by(simp; done))) (fun w8 hs10=>?_)))))
  refine tm (.tuple #[Str (cutS ln [10]),.bool (decide (sufP ln [10]))]) r0 (qt r0 (xt 0 r0 r0) (qt r0 (xt 1 r0 r0) (tA (Str (cutS ln [10])) r0 (tA (.bool (decide (sufP ln [10]))) r0 (nl ⟨rfl,?_⟩)))))
  refine nN (sqX (rgB r0 (tm (.bool (decide (sufP ln [10]))) r0 (nl ⟨rfl,?_⟩))))
  refine nN (cddX r0 (fun h2=>?_) (fun h2=>?_))
  ·refine rgB r0 (tm (Str (cutS ln [10])) r0 (cL r0 (tkLine _ _ _ _ _ _ (blk_heap hs10 0 r0) (own_ok hs10 1 r0) (own_ok hs10 2 r0) (it_dis hs10 0 1 (by decide) r0 r0) (it_dis hs10 0 2 (by decide) r0 r0) (it_dis hs10 1 2 (by decide) r0 r0) (by exact hft.1) (by(exact Nat.le_trans (cutS_len ln [10]) (by omega))) (hMl.up hs10 (fun _ h=>h) (hs10.lo4 0 1 2 r0 r0 r0)) (hGp.up hs10 (fun _ h=>h) (hs10.lo4 0 1 2 r0 r0 r0)) (hEr.up hs10 (fun _ h=>h) (hs10.lo4 0 1 2 r0 r0 r0)) (hEs.up hs10 (fun _ h=>h) (hs10.lo4 0 1 2 r0 r0 r0)) (hGk.upw hs10 (fun _ h=>h) (hs10.lo4 0 1 2 r0 r0 r0)) (hSt.upw hs10 (fun _ h=>h) (hs10.lo4 0 1 2 r0 r0 r0))) ?_))
   rintro _ w9 ⟨Aw2,cw2,Al2,cl2,rfl,hs11⟩
   replace hs11:SH wb w9 ([b3]++(ownM A1 c1++(ownM A2 c2++([b4]++(ownM A3 c3++[]))))) [.blk b4 38 [.pointer pb_,.slice A3 o.length c3],.own A3 o.length c3 5 1 (o.map U),.blk b3 27 [I ((lineX (zs,zw,zl,zt) (cutS ln [10])).1.1),.slice Aw2 (((lineX (zs,zw,zl,zt) (cutS ln [10])).1.2.1).length) cw2,.slice Al2 (((lineX (zs,zw,zl,zt) (cutS ln [10])).1.2.2.1).length) cl2,Str ((lineX (zs,zw,zl,zt) (cutS ln [10])).1.2.2.2)],.own Aw2 (((lineX (zs,zw,zl,zt) (cutS ln [10])).1.2.1).length) cw2 3 1 (((lineX (zs,zw,zl,zt) (cutS ln [10])).1.2.1).map I),.own Al2 (((lineX (zs,zw,zl,zt) (cutS ln [10])).1.2.2.1).length) cl2 31 2 (((lineX (zs,zw,zl,zt) (cutS ln [10])).1.2.2.1).flatMap gLogin)]:=SH.callK (K:=[.blk b3 27 [I zs,.slice A1 zw.length c1,.slice A2 zl.length c2,Str zt],.own A1 zw.length c1 3 1 (zw.map I),.own A2 zl.length c2 31 2 (zl.flatMap gLogin)]) (R:=[.blk b4 38 [.pointer pb_,.slice A3 o.length c3],.own A3 o.length c3 5 1 (o.map U)]) hs10 hs11 r0
   refine qt r0 (cat r0 r0 (by((have h1_:=lineX_len (zs,zw,zl,zt) (cutS ln [10]); (try simp only[List.length_append,List.length_cons,List.length_nil]); omega)))) (cL r0 (writeString _ _ _ (blk_heap hs11 0 r0) (‹_›) (own_ok hs11 1 r0) (it_dis hs11 1 0 (by decide) r0 r0) (by((have h1_:=lineX_len (zs,zw,zl,zt) (cutS ln [10]); (try simp only[List.length_append,List.length_cons,List.length_nil]); omega))) (by(have h1_:=hft.2; omega))) ?_)
   rintro _ w10 ⟨Ao1,co1,rfl,hs12⟩
   replace hs12:SH wb w10 ([b3]++(ownM A1 c1++(ownM A2 c2++([b4]++(ownM A3 c3++[]))))) [.blk b3 27 [I ((lineX (zs,zw,zl,zt) (cutS ln [10])).1.1),.slice Aw2 (((lineX (zs,zw,zl,zt) (cutS ln [10])).1.2.1).length) cw2,.slice Al2 (((lineX (zs,zw,zl,zt) (cutS ln [10])).1.2.2.1).length) cl2,Str ((lineX (zs,zw,zl,zt) (cutS ln [10])).1.2.2.2)],.own Aw2 (((lineX (zs,zw,zl,zt) (cutS ln [10])).1.2.1).length) cw2 3 1 (((lineX (zs,zw,zl,zt) (cutS ln [10])).1.2.1).map I),.own Al2 (((lineX (zs,zw,zl,zt) (cutS ln [10])).1.2.2.1).length) cl2 31 2 (((lineX (zs,zw,zl,zt) (cutS ln [10])).1.2.2.1).flatMap gLogin),.blk b4 38 [pB b4,.slice Ao1 ((o++(((lineX (zs,zw,zl,zt) (cutS ln [10])).2)++[10])).length) co1],.own Ao1 ((o++(((lineX (zs,zw,zl,zt) (cutS ln [10])).2)++[10])).length) co1 5 1 ((o++(((lineX (zs,zw,zl,zt) (cutS ln [10])).2)++[10])).map U)]:=SH.callK (K:=[.blk b4 38 [.pointer pb_,.slice A3 o.length c3],.own A3 o.length c3 5 1 (o.map U)]) (R:=[.blk b3 27 [I ((lineX (zs,zw,zl,zt) (cutS ln [10])).1.1),.slice Aw2 (((lineX (zs,zw,zl,zt) (cutS ln [10])).1.2.1).length) cw2,.slice Al2 (((lineX (zs,zw,zl,zt) (cutS ln [10])).1.2.2.1).length) cl2,Str ((lineX (zs,zw,zl,zt) (cutS ln [10])).1.2.2.2)],.own Aw2 (((lineX (zs,zw,zl,zt) (cutS ln [10])).1.2.1).length) cw2 3 1 (((lineX (zs,zw,zl,zt) (cutS ln [10])).1.2.1).map I),.own Al2 (((lineX (zs,zw,zl,zt) (cutS ln [10])).1.2.2.1).length) cl2 31 2 (((lineX (zs,zw,zl,zt) (cutS ln [10])).1.2.2.1).flatMap gLogin)]) hs11 hs12 r0
   refine nl ⟨rfl,?_⟩
   refine bN ?_
   refine⟨rfl,((lineX (zs,zw,zl,zt) (cutS ln [10])).1.1,(lineX (zs,zw,zl,zt) (cutS ln [10])).1.2.1,(lineX (zs,zw,zl,zt) (cutS ln [10])).1.2.2.1,(lineX (zs,zw,zl,zt) (cutS ln [10])).1.2.2.2,o++(((lineX (zs,zw,zl,zt) (cutS ln [10])).2)++[10]),Aw2,cw2,Al2,cl2,Ao1,co1,(Z8 b4)),⟨?_,?_⟩,hs12⟩
   ·exact scR_yes hR hln ‹_›
   exact .inr r0
  refine skX (bN ?_)
  refine⟨rfl,(zs,zw,zl,zt,o,A1,c1,A2,c2,A3,c3,pb_),⟨?_,?_⟩,hs10⟩
  ·exact scR_no hR hln ‹_›
  assumption
 rintro D W ⟨zs,zw,zl,zt,o,A1,c1,A2,c2,A3,c3,pb_⟩ hD ⟨hR,hpb_⟩ hsh hd hsep
 have hft:=scR_fit hR
 have hz4:0≤zs∧zs≤4:=hft.1.1
 refine toZ (wZ (Q:=finM Tryz.prog [.tmp 2] D _) ?_ (fun e f w h=>mark_end r0 h))
 have hsr:SH W W ([b3]++(ownM A1 c1++(ownM A2 c2++([b4]++(ownM A3 c3++[]))))) [.blk b3 27 [I zs,.slice A1 zw.length c1,.slice A2 zl.length c2,Str zt],.own A1 zw.length c1 3 1 (zw.map I),.own A2 zl.length c2 31 2 (zl.flatMap gLogin),.blk b4 38 [.pointer pb_,.slice A3 o.length c3],.own A3 o.length c3 5 1 (o.map U)]:=SH.entryK _ hsh.ok hsh.dis
 have hMl:=hMl_k.up hsh (fun _ h=>h) hsh.loB
 have hGp:=hGp_k.up hsh (fun _ h=>h) hsh.loB
 have hGk:=hGk_k.upw hsh (fun _ h=>h) hsh.loB
 have hSt:=hSt_k.upw hsh (fun _ h=>h) hsh.loB
 have hEr:=hEr_k.up hsh (fun _ h=>h) hsh.loB
 have hEs:=hEs_k.up hsh (fun _ h=>h) hsh.loB
 refine sqX (rgB r0 (qt r0 (fa 0 fo27_0 r0) (qt r0 (lD (I zs) hsr 0 r0 one3) (ixg1 (n:=5) zs.toNat ar48 r0 (ieq (x:=zs) (by omega)) hSt (by omega) (getm Str [] (by rw[stateTs_len]; omega)) trivial r0 (fun a1 ha1=>?_)))))
 refine qt r0 (lda hsr ha1 (fun _ h=>h) r0 r0 one9) (qt r0 (cat r0 r0 (by((rw[stateTs_at hz4.1 hz4.2]; have h1_:=stateT_len zs; (try simp only[List.length_append,List.length_cons,List.length_nil]); omega)))) ?_)
 have e2:(stateTs.getD zs.toNat [])++[10]=stateT zs++[10]:=by rw[stateTs_at hz4.1 hz4.2]
 refine re 36 (v:=Str (stateT zs++[10])) (congrArg Str e2) (cL r0 (writeString _ _ _ (blk_heap hsr 3 r0) (‹_›) (own_ok hsr 4 r0) (it_dis hsr 4 3 (by decide) r0 r0) (by((have h1_:=stateT_len zs; (try simp only[List.length_append,List.length_cons,List.length_nil]); omega))) (by(have h1_:=hft.2; omega))) ?_)
 rintro _ w11 ⟨Ao2,co2,rfl,hs13⟩
 replace hs13:SH W w11 ([b3]++(ownM A1 c1++(ownM A2 c2++([b4]++(ownM A3 c3++[]))))) [.blk b3 27 [I zs,.slice A1 zw.length c1,.slice A2 zl.length c2,Str zt],.own A1 zw.length c1 3 1 (zw.map I),.own A2 zl.length c2 31 2 (zl.flatMap gLogin),.blk b4 38 [pB b4,.slice Ao2 ((o++(stateT zs++[10])).length) co2],.own Ao2 ((o++(stateT zs++[10])).length) co2 5 1 ((o++(stateT zs++[10])).map U)]:=SH.callK (K:=[.blk b4 38 [.pointer pb_,.slice A3 o.length c3],.own A3 o.length c3 5 1 (o.map U)]) (R:=[.blk b3 27 [I zs,.slice A1 zw.length c1,.slice A2 zl.length c2,Str zt],.own A1 zw.length c1 3 1 (zw.map I),.own A2 zl.length c2 31 2 (zl.flatMap gLogin)]) (hsr.pk [3,4,0,1,2] r0) hs13 r0
 refine nl ⟨rfl,?_⟩
 refine nN (sqX (rgB r0 (cL r0 (bString _ _ (blk_heap hs13 3 r0) (.inr r0) (own_ok hs13 4 r0) (it_dis hs13 4 3 (by decide) r0 r0) (by(simp; done))) ?_)))
 rintro _ w12 ⟨rfl,hs14⟩
 replace hs14:SH W w12 ([b3]++(ownM A1 c1++(ownM A2 c2++([b4]++(ownM A3 c3++[]))))) [.blk b3 27 [I zs,.slice A1 zw.length c1,.slice A2 zl.length c2,Str zt],.own A1 zw.length c1 3 1 (zw.map I),.own A2 zl.length c2 31 2 (zl.flatMap gLogin)]:=SH.callK (K:=[.blk b4 38 [pB b4,.slice Ao2 ((o++(stateT zs++[10])).length) co2],.own Ao2 ((o++(stateT zs++[10])).length) co2 5 1 ((o++(stateT zs++[10])).map U)]) (R:=[.blk b3 27 [I zs,.slice A1 zw.length c1,.slice A2 zl.length c2,Str zt],.own A1 zw.length c1 3 1 (zw.map I),.own A2 zl.length c2 31 2 (zl.flatMap gLogin)]) (hs13.pk [3,4,0,1,2] r0) hs14 r0
 refine tA (Str (o++(stateT zs++[10]))) r0 (nl ⟨rfl,?_⟩)
 refine nN (rtX ?_)
 have hnD:D ∉ ([b3]++(ownM A1 c1++(ownM A2 c2++([b4]++(ownM A3 c3++[]))))):=by
  intro hm
  obtain ⟨i_,hi_,hk_⟩:=List.mem_flatMap.1 (show D∈([.blk b3 27 [I zs,.slice A1 zw.length c1,.slice A2 zl.length c2,Str zt],.own A1 zw.length c1 3 1 (zw.map I),.own A2 zl.length c2 31 2 (zl.flatMap gLogin),.blk b4 38 [.pointer pb_,.slice A3 o.length c3],.own A3 o.length c3 5 1 (o.map U)]).flatMap It.blocks from hm)
  exact hsep i_ hi_ D (It.mem_blocks.1 hk_) r0
 refine⟨hs14.keepB hd hnD,[Str (o++(stateT zs++[10]))],.tmp .nil,?_,?_⟩
 ·exact congrArg Str (scR_end hR (by omega)).symm
 have h1_:SH w W [] _:=SH.callK (R:=[]) (L':=[.blk b3 27 [I zs,.slice A1 zw.length c1,.slice A2 zl.length c2,Str zt],.own A1 zw.length c1 3 1 (zw.map I),.own A2 zl.length c2 31 2 (zl.flatMap gLogin),.blk b4 38 [.pointer pb_,.slice A3 o.length c3],.own A3 o.length c3 5 1 (o.map U)]) (by simpa using hs9) hsh r0
 have h2_:=SH.callK (R:=[]) (by simpa using h1_) hs14 r0
 have h3_:SH w _ [] []:=h2_.weaken (List.nil_sublist _)
 exact h3_.put (Nat.le_trans hs9.size hD) (by simp)

end Go.Proofs.YtbopieehnmljkaaGreatDoor
