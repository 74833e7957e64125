/-
  Part of the proofs over this seat: what each function of the program computes, function by function (the text is written by a program of this hand-in's own).
  Conditions: each theorem states its own.
-/
import Derived.Test.YtbopieehnmljkaaGreatDoorPfWalks
namespace Go.Proofs.YtbopieehnmljkaaGreatDoor
open Go.PF
set_option maxRecDepth 100000
set_option linter.unusedSimpArgs false
set_option linter.unusedVariables false

set_option maxHeartbeats 8000000 in
theorem iReplyBytes (c:Int) (ak:Int) {Aaq:Option Addr} {caq:Nat} (aq:List Int) (an:List UInt8) (apt:Int) (w:World) (haq:Sl w [] 1 Aaq aq.length caq (aq.map I)) (han_n:an.length≤1099511627776):Does Tryz.prog 188 [I c,.agg #[I ak,.slice Aaq aq.length caq,Str an,I apt]] w (fun v w'=>∃ Ar:Option Addr,∃ cr:Nat,v=.tuple #[.slice Ar ((replyP c ak aq an apt).1).length cr,.bool ((replyP c ak aq an apt).2)]∧SH w w' [] [.own Ar (((replyP c ak aq an apt).1).length) cr 3 1 (((replyP c ak aq an apt).1).map I)]):=by
 refine fE (N:=19) Tryz.func188 r0 (by kernel_rfl) r0 ?_
 have hs0:=SH.refl w []
 have haq_m:aq.length≤9223372036854775807:=Nat.le_trans haq.cap haq.capMax
 refine sr (bx (v:=.agg #[I ak,(Z4 Aaq aq caq),Str an,I apt]) (cs:=[I ak,(Z4 Aaq aq caq),Str an,I apt]) hs0 r0 r0 trivial r0 (fun b1 w1 hs1=>?_))
 refine tA ns r0 (tA Z6 r0 (nn (sq (sr (tm (I c) r0 (cS hs1 r0 (iWithin _ 0 8 _) (fun w2 hs2=>?_)))))))
 refine qt r0 (nd r0) (tm (.bool (decide (¬ (0≤c∧c≤8)))) r0 (spd 9 r0 (fun h1=>?_) (fun h1=>?_)))
 ·refine gt5 r0 (gt5 r0 (gt5 r0 (qt r0 (pt (v:=.bool true) r0 r0) (nn (cdt r0 (sq (rg (tA ns r0 (tA Z6 r0 (nn (rt (tR (fret (.tmp (.tmp .nil)) r0 ?_)))))))))))))
  have hs3:=hs2.nl [Z0] r0
  have e1:replyP c ak aq an apt=(([]:List Int),false):=by simp[replyP,h1]
  rw[e1]
  exact⟨none,0,rfl,(hs3.pk [1] r0)⟩
 refine qh r0 (lG [I ak,(Z4 Aaq aq caq),Str an,I apt] hs2 0 r0 ag54) (cl ⟨_,rfl,rfl⟩ r0 (iAddressValid _ _ _ _ _ (haq.up0 hs2) (by omega)) ?_)
 rintro _ w3 ⟨rfl,hs4⟩
 replace hs4:=hs2.call0 hs4
 refine qh r0 (nt r0) (qt r0 (pf (v:=.bool (!(addrOk ak aq an apt))) r0 r0) (nn (cd r0 (fun h2=>?_) (fun h2=>?_))))
 ·have h3:=nbF h2
  refine sr (tA ns r0 (tA Z6 r0 (nn (rt (tR (fret (.tmp (.tmp .nil)) r0 ?_))))))
  have hs5:=hs4.nl [Z0] r0
  have e2:replyP c ak aq an apt=(([]:List Int),false):=by simp[replyP,h1,h3]
  rw[e2]
  exact⟨none,0,rfl,(hs5.pk [1] r0)⟩
 have h4:=nbT h2
 refine sk (nN (sr (tm (I c) r0 (bsk hs4 sl24 [I 5,I c,I 0] [I 5,I c,I 0] trivial r0 (fun b2 w4 hs6=>?_)))))
 refine qt r0 (lG [I ak,(Z4 Aaq aq caq),Str an,I apt] hs6 0 r0 ag54) (cS2 hs6 r0 (iAddressBytes _ _ _ _ _ (haq.up0 hs6) (by omega) (by omega)) (fun A1 c1 w5 hs7=>?_))
 refine apm (g:=I) (ys:=([5,c,0]:List Int)) (zs:=addrB ak aq an apt) hs7 1 r0 sl24 r0 r0 r0 (hs7.sl0 2 r0) (fun _=>rfl) (by unfold maxLen; have hbl:=addrB_len (by assumption:addrOk ak aq an apt=true); simp only[List.length_append,List.length_cons,List.length_nil]; omega) (by have hbl:=addrB_len (by assumption:addrOk ak aq an apt=true); simp only[List.length_append,List.length_cons,List.length_nil]; omega) trivial r0 (fun A2 c2 w6 hs8=>?_)
 refine tA (.slice A2 ((([5,c,0]:List Int)++(addrB ak aq an apt)).length) c2) r0 (tA Z35 r0 (nn (rt (fret (.tmp (.tmp .nil)) r0 ?_))))
 have e3:replyP c ak aq an apt=(([5,c,0]:List Int)++(addrB ak aq an apt),true):=by simp[replyP,h1,h4]
 rw[e3]
 exact⟨A2,c2,rfl,(hs8.pk [2] r0)⟩
set_option maxHeartbeats 8000000 in
theorem sReplyBytes (c:Int) (ak:Int) {Aaq:Option Addr} {caq:Nat} (aq:List Int) (an:List UInt8) (apt:Int) (w:World) (haq:Sl w [] 1 Aaq aq.length caq (aq.map I)) (han_n:an.length≤1099511627776):Does Tryz.prog 155 [I c,.agg #[I ak,.slice Aaq aq.length caq,Str an,I apt]] w (fun v w'=>∃ Ar:Option Addr,∃ cr:Nat,v=.tuple #[.slice Ar ((replyP c ak aq an apt).1).length cr,.bool ((replyP c ak aq an apt).2)]∧SH w w' [] [.own Ar (((replyP c ak aq an apt).1).length) cr 3 1 (((replyP c ak aq an apt).1).map I)]):=by
 refine fE (N:=18) Tryz.func155 r0 (by kernel_rfl) r0 ?_
 have hs0:=SH.refl w []
 have haq_m:aq.length≤9223372036854775807:=Nat.le_trans haq.cap haq.capMax
 refine sr (bx (v:=.agg #[I ak,(Z4 Aaq aq caq),Str an,I apt]) (cs:=[I ak,(Z4 Aaq aq caq),Str an,I apt]) hs0 r0 r0 trivial r0 (fun b1 w1 hs1=>?_))
 refine tA ns r0 (tA Z6 r0 (nn (sq (sr (tm (I c) r0 (cS hs1 r0 (sIn _ 0 8 _) (fun w2 hs2=>?_)))))))
 refine qt r0 (nd r0) (tm (.bool (decide (¬ (0≤c∧c≤8)))) r0 (spd 9 r0 (fun h1=>?_) (fun h1=>?_)))
 ·refine gt5 r0 (gt5 r0 (gt5 r0 (qt r0 (pt (v:=.bool true) r0 r0) (nn (cdt r0 (sq (rg (bsk hs2 sl24 [] [] trivial r0 (fun b2 w3 hs3=>?_)))))))))
  refine tA (sb b2 (([]:List Int).length) 0) r0 (tA Z6 r0 (nn (rt (tR (fret (.tmp (.tmp .nil)) r0 ?_)))))
  have e1:replyP c ak aq an apt=(([]:List Int),false):=by simp[replyP,h1]
  rw[e1]
  exact⟨(Z8 b2),0,rfl,(hs3.pk [1] r0)⟩
 refine qh r0 (lG [I ak,(Z4 Aaq aq caq),Str an,I apt] hs2 0 r0 ag54) (cl ⟨_,rfl,rfl⟩ r0 (sAddressValid _ _ _ _ _ (haq.up0 hs2) (by omega)) ?_)
 rintro _ w4 ⟨rfl,hs4⟩
 replace hs4:=hs2.call0 hs4
 refine qh r0 (nt r0) (qt r0 (pf (v:=.bool (!(addrOk ak aq an apt))) r0 r0) (nn (cd r0 (fun h2=>?_) (fun h2=>?_))))
 ·have h3:=nbF h2
  refine sr (bsk hs4 sl24 [] [] trivial r0 (fun b3 w5 hs5=>?_))
  refine tA (sb b3 (([]:List Int).length) 0) r0 (tA Z6 r0 (nn (rt (tR (fret (.tmp (.tmp .nil)) r0 ?_)))))
  have e2:replyP c ak aq an apt=(([]:List Int),false):=by simp[replyP,h1,h3]
  rw[e2]
  exact⟨(Z8 b3),0,rfl,(hs5.pk [1] r0)⟩
 have h4:=nbT h2
 refine sk (nN (sr (tm (I c) r0 (qt r0 (lG [I ak,(Z4 Aaq aq caq),Str an,I apt] hs4 0 r0 ag54) (cS2 hs4 r0 (sL12Bytes _ _ _ _ _ _ (haq.up0 hs4) (by omega) (by omega)) (fun A1 c1 w6 hs6=>?_))))))
 refine tA (.slice A1 (([5,c,0]++addrB ak aq an apt).length) c1) r0 (tA Z35 r0 (nn (rt (fret (.tmp (.tmp .nil)) r0 ?_))))
 have e3:replyP c ak aq an apt=([5,c,0]++addrB ak aq an apt,true):=by simp[replyP,h1,h4]
 rw[e3]
 exact⟨A1,c1,rfl,(hs6.pk [1] r0)⟩
theorem newReader {Abs:Option Addr} {cbs:Nat} (bs:List Int) (w:World) (hbs:Sl w [] 1 Abs bs.length cbs (bs.map I)):Does Tryz.prog 169 [.slice Abs bs.length cbs] w (fun v w'=>∃ gr:Nat,v=.pointer (some ⟨gr,0,none⟩)∧SH w w' [] [.blk gr 162 [.slice Abs bs.length cbs,I 0,.bool (!isBytes bs)]]):=by
 refine fE (N:=9) Tryz.func169 r0 (by kernel_rfl) r0 ?_
 have hs0:=SH.refl w []
 have hbs_m:bs.length≤9223372036854775807:=Nat.le_trans hbs.cap hbs.capMax
 refine sr (tA (.pointer none) r0 (nx (tm (Z14 Abs bs cbs) r0 (tm (Z14 Abs bs cbs) r0 (cS hs0 r0 (iBytesValid _ _ (hbs.up0 hs0)) (fun w1 hs1=>?_))))))
 refine qt r0 (nt r0) (qt r0 (bdv (v:=.agg #[(Z4 Abs bs cbs),I 0,.bool (!(isBytes bs))]) [(0,.slice Abs bs.length cbs),(2,.bool (!(isBytes bs)))] r0 (fun _=>by kernel_rfl)) (bx (v:=.agg #[(Z4 Abs bs cbs),I 0,.bool (!(isBytes bs))]) (cs:=[(Z4 Abs bs cbs),I 0,.bool (!(isBytes bs))]) hs1 r0 r0 trivial r0 (fun b1 w2 hs2=>?_)))
 refine tA (pB b1) r0 (nn (rt (fT (pB b1) r0 ?_)))
 have e1:(!(isBytes bs))=(!isBytes bs):=by rfl
 exact⟨b1,rfl,(hs2.cast (lc (congrArg (It.blk b1 162) (lc r0 (lc r0 (lc (congrArg Value.bool e1) r0)))) r0))⟩
theorem rdTake {rb:Nat} {Ab:Option Addr} {cb:Nat} (bs:List Int) (sa:Nat) (sf:Bool) (n:Int) (w:World) (hr:w.heap[rb]?=some (.cells [.slice Ab bs.length cb,.int .i64 (sa:Int),.bool sf].toArray 162 (0,0))) (hb:Sl w [rb] 1 Ab bs.length cb (bs.map I)) (hbv:sf=false→isBytes bs=true) (hsa:sa≤bs.length) (hn:0≤n∧n≤65535):Does Tryz.prog 173 [pB rb,I n] w (fun v w'=>∃ Ar:Option Addr,∃ cr:Nat,∃ qa:Nat,∃ qf:Bool,v=.slice Ar (tkL bs (sa,sf) n.toNat).length cr∧(qa≤bs.length)∧((qf=false→isBytes bs=true))∧((qa,qf)=tkS bs (sa,sf) n.toNat)∧SH w w' [rb] [.blk rb 162 [.slice Ab bs.length cb,I (qa:Int),.bool qf],.own Ar ((tkL bs (sa,sf) n.toNat).length) cr 3 1 ((tkL bs (sa,sf) n.toNat).map I)]):=by
 refine fE (N:=52) Tryz.func173 r0 (by kernel_rfl) r0 ?_
 have hb_m:bs.length≤9223372036854775807:=Nat.le_trans hb.cap hb.capMax
 have hs0:=SH.entry1 hr
 refine sr (tA ns r0 (nn (sq (sq (rq (fun w'=>SH w w' [rb] [.blk rb 162 [(Z4 Ab bs cb),I (sa:Int),.bool sf]]) mixed (by kernel_rfl) hs0.drew (qA r0 (mv (v:=pB rb) r0) (qA r0 (nc r0) (qA r0 (fa 2 fo162_2 r0) (qB r0 (fun hsq=>lD (.bool sf) hsq 0 r0 one4) (qA r0 (mv (v:=.bool sf) r0) (qspl 9 r0 (fun h1=>?_) (fun h1=>?_))))))))))))
 ·refine kt5 r0 (kt5 r0 (kt5 r0 (kt5 r0 (kt5 r0 (kt5 r0 (kt5 r0 (kt5 r0 (kt5 r0 (kt5 r0 (kt5 r0 (kt5 r0 (qA r0 (pt (v:=.bool true) r0 r0) (qn (fun w1 hs1=>?_))))))))))))))
  refine nN (cdt r0 (sr (tm (pB rb) r0 (tn r0 (qt r0 (fa 2 fo162_2 r0) (sT Z35 hs1 0 r0 one4 (fun w2 hs2=>?_)))))))
  refine nx (tm (I n) r0 (mkm (g:=I) (z:=0) (n:=n.toNat) hs2 sl24 r0 (ieq (x:=n) (by omega)) (ieq (x:=n) (by omega)) (by omega) (by unfold maxLen; (omega)) trivial r0 (fun b1 w3 hs3=>?_)))
  refine tA (sb b1 ((List.replicate n.toNat (0:Int)).length) n.toNat) r0 (nn (rt (tR (fT (sb b1 ((List.replicate n.toNat (0:Int)).length) n.toNat) r0 ?_))))
  have e1:List.replicate n.toNat (0:Int)=tkL bs (sa,sf) n.toNat:=by exact tkL_n1 ‹_›
  have e2:=congrArg List.length e1
  exact⟨(Z8 b1),n.toNat,sa,true,(slv r0 e2 r0),‹_›,(by(simp_all; done)),(by exact tkS_n1 ‹_›),(hs3.cast (lc r0 (lc (own_eq (g:=I) r0 e2 r0 e1) r0)))⟩
 refine qq ⟨_,rfl,rfl⟩ r0 r0 (fun wq hsq=>mv (v:=I n) r0) (qq ⟨_,rfl,rfl⟩ r0 r0 (fun wq hsq=>mv (v:=pB rb) r0) (qq ⟨_,rfl,rfl⟩ r0 r0 (fun wq hsq=>nc r0) (qq ⟨_,rfl,rfl⟩ r0 r0 (fun wq hsq=>fa 0 fo162_0 r0) (qq ⟨_,rfl,rfl⟩ r0 r0 (fun wq hsq=>lD (Z14 Ab bs cb) hsq 0 r0 one24) (qq ⟨_,rfl,rfl⟩ r0 r0 (fun wq hsq=>lnA sl24 r0) (qq ⟨_,rfl,rfl⟩ r0 r0 (fun wq hsq=>mv (v:=pB rb) r0) (qq ⟨_,rfl,rfl⟩ r0 r0 (fun wq hsq=>nc r0) (qq ⟨_,rfl,rfl⟩ r0 r0 (fun wq hsq=>fa 1 fo162_1 r0) (qq ⟨_,rfl,rfl⟩ r0 r0 (fun wq hsq=>lD (I (sa:Int)) hsq 0 r0 one3) (qq ⟨_,rfl,rfl⟩ r0 r0 (fun wq hsq=>sub r0 r0 (by(exact⟨by omega,by omega⟩))) (qq ⟨_,rfl,rfl⟩ r0 r0 (fun wq hsq=>gtr r0 r0) (qA r0 (pf (v:=.bool (decide (((bs.length:Int)-(sa:Int))<n))) r0 r0) (qn (fun w4 hs4=>?_))))))))))))))
 refine nN (cdd r0 (fun h2=>?_) (fun h2=>?_))
 ·refine sr (tm (pB rb) r0 (tn r0 (qt r0 (fa 2 fo162_2 r0) (sT Z35 hs4 0 r0 one4 (fun w5 hs5=>?_)))))
  refine nx (tm (I n) r0 (mkm (g:=I) (z:=0) (n:=n.toNat) hs5 sl24 r0 (ieq (x:=n) (by omega)) (ieq (x:=n) (by omega)) (by omega) (by unfold maxLen; (omega)) trivial r0 (fun b2 w6 hs6=>?_)))
  refine tA (sb b2 ((List.replicate n.toNat (0:Int)).length) n.toNat) r0 (nn (rt (tR (fT (sb b2 ((List.replicate n.toNat (0:Int)).length) n.toNat) r0 ?_))))
  have e3:List.replicate n.toNat (0:Int)=tkL bs (sa,sf) n.toNat:=by exact tkL_n2 (by omega)
  have e4:=congrArg List.length e3
  exact⟨(Z8 b2),n.toNat,sa,true,(slv r0 e4 r0),‹_›,(by(simp_all; done)),(by exact tkS_n2 (by omega)),(hs6.cast (lc r0 (lc (own_eq (g:=I) r0 e4 r0 e3) r0)))⟩
 refine sk (nN (sr (tm (pB rb) r0 (tn r0 (qt r0 (fa 1 fo162_1 r0) (qt r0 (lD (I (sa:Int)) hs4 0 r0 one3) (tm (I n) r0 (qt r0 (add r0 r0 (by(exact⟨by omega,by omega⟩))) ?_))))))))
 have e5:(sa:Int)+n=((sa+n.toNat:Nat):Int):=by omega
 refine re 33 (v:=I ((sa+n.toNat:Nat):Int)) (congrArg (Value.int .i64) e5) (tn r0 (qt r0 (fa 1 fo162_1 r0) (sT (I ((sa+n.toNat:Nat):Int)) hs4 0 r0 one3 (fun w7 hs7=>?_))))
 refine nn (sq (ra (fun w'=>∃ L,SH w w' [rb] L∧(.blk rb 162 [(Z4 Ab bs cb),I ((sa+n.toNat:Nat):Int),.bool sf])∈L∧True) mixed ?_))
 have hs8:=hs7.drew
 refine tk (fuel:=2) (is:=[0,1,2,3,4,5,6,7,8,9,10,11,12,13,14]) (.cons r0 (.cons r0 (.cons r0 (.cons r0 (.cons r0 (.cons r0 (.cons r0 (.cons r0 (.cons r0 (.cons r0 (.cons r0 (.cons r0 (.cons r0 (.cons r0 (.cons r0 (.nil)))))))))))))))) (by kernel_rfl) (by kernel_rfl) (m1 hs8 0 r0) (yA r0 (mv (v:=pB rb) r0) (yA r0 (nc r0) (yA r0 (fa 0 fo162_0 r0) (yB r0 (fun ⟨Lq,hsq,mh0,_⟩=>lM (Z14 Ab bs cb) hsq mh0 r0 one24) (yA r0 (mv (v:=pB rb) r0) (yA r0 (nc r0) (yA r0 (fa 1 fo162_1 r0) (yB r0 (fun ⟨Lq,hsq,mh0,_⟩=>lM (I ((sa+n.toNat:Nat):Int)) hsq mh0 r0 one3) (yA r0 (mv (v:=I n) r0) (yA r0 (sub r0 r0 (by(exact⟨by omega,by omega⟩))) (yA r0 (mv (v:=pB rb) r0) (yA r0 (nc r0) (yA r0 (fa 1 fo162_1 r0) (yB r0 (fun ⟨Lq,hsq,mh0,_⟩=>lM (I ((sa+n.toNat:Nat):Int)) hsq mh0 r0 one3) (yA r0 (cum (zs:=bs) ((((sa+n.toNat:Nat):Int)-n).toNat) (sa+n.toNat) sl24 r0 (ieq (x:=((sa+n.toNat:Nat):Int)-n) (by omega)) r0 (by omega) (by omega) hb.cap) (.nil (a1 (i:=15) (by kernel_rfl) (one_ r0 (cS2 hs8 r0 (slClone _ _ (Sl.cutm (hb.up hs8 (fun _ h=>h) (by simp)) (by omega) (by omega)) (by((simp; omega)))) (fun A_5_15 c_5_15 w8 hs9=>?_))))))))))))))))))))
 refine nk (m1 hs9 0 r0) (tk (fuel:=0) (is:=[16]) (.cons r0 (.nil)) (by kernel_rfl) (by kernel_rfl) (m1 hs9 0 r0) (yA r0 (asg (v:=.slice A_5_15 ((Z147 bs sa n).length) c_5_15) r0) (.nil (ad (by kernel_rfl) (nN (rt (fT (.slice A_5_15 ((Z147 bs sa n).length) c_5_15) r0 ?_)))))))
 have e6:(Z147 bs sa n)=tkL bs (sa,sf) n.toNat:=by exact tk_cut ‹_› (by omega) (by omega) (by omega)
 have e7:=congrArg List.length e6
 exact⟨A_5_15,c_5_15,sa+n.toNat,sf,(slv r0 e7 r0),(by omega),‹_›,(by exact tkS_y ‹_› (by omega)),(hs9.cast (lc r0 (lc (own_eq (g:=I) r0 e7 r0 e6) r0)))⟩
theorem rdByte {rb:Nat} {Ab:Option Addr} {cb:Nat} (bs:List Int) (sa:Nat) (sf:Bool) (w:World) (hr:w.heap[rb]?=some (.cells [.slice Ab bs.length cb,.int .i64 (sa:Int),.bool sf].toArray 162 (0,0))) (hb:Sl w [rb] 1 Ab bs.length cb (bs.map I)) (hbv:sf=false→isBytes bs=true) (hsa:sa≤bs.length):Does Tryz.prog 171 [pB rb] w (fun v w'=>∃ qa:Nat,∃ qf:Bool,v=.int .i64 (byV bs (sa,sf))∧(qa≤bs.length)∧((qf=false→isBytes bs=true))∧((qa,qf)=tkS bs (sa,sf) 1)∧SH w w' [rb] [.blk rb 162 [.slice Ab bs.length cb,I (qa:Int),.bool qf]]):=by
 refine fE (N:=7) Tryz.func171 r0 (by kernel_rfl) r0 ?_
 have hb_m:bs.length≤9223372036854775807:=Nat.le_trans hb.cap hb.capMax
 have hs0:=SH.entry1 hr
 refine sr (tA (I 0) r0 (nx (tm (pB rb) r0 (cL r0 (rdTake _ _ _ _ _ (blk_heap hs0 0 r0) (hb.up hs0 (fun _ h=>h) (fun _ h=>.inl h)) (‹_›) (‹_›) (by omega)) ?_))))
 rintro _ w1 ⟨A1,c1,qa1,qf1,rfl,p1,p2,p3,hs1⟩
 replace hs1:=hs0.cK [0] [] hs1 r0
 refine ixw1 0 sl24 r0 r0 (hs1.sl0 1 r0) (by(simp; done)) (getm I 0 (by(simp; done))) trivial r0 (fun a1 ha1=>?_)
 refine qt r0 (lda (SH.refl w1 []) ha1 (fun _ h=>h) r0 r0 one3) (tA (I ((tkL bs (sa,sf) (1:Int).toNat).getD 0 0)) r0 (nn (rt (fT (I ((tkL bs (sa,sf) (1:Int).toNat).getD 0 0)) r0 ?_))))
 have e1:(tkL bs (sa,sf) (1:Int).toNat).getD 0 0=byV bs (sa,sf):=by rfl
 exact⟨qa1,qf1,(congrArg (Value.int .i64) e1),‹_›,‹_›,‹_›,(hs1.pk [0] r0)⟩
theorem iNumber {Azs:Option Addr} {czs:Nat} (zs:List Int) (w:World) (hzs:Sl w [] 1 Azs zs.length czs (zs.map I)) (hz: ∀ x∈zs,0≤x∧x≤255) (hzl:zs.length≤2):Does Tryz.prog 202 [.slice Azs zs.length czs] w (fun v w'=>v=.int .i64 (ofB zs)∧SH w w' [] []):=by
 refine fE (N:=18) Tryz.func202 r0 (by kernel_rfl) r0 ?_
 have hs0:=SH.refl w []
 have hzs_m:zs.length≤9223372036854775807:=Nat.le_trans hzs.cap hzs.capMax
 refine sr (tA (I 0) r0 (nx (tA (I 0) r0 (nn (sq (sr (tm (Z14 Azs zs czs) r0 (qt r0 (lnA sl24 r0) (tm (I 0) r0 (nn (bl (lp (σ:=Nat) (fun(k:Nat) f w'=>Hz f [(3,I (ofB (zs.take k))),(6,.slice Azs zs.length czs),(7,I (zs.length:Int)),(8,I (k:Int))]∧(k≤zs.length)∧SH w w' [] []) (fun k=>zs.length-k) 0 ⟨(zH ⟨(show (I 0:Value)=I (ofB (zs.take 0)) from congrArg (Value.int .i64) (by rfl)),rfl,rfl,rfl,trivial⟩),(by simp),hs0⟩ ?_))))))))))))
 rintro k f w1 ⟨⟨g1,rfl⟩,hk,hs1⟩
 refine sr (qt r0 (lss r0 r0) (nn (sq (cdd r0 (fun h1=>?_) (fun h1=>?_)))))
 ·refine sk (nN (sq (bl (sr (ixw1 k sl24 r0 r0 hzs (by omega) (getm I 0 (by omega)) trivial r0 (fun a1 ha1=>?_))))))
  have hob:=ofB_bd hz k hzl
  have hgb:=getD_byte hz k
  refine qt r0 (lda hs1 ha1 (fun _ h=>h) r0 r0 one3) (tA (I (zs.getD k 0)) r0 (nn (rg (tm (I (ofB (zs.take k))) r0 (qt r0 (shl8 (a:=ofB (zs.take k)) r0 r0 (by(have hk1:k≤1:=(by omega); omega)) (by(have hk1:k≤1:=(by omega); omega))) (tm (I (zs.getD k 0)) r0 (qt r0 (or8 (m:=ofB (zs.take k)) (b:=zs.getD k 0) r0 r0 (by(have hk1:k≤1:=(by omega); omega)) (by(have hk1:k≤1:=(by omega); omega)) (by(have hk1:k≤1:=(by omega); omega)) (by(have hk1:k≤1:=(by omega); omega))) (tA (I ((ofB (zs.take k))*256+(zs.getD k 0))) r0 (nl (bN (nN (rg (qt r0 (add r0 r0 (by(exact⟨by omega,by omega⟩))) (tm (I ((k:Int)+1)) r0 (nn ?_)))))))))))))))
  refine⟨(k+1),⟨(zH ⟨(show (I ((ofB (zs.take k))*256+(zs.getD k 0)):Value)=I (ofB (zs.take (k+1))) from congrArg (Value.int .i64) (by rw[ofB_take (by omega)]; omega)),rfl,rfl,rfl,trivial⟩),(by omega),hs1⟩,?_⟩
  omega
 exact ex (tE (tE (bE (nN (sr (tm (I (ofB (zs.take k))) r0 (tA (I (ofB (zs.take k))) r0 (nn (rt (fI r0 (by rw[List.take_of_length_le (by omega)]) hs1))))))))))
theorem rdNumber {rb:Nat} {Ab:Option Addr} {cb:Nat} (bs:List Int) (sa:Nat) (sf:Bool) (n:Int) (w:World) (hr:w.heap[rb]?=some (.cells [.slice Ab bs.length cb,.int .i64 (sa:Int),.bool sf].toArray 162 (0,0))) (hb:Sl w [rb] 1 Ab bs.length cb (bs.map I)) (hbv:sf=false→isBytes bs=true) (hsa:sa≤bs.length) (hn:0≤n∧n≤2):Does Tryz.prog 172 [pB rb,I n] w (fun v w'=>∃ qa:Nat,∃ qf:Bool,v=.int .i64 (ofB (tkL bs (sa,sf) n.toNat))∧(qa≤bs.length)∧((qf=false→isBytes bs=true))∧((qa,qf)=tkS bs (sa,sf) n.toNat)∧SH w w' [rb] [.blk rb 162 [.slice Ab bs.length cb,I (qa:Int),.bool qf]]):=by
 refine fE (N:=9) Tryz.func172 r0 (by kernel_rfl) r0 ?_
 have hb_m:bs.length≤9223372036854775807:=Nat.le_trans hb.cap hb.capMax
 have hs0:=SH.entry1 hr
 refine sr (tA (I 0) r0 (nx (tm (pB rb) r0 (tm (I n) r0 (cL r0 (rdTake _ _ _ _ _ (blk_heap hs0 0 r0) (hb.up hs0 (fun _ h=>h) (fun _ h=>.inl h)) (‹_›) (‹_›) (by omega)) ?_)))))
 rintro _ w1 ⟨A1,c1,qa1,qf1,rfl,p1,p2,p3,hs1⟩
 replace hs1:=hs0.cK [0] [] hs1 r0
 refine cS hs1 r0 (iNumber _ _ (hs1.sl0 1 r0) (by exact tkL_byte hbv) (by(simp; omega))) (fun w2 hs2=>?_)
 refine tA (I (ofB (tkL bs (sa,sf) n.toNat))) r0 (nn (rt (fT (I (ofB (tkL bs (sa,sf) n.toNat))) r0 ?_)))
 exact⟨qa1,qf1,rfl,‹_›,‹_›,‹_›,(hs2.pk [0] r0)⟩
theorem rdExpect {rb:Nat} {Ab:Option Addr} {cb:Nat} (bs:List Int) (sa:Nat) (sf:Bool) {Aws:Option Addr} {cws:Nat} (ws:List Int) (w:World) (hr:w.heap[rb]?=some (.cells [.slice Ab bs.length cb,.int .i64 (sa:Int),.bool sf].toArray 162 (0,0))) (hb:Sl w [rb] 1 Ab bs.length cb (bs.map I)) (hbv:sf=false→isBytes bs=true) (hsa:sa≤bs.length) (hws:Sl w [rb] 1 Aws ws.length cws (ws.map I)) (hw:ws.length≤65535):Does Tryz.prog 170 [pB rb,.slice Aws ws.length cws] w (fun v w'=>∃ qa:Nat,∃ qf:Bool,v=.tuple #[]∧(qa≤bs.length)∧((qf=false→isBytes bs=true))∧((qa,qf)=exS bs (sa,sf) ws)∧SH w w' [rb] [.blk rb 162 [.slice Ab bs.length cb,I (qa:Int),.bool qf]]):=by
 refine fE (N:=14) Tryz.func170 r0 (by kernel_rfl) r0 ?_
 have hb_m:bs.length≤9223372036854775807:=Nat.le_trans hb.cap hb.capMax
 have hs0:=SH.entry1 hr
 have hws_m:ws.length≤9223372036854775807:=Nat.le_trans hws.cap hws.capMax
 refine sr (tm (pB rb) r0 (tm (Z14 Aws ws cws) r0 (qt r0 (lnA sl24 r0) (cL r0 (rdTake _ _ _ _ _ (blk_heap hs0 0 r0) (hb.up hs0 (fun _ h=>h) (fun _ h=>.inl h)) (‹_›) (‹_›) (by omega)) ?_))))
 rintro _ w1 ⟨A1,c1,qa1,qf1,rfl,p1,p2,p3,hs1⟩
 replace hs1:=hs0.cK [0] [] hs1 r0
 refine tm (Z14 Aws ws cws) r0 (cS hs1 r0 (slEqual _ _ _ (hs1.sl0 1 r0) (hws.up hs1 (fun _ h=>h) (by simp))) (fun w2 hs2=>?_))
 refine qt r0 (nd r0) (nn (cdd r0 (fun h1=>?_) (fun h1=>?_)))
 ·refine rg (tm (pB rb) r0 (tn r0 (qt r0 (fa 2 fo162_2 r0) (sT Z35 hs2 0 r0 one4 (fun w3 hs3=>?_)))))
  refine nl (fnor (v:=.tuple #[]) .nil r0 ?_)
  exact⟨qa1,true,rfl,‹_›,(by(simp_all; done)),(by exact exS_no ‹_› (by simpa using h1)),(hs3.pk [1] r0)⟩
 refine sk (fnor (v:=.tuple #[]) .nil r0 ?_)
 exact⟨qa1,qf1,rfl,‹_›,‹_›,(by exact exS_y ‹_› (by simpa using h1)),(hs2.pk [0] r0)⟩
theorem iBytesText {Azs:Option Addr} {czs:Nat} (zs:List Int) (w:World) (hzs:Sl w [] 1 Azs zs.length czs (zs.map I)) (hz: ∀ x∈zs,0≤x∧x≤255) (hzl:zs.length≤65535):Does Tryz.prog 128 [.slice Azs zs.length czs] w (fun v w'=>v=Str (bT zs)∧SH w w' [] []):=by
 refine fE (N:=24) Tryz.func128 r0 (by kernel_rfl) r0 ?_
 have hs0:=SH.refl w []
 have hzs_m:zs.length≤9223372036854775807:=Nat.le_trans hzs.cap hzs.capMax
 refine sr (tA (Str []) r0 (nx (tm (Z14 Azs zs czs) r0 (qt r0 (lnA sl24 r0) (mkm (g:=U) (z:=0) (n:=zs.length) hs0 sl36 r0 r0 r0 (by omega) (by unfold maxLen; omega) trivial r0 (fun b1 w1 hs1=>?_))))))
 refine tA (sb b1 ((List.replicate zs.length (0:UInt8)).length) zs.length) r0 (nn (sq (sr (tm (Z14 Azs zs czs) r0 (qt r0 (lnA sl24 r0) (tm (I 0) r0 (nn (bl ?_))))))))
 have e1:List.replicate zs.length (0:UInt8)=(bT zs).take 0++List.replicate (zs.length-0) (0:UInt8):=by simp
 have e2:(List.replicate zs.length (0:UInt8)).length=zs.length:=by(simp; done)
 refine lp (σ:=Nat) (fun(k:Nat) f w'=>Hz f [(3,sb b1 zs.length zs.length),(9,.slice Azs zs.length czs),(10,I (zs.length:Int)),(11,I (k:Int))]∧(k≤zs.length)∧SH w w' [] [.own (Z8 b1) zs.length zs.length 5 1 (((bT zs).take k++List.replicate (zs.length-k) (0:UInt8)).map U)]) (fun k=>zs.length-k) 0 ⟨(zH ⟨(show (.slice (Z8 b1) ((List.replicate zs.length (0:UInt8)).length) zs.length:Value)=.slice (Z8 b1) zs.length zs.length from slv r0 e2 r0),rfl,rfl,rfl,trivial⟩),(by simp),(hs1.cast (lc (own_eq (g:=U) r0 e2 r0 e1) r0))⟩ ?_
 rintro k f w2 ⟨⟨g1,rfl⟩,hk,hs2⟩
 refine sr (qt r0 (lss r0 r0) (nn (sq (cdd r0 (fun h1=>?_) (fun h1=>?_)))))
 ·refine sk (nN (sq (bl (sr (tm (I (k:Int)) r0 (ixw1 k sl24 r0 r0 hzs (by omega) (getm I 0 (by omega)) trivial r0 (fun a1 ha1=>?_)))))))
  refine qt r0 (lda hs2 ha1 (fun _ h=>h) r0 r0 one3) (tA (I (k:Int)) r0 (tA (I (zs.getD k 0)) r0 (nn (rg (tm (sb b1 zs.length zs.length) r0 (tm (I (k:Int)) r0 (tm (I (zs.getD k 0)) r0 (qt r0 (cvB (a:=zs.getD k 0) (s:=.i64) ti3 ti5 r0 (by have hgb:=getD_byte hz k; omega) (by have hgb:=getD_byte hz k; omega)) (qt r0 (ixo k sl36 r0 r0 (by omega)) (stomn (g:=U) (ys:=(bT zs).take k++List.replicate (zs.length-k) (0:UInt8)) (o:=k) (u:=(UInt8.ofNat (zs.getD k 0).toNat)) hs2 0 r0 r0 r0 r0 (by omega) r0 one5 trivial (fun w3 hs3=>?_)))))))))))
  refine nl (bN (nN (rg (qt r0 (add r0 r0 (by exact⟨by omega,by omega⟩)) (tm (I ((k:Int)+1)) r0 (nn ?_))))))
  have e3:((bT zs).take k++List.replicate (zs.length-k) (0:UInt8)).set k (UInt8.ofNat (zs.getD k 0).toNat)=(bT zs).take (k+1)++List.replicate (zs.length-(k+1)) (0:UInt8):=by exact bT_set (by omega)
  refine⟨(k+1),⟨(zR r0),(by omega),(hs3.cast (lc (own_eq (g:=U) r0 r0 r0 e3) r0))⟩,?_⟩
  omega
 refine ex (tE (tE (bE (nN (sr (tm (sb b1 zs.length zs.length) r0 ?_))))))
 have e4:zs.length=((bT zs).take k++List.replicate (zs.length-k) (0:UInt8)).length:=by(simp; omega)
 have hs4:SH w w2 [] [.own (Z8 b1) (((bT zs).take k++List.replicate (zs.length-k) (0:UInt8)).length) zs.length 5 1 (((bT zs).take k++List.replicate (zs.length-k) (0:UInt8)).map U)]:=(hs2.cast (lc (own_eq (g:=U) r0 e4 r0 r0) r0))
 refine re 22 (v:=sb b1 (((bT zs).take k++List.replicate (zs.length-k) (0:UInt8)).length) zs.length) (show (sb b1 zs.length zs.length:Value)=sb b1 (((bT zs).take k++List.replicate (zs.length-k) (0:UInt8)).length) zs.length from slv r0 e4 r0) (qt r0 (cvS (l:=(bT zs).take k++List.replicate (zs.length-k) (0:UInt8)) us36 ti5 st9 r0 (hs4.sl0 0 r0)) (tA (Str ((bT zs).take k++List.replicate (zs.length-k) (0:UInt8))) r0 (nn (rt (fT (Str ((bT zs).take k++List.replicate (zs.length-k) (0:UInt8))) r0 ?_)))))
 have e5:(bT zs).take k++List.replicate (zs.length-k) (0:UInt8)=bT zs:=by have:k=zs.length:=(by omega); subst this; rw[bT_all (Nat.le_refl _)]; simp
 exact⟨(congrArg (Str) e5),(hs4.pk [] r0)⟩
theorem rdText {rb:Nat} {Ab:Option Addr} {cb:Nat} (bs:List Int) (sa:Nat) (sf:Bool) (w:World) (hr:w.heap[rb]?=some (.cells [.slice Ab bs.length cb,.int .i64 (sa:Int),.bool sf].toArray 162 (0,0))) (hb:Sl w [rb] 1 Ab bs.length cb (bs.map I)) (hbv:sf=false→isBytes bs=true) (hsa:sa≤bs.length):Does Tryz.prog 214 [pB rb] w (fun v w'=>∃ qa:Nat,∃ qf:Bool,v=Str (txV bs (sa,sf))∧(qa≤bs.length)∧((qf=false→isBytes bs=true))∧((qa,qf)=txS bs (sa,sf))∧SH w w' [rb] [.blk rb 162 [.slice Ab bs.length cb,I (qa:Int),.bool qf]]):=by
 refine fE (N:=8) Tryz.func214 r0 (by kernel_rfl) r0 ?_
 have hb_m:bs.length≤9223372036854775807:=Nat.le_trans hb.cap hb.capMax
 have hs0:=SH.entry1 hr
 refine sr (tA (Str []) r0 (nx (tm (pB rb) r0 (tm (pB rb) r0 (cL r0 (rdByte _ _ _ _ (blk_heap hs0 0 r0) (hb.up hs0 (fun _ h=>h) (fun _ h=>.inl h)) (‹_›) (by(assumption))) ?_)))))
 rintro _ w1 ⟨qa1,qf1,rfl,p1,p2,p3,hs1⟩
 replace hs1:=hs0.cK [0] [] hs1 r0
 refine cL r0 (rdTake _ _ _ _ _ (blk_heap hs1 0 r0) (hb.up hs1 (fun _ h=>h) (fun _ h=>.inl h)) (‹_›) (by(assumption)) (by(have hbd:=byV_bd (bs:=bs) (s:=(sa,sf)) hbv; omega))) ?_
 rintro _ w2 ⟨A1,c1,qa2,qf2,rfl,p4,p5,p6,hs2⟩
 replace hs2:=hs1.cK [0] [] hs2 r0
 refine cS hs2 r0 (iBytesText _ _ (hs2.sl0 1 r0) (by exact tkL_byte ‹_›) (by have hbd:=byV_bd (bs:=bs) (s:=(sa,sf)) hbv; simp; omega)) (fun w3 hs3=>?_)
 refine tA (Str (bT (tkL bs (qa1,qf1) (byV bs (sa,sf)).toNat))) r0 (nn (rt (fT (Str (bT (tkL bs (qa1,qf1) (byV bs (sa,sf)).toNat))) r0 ?_)))
 have e1:bT (tkL bs (qa1,qf1) (byV bs (sa,sf)).toNat)=txV bs (sa,sf):=by(unfold txV; rw[← p3])
 exact⟨qa2,qf2,(congrArg (Str) e1),‹_›,‹_›,(by(unfold txS; rw[← p3]; exact p6)),(hs3.pk [0] r0)⟩
theorem rdAddress {rb:Nat} {Ab:Option Addr} {cb:Nat} (bs:List Int) (sa:Nat) (sf:Bool) (w:World) (hr:w.heap[rb]?=some (.cells [.slice Ab bs.length cb,.int .i64 (sa:Int),.bool sf].toArray 162 (0,0))) (hb:Sl w [rb] 1 Ab bs.length cb (bs.map I)) (hbv:sf=false→isBytes bs=true) (hsa:sa≤bs.length):Does Tryz.prog 234 [pB rb] w (fun v w'=>∃ Ar:Option Addr,∃ cr:Nat,∃ qa:Nat,∃ qf:Bool,v=.agg #[.int .i64 ((adR bs (sa,sf)).1.1),.slice Ar ((adR bs (sa,sf)).1.2.1).length cr,Str ((adR bs (sa,sf)).1.2.2.1),.int .i64 ((adR bs (sa,sf)).1.2.2.2)]∧(qa≤bs.length)∧((qf=false→isBytes bs=true))∧((qa,qf)=(adR bs (sa,sf)).2)∧SH w w' [rb] [.blk rb 162 [.slice Ab bs.length cb,I (qa:Int),.bool qf],.own Ar (((adR bs (sa,sf)).1.2.1).length) cr 3 1 (((adR bs (sa,sf)).1.2.1).map I)]):=by
 refine fE (N:=29) Tryz.func234 r0 (by kernel_rfl) r0 ?_
 have hb_m:bs.length≤9223372036854775807:=Nat.le_trans hb.cap hb.capMax
 have hs0:SH w w [rb] [.blk rb 162 [(Z4 Ab bs cb),I (sa:Int),.bool sf]]:=SH.entry1 hr
 refine sr (al (cs:=Z17) hs0 tz54 r0 trivial r0 (fun b1 w1 hs1=>?_))
 refine nx (al (cs:=Z17) hs1 tz54 r0 trivial r0 (fun b2 w2 hs2=>?_))
 refine nx (tm (pB rb) r0 (cL r0 (rdByte _ _ _ _ (blk_heap hs2 0 r0) (hb.up hs2 (fun _ h=>h) (fun _ h=>.inl h)) (‹_›) (by(assumption))) ?_))
 rintro _ w3 ⟨qa1,qf1,rfl,p1,p2,p3,hs3⟩
 replace hs3:SH w w3 [rb] [.blk b1 54 Z17,.blk b2 54 Z17,.blk rb 162 [(Z4 Ab bs cb),I (qa1:Int),.bool qf1]]:=SH.callK (K:=[.blk rb 162 [(Z4 Ab bs cb),I (sa:Int),.bool sf]]) (R:=[.blk b1 54 Z17,.blk b2 54 Z17]) hs2 hs3 r0
 refine qt r0 (fa 0 fo54_0 r0) (sT (I (byV bs (sa,sf))) hs3 1 r0 one3 (fun w4 hs4=>?_))
 refine nn (sq (sr (qt r0 (fa 0 fo54_0 r0) (qt r0 (lD (I (byV bs (sa,sf))) hs4 2 r0 one3) (nl (nN (bl (sr (qt r0 (eqi r0 r0) (tA (.bool (decide ((byV bs (sa,sf))=1))) r0 (nn (cdd r0 (fun h1=>?_) (fun h1=>?_)))))))))))))
 ·refine rg (tm (pB rb) r0 (cL r0 (rdTake _ _ _ _ _ (blk_heap hs4 1 r0) (hb.up hs4 (fun _ h=>h) (fun _ h=>.inl h)) (‹_›) (by(assumption)) (by omega)) ?_))
  rintro _ w5 ⟨A1,c1,qa2,qf2,rfl,p4,p5,p6,hs5⟩
  replace hs5:=hs4.cK [1] [0,2] hs5 r0
  refine qt r0 (fa 1 fo54_1 r0) (sT (.slice A1 ((tkL bs (qa1,qf1) (4:Int).toNat).length) c1) hs5 1 r0 one24 (fun w6 (hs6:SH w w6 [rb] [.blk b1 54 Z17,.blk rb 162 [(Z4 Ab bs cb),I (qa2:Int),.bool qf2],.own A1 ((tkL bs (qa1,qf1) (4:Int).toNat).length) c1 3 1 ((tkL bs (qa1,qf1) (4:Int).toNat).map I),.blk b2 54 [(Z143 bs sa sf),.slice A1 ((tkL bs (qa1,qf1) (4:Int).toNat).length) c1,Str [],I 0]])=>?_))
  refine nl (bN (nN (sr (tm (pB rb) r0 (cL r0 (rdNumber _ _ _ _ _ (blk_heap hs6 1 r0) (hb.up hs6 (fun _ h=>h) (fun _ h=>.inl h)) (‹_›) (by(assumption)) (by omega)) ?_)))))
  rintro _ w7 ⟨qa3,qf3,rfl,p7,p8,p9,hs7⟩
  replace hs7:=hs6.cK [1] [0,2,3] hs7 r0
  refine qt r0 (fa 3 fo54_3 r0) (sT (I (ofB (tkL bs (qa2,qf2) (2:Int).toNat))) hs7 2 r0 one3 (fun w8 hs8=>?_))
  refine nn (sq (sr (qt r0 (lG [(Z143 bs sa sf),.slice A1 ((tkL bs (qa1,qf1) (4:Int).toNat).length) c1,Str [],I (ofB (tkL bs (qa2,qf2) (2:Int).toNat))] hs8 3 r0 ag54) (cS hs8 r0 (iAddressValid _ _ [] _ _ (hs8.sl0 1 r0) (by((simp; done)))) (fun w9 hs9=>?_)))))
  refine qt r0 (nt r0) (nn (cd r0 (fun h2=>?_) (fun h2=>?_)))
  ·have h3:=nbF h2
   refine rg (tm (pB rb) r0 (tn r0 (qt r0 (fa 2 fo162_2 r0) (sT Z35 hs9 2 r0 one4 (fun w10 hs10=>?_)))))
   refine nx (qt r0 (lG [(Z143 bs sa sf),.slice A1 ((tkL bs (qa1,qf1) (4:Int).toNat).length) c1,Str [],I (ofB (tkL bs (qa2,qf2) (2:Int).toNat))] hs10 2 r0 ag54) (sG [(Z143 bs sa sf),.slice A1 ((tkL bs (qa1,qf1) (4:Int).toNat).length) c1,Str [],I (ofB (tkL bs (qa2,qf2) (2:Int).toNat))] hs10 0 r0 ag54 (fun w11 hs11=>?_)))
   refine nn (rt (fret (resC hs11 3 r0 r0 ag54 r0 .nil) r0 ?_))
   have e1:byV bs (sa,sf)=(adR bs (sa,sf)).1.1:=by(rw[adR_1 p3 ‹_› p6 p9]; done)
   have e2:tkL bs (qa1,qf1) (4:Int).toNat=(adR bs (sa,sf)).1.2.1:=by(rw[adR_1 p3 ‹_› p6 p9]; rfl)
   have e3:=congrArg List.length e2
   have e4:[]=(adR bs (sa,sf)).1.2.2.1:=by(rw[adR_1 p3 ‹_› p6 p9]; done)
   have e5:ofB (tkL bs (qa2,qf2) (2:Int).toNat)=(adR bs (sa,sf)).1.2.2.2:=by(rw[adR_1 p3 ‹_› p6 p9]; rfl)
   exact⟨A1,c1,qa3,true,(aggv (lc (congrArg (Value.int .i64) e1) (lc (slv r0 e3 r0) (lc (congrArg (Str) e4) (lc (congrArg (Value.int .i64) e5) r0))))),‹_›,(by(simp_all; done)),(by(rw[adR_1 p3 ‹_› p6 p9]; exact(if_neg (by simp_all)).symm)),((hs11.pq [2,0] r0).cast (lc r0 (lc (own_eq (g:=I) r0 e3 r0 e2) r0)))⟩
  have h4:=nbT h2
  refine sk (nN (sr (qt r0 (lG [(Z143 bs sa sf),.slice A1 ((tkL bs (qa1,qf1) (4:Int).toNat).length) c1,Str [],I (ofB (tkL bs (qa2,qf2) (2:Int).toNat))] hs9 3 r0 ag54) (sG [(Z143 bs sa sf),.slice A1 ((tkL bs (qa1,qf1) (4:Int).toNat).length) c1,Str [],I (ofB (tkL bs (qa2,qf2) (2:Int).toNat))] hs9 0 r0 ag54 (fun w12 (hs12:SH w w12 [rb] [.own A1 ((tkL bs (qa1,qf1) (4:Int).toNat).length) c1 3 1 ((tkL bs (qa1,qf1) (4:Int).toNat).map I),.blk rb 162 [(Z4 Ab bs cb),I (qa3:Int),.bool qf3],.blk b2 54 [(Z143 bs sa sf),.slice A1 ((tkL bs (qa1,qf1) (4:Int).toNat).length) c1,Str [],I (ofB (tkL bs (qa2,qf2) (2:Int).toNat))],.blk b1 54 [(Z143 bs sa sf),.slice A1 ((tkL bs (qa1,qf1) (4:Int).toNat).length) c1,Str [],I (ofB (tkL bs (qa2,qf2) (2:Int).toNat))]])=>?_)))))
  refine nn (rt (fret (resC hs12 3 r0 r0 ag54 r0 .nil) r0 ?_))
  have e6:byV bs (sa,sf)=(adR bs (sa,sf)).1.1:=by(rw[adR_1 p3 ‹_› p6 p9]; done)
  have e7:tkL bs (qa1,qf1) (4:Int).toNat=(adR bs (sa,sf)).1.2.1:=by(rw[adR_1 p3 ‹_› p6 p9]; rfl)
  have e8:=congrArg List.length e7
  have e9:[]=(adR bs (sa,sf)).1.2.2.1:=by(rw[adR_1 p3 ‹_› p6 p9]; done)
  have e10:ofB (tkL bs (qa2,qf2) (2:Int).toNat)=(adR bs (sa,sf)).1.2.2.2:=by(rw[adR_1 p3 ‹_› p6 p9]; rfl)
  exact⟨A1,c1,qa3,qf3,(aggv (lc (congrArg (Value.int .i64) e6) (lc (slv r0 e8 r0) (lc (congrArg (Str) e9) (lc (congrArg (Value.int .i64) e10) r0))))),‹_›,‹_›,(by(rw[adR_1 p3 ‹_› p6 p9]; exact(if_pos ‹_›).symm)),((hs12.pq [1,0] r0).cast (lc r0 (lc (own_eq (g:=I) r0 e8 r0 e7) r0)))⟩
 refine sr (qt r0 (eqi r0 r0) (tA (.bool (decide ((byV bs (sa,sf))=3))) r0 (nn (cdd r0 (fun h5=>?_) (fun h5=>?_)))))
 ·refine rg (tm (pB rb) r0 (cL r0 (rdText _ _ _ _ (blk_heap hs4 1 r0) (hb.up hs4 (fun _ h=>h) (fun _ h=>.inl h)) (‹_›) (by(assumption))) ?_))
  rintro _ w13 ⟨qa4,qf4,rfl,p10,p11,p12,hs13⟩
  replace hs13:=hs4.cK [1] [0,2] hs13 r0
  refine qt r0 (fa 2 fo54_2 r0) (sT (Str (txV bs (qa1,qf1))) hs13 1 r0 one9 (fun w14 hs14=>?_))
  refine nl (bN (nN (sr (tm (pB rb) r0 (cL r0 (rdNumber _ _ _ _ _ (blk_heap hs14 1 r0) (hb.up hs14 (fun _ h=>h) (fun _ h=>.inl h)) (‹_›) (by(assumption)) (by omega)) ?_)))))
  rintro _ w15 ⟨qa5,qf5,rfl,p13,p14,p15,hs15⟩
  replace hs15:SH w w15 [rb] [.blk b1 54 Z17,.blk b2 54 [(Z143 bs sa sf),ns,Str (txV bs (qa1,qf1)),I 0],.blk rb 162 [(Z4 Ab bs cb),I (qa5:Int),.bool qf5]]:=SH.callK (K:=[.blk rb 162 [(Z4 Ab bs cb),I (qa4:Int),.bool qf4]]) (R:=[.blk b1 54 Z17,.blk b2 54 [(Z143 bs sa sf),ns,Str (txV bs (qa1,qf1)),I 0]]) (hs14.pk [1,0,2] r0) hs15 r0
  refine qt r0 (fa 3 fo54_3 r0) (sT (I (ofB (tkL bs (qa4,qf4) (2:Int).toNat))) hs15 1 r0 one3 (fun w16 hs16=>?_))
  refine nn (sq (sr (qt r0 (lG [(Z143 bs sa sf),ns,Str (txV bs (qa1,qf1)),I (ofB (tkL bs (qa4,qf4) (2:Int).toNat))] hs16 2 r0 ag54) (cS hs16 r0 (iAddressValid (ak:=byV bs (sa,sf)) (Aaq:=none) (caq:=0) (aq:=([]:List Int)) (an:=txV bs (qa1,qf1)) (apt:=ofB (tkL bs (qa4,qf4) (2:Int).toNat)) (w:=_) (haq:=Sl.nil) (han_n:=(by(have htv:=txV_len (bs:=bs) (s:=(qa1,qf1)) p2; omega)))) (fun w17 hs17=>?_)))))
  refine qt r0 (nt r0) (nn (cd r0 (fun h6=>?_) (fun h6=>?_)))
  ·have h7:=nbF h6
   refine rg (tm (pB rb) r0 (tn r0 (qt r0 (fa 2 fo162_2 r0) (sT Z35 hs17 1 r0 one4 (fun w18 (hs18:SH w w18 [rb] [.blk b1 54 Z17,.blk b2 54 [(Z143 bs sa sf),ns,Str (txV bs (qa1,qf1)),I (ofB (tkL bs (qa4,qf4) (2:Int).toNat))],.blk rb 162 [(Z4 Ab bs cb),I (qa5:Int),.bool true]])=>?_)))))
   refine nx (qt r0 (lG [(Z143 bs sa sf),ns,Str (txV bs (qa1,qf1)),I (ofB (tkL bs (qa4,qf4) (2:Int).toNat))] hs18 1 r0 ag54) (sG [(Z143 bs sa sf),ns,Str (txV bs (qa1,qf1)),I (ofB (tkL bs (qa4,qf4) (2:Int).toNat))] hs18 0 r0 ag54 (fun w19 hs19=>?_)))
   refine nn (rt (fret (resC hs19 2 r0 r0 ag54 r0 .nil) r0 ?_))
   have hs20:=hs19.nl [Z0] r0
   have e11:byV bs (sa,sf)=(adR bs (sa,sf)).1.1:=by(rw[adR_3 p3 ‹_› ‹_› p12 p15]; done)
   have e12:([]:List Int)=(adR bs (sa,sf)).1.2.1:=by(rw[adR_3 p3 ‹_› ‹_› p12 p15]; done)
   have e13:=congrArg List.length e12
   have e14:txV bs (qa1,qf1)=(adR bs (sa,sf)).1.2.2.1:=by(rw[adR_3 p3 ‹_› ‹_› p12 p15]; done)
   have e15:ofB (tkL bs (qa4,qf4) (2:Int).toNat)=(adR bs (sa,sf)).1.2.2.2:=by(rw[adR_3 p3 ‹_› ‹_› p12 p15]; rfl)
   exact⟨none,0,qa5,true,(aggv (lc (congrArg (Value.int .i64) e11) (lc (slv r0 e13 r0) (lc (congrArg (Str) e14) (lc (congrArg (Value.int .i64) e15) r0))))),‹_›,(by(simp_all; done)),(by(rw[adR_3 p3 ‹_› ‹_› p12 p15]; exact(if_neg (by simp_all)).symm)),((hs20.pq [1,3] r0).cast (lc r0 (lc (own_eq (g:=I) r0 e13 r0 e12) r0)))⟩
  have h8:=nbT h6
  refine sk (nN (sr (qt r0 (lG [(Z143 bs sa sf),ns,Str (txV bs (qa1,qf1)),I (ofB (tkL bs (qa4,qf4) (2:Int).toNat))] hs17 2 r0 ag54) (sG [(Z143 bs sa sf),ns,Str (txV bs (qa1,qf1)),I (ofB (tkL bs (qa4,qf4) (2:Int).toNat))] hs17 0 r0 ag54 (fun w20 (hs21:SH w w20 [rb] [.blk rb 162 [(Z4 Ab bs cb),I (qa5:Int),.bool qf5],.blk b2 54 [(Z143 bs sa sf),ns,Str (txV bs (qa1,qf1)),I (ofB (tkL bs (qa4,qf4) (2:Int).toNat))],.blk b1 54 [(Z143 bs sa sf),ns,Str (txV bs (qa1,qf1)),I (ofB (tkL bs (qa4,qf4) (2:Int).toNat))]])=>?_)))))
  refine nn (rt (fret (resC hs21 2 r0 r0 ag54 r0 .nil) r0 ?_))
  have hs22:=hs21.nl [Z0] r0
  have e16:byV bs (sa,sf)=(adR bs (sa,sf)).1.1:=by(rw[adR_3 p3 ‹_› ‹_› p12 p15]; done)
  have e17:([]:List Int)=(adR bs (sa,sf)).1.2.1:=by(rw[adR_3 p3 ‹_› ‹_› p12 p15]; done)
  have e18:=congrArg List.length e17
  have e19:txV bs (qa1,qf1)=(adR bs (sa,sf)).1.2.2.1:=by(rw[adR_3 p3 ‹_› ‹_› p12 p15]; done)
  have e20:ofB (tkL bs (qa4,qf4) (2:Int).toNat)=(adR bs (sa,sf)).1.2.2.2:=by(rw[adR_3 p3 ‹_› ‹_› p12 p15]; rfl)
  exact⟨none,0,qa5,qf5,(aggv (lc (congrArg (Value.int .i64) e16) (lc (slv r0 e18 r0) (lc (congrArg (Str) e19) (lc (congrArg (Value.int .i64) e20) r0))))),‹_›,‹_›,(by(rw[adR_3 p3 ‹_› ‹_› p12 p15]; exact(if_pos ‹_›).symm)),((hs22.pq [0,3] r0).cast (lc r0 (lc (own_eq (g:=I) r0 e18 r0 e17) r0)))⟩
 refine sk (bN (nN (sr (tm (pB rb) r0 (cL r0 (rdNumber _ _ _ _ _ (blk_heap hs4 1 r0) (hb.up hs4 (fun _ h=>h) (fun _ h=>.inl h)) (‹_›) (by(assumption)) (by omega)) ?_)))))
 rintro _ w21 ⟨qa6,qf6,rfl,p16,p17,p18,hs23⟩
 replace hs23:=hs4.cK [1] [0,2] hs23 r0
 refine qt r0 (fa 3 fo54_3 r0) (sT (I (ofB (tkL bs (qa1,qf1) (2:Int).toNat))) hs23 1 r0 one3 (fun w22 (hs24:SH w w22 [rb] [.blk b1 54 Z17,.blk rb 162 [(Z4 Ab bs cb),I (qa6:Int),.bool qf6],.blk b2 54 [(Z143 bs sa sf),ns,Str [],I (ofB (tkL bs (qa1,qf1) (2:Int).toNat))]])=>?_))
 refine nn (sq (sr (qt r0 (lG [(Z143 bs sa sf),ns,Str [],I (ofB (tkL bs (qa1,qf1) (2:Int).toNat))] hs24 2 r0 ag54) (cS hs24 r0 (iAddressValid (ak:=byV bs (sa,sf)) (Aaq:=none) (caq:=0) (aq:=([]:List Int)) (an:=[]) (apt:=ofB (tkL bs (qa1,qf1) (2:Int).toNat)) (w:=_) (haq:=Sl.nil) (han_n:=(by((simp; done))))) (fun w23 hs25=>?_)))))
 refine qt r0 (nt r0) (nn (cd r0 (fun h9=>?_) (fun h9=>?_)))
 ·have h10:=nbF h9
  refine rg (tm (pB rb) r0 (tn r0 (qt r0 (fa 2 fo162_2 r0) (sT Z35 hs25 1 r0 one4 (fun w24 hs26=>?_)))))
  refine nx (qt r0 (lG [(Z143 bs sa sf),ns,Str [],I (ofB (tkL bs (qa1,qf1) (2:Int).toNat))] hs26 1 r0 ag54) (sG [(Z143 bs sa sf),ns,Str [],I (ofB (tkL bs (qa1,qf1) (2:Int).toNat))] hs26 0 r0 ag54 (fun w25 (hs27:SH w w25 [rb] [.blk b2 54 [(Z143 bs sa sf),ns,Str [],I (ofB (tkL bs (qa1,qf1) (2:Int).toNat))],.blk rb 162 [(Z4 Ab bs cb),I (qa6:Int),.bool true],.blk b1 54 [(Z143 bs sa sf),ns,Str [],I (ofB (tkL bs (qa1,qf1) (2:Int).toNat))]])=>?_)))
  refine nn (rt (fret (resC hs27 2 r0 r0 ag54 r0 .nil) r0 ?_))
  have hs28:=hs27.nl [Z0] r0
  have e21:byV bs (sa,sf)=(adR bs (sa,sf)).1.1:=by(rw[adR_0 p3 ‹_› ‹_› p18]; done)
  have e22:([]:List Int)=(adR bs (sa,sf)).1.2.1:=by(rw[adR_0 p3 ‹_› ‹_› p18]; done)
  have e23:=congrArg List.length e22
  have e24:[]=(adR bs (sa,sf)).1.2.2.1:=by(rw[adR_0 p3 ‹_› ‹_› p18]; done)
  have e25:ofB (tkL bs (qa1,qf1) (2:Int).toNat)=(adR bs (sa,sf)).1.2.2.2:=by(rw[adR_0 p3 ‹_› ‹_› p18]; rfl)
  exact⟨none,0,qa6,true,(aggv (lc (congrArg (Value.int .i64) e21) (lc (slv r0 e23 r0) (lc (congrArg (Str) e24) (lc (congrArg (Value.int .i64) e25) r0))))),‹_›,(by(simp_all; done)),(by(rw[adR_0 p3 ‹_› ‹_› p18]; exact(if_neg (by simp_all)).symm)),((hs28.pq [1,3] r0).cast (lc r0 (lc (own_eq (g:=I) r0 e23 r0 e22) r0)))⟩
 have h11:=nbT h9
 refine sk (nN (sr (qt r0 (lG [(Z143 bs sa sf),ns,Str [],I (ofB (tkL bs (qa1,qf1) (2:Int).toNat))] hs25 2 r0 ag54) (sG [(Z143 bs sa sf),ns,Str [],I (ofB (tkL bs (qa1,qf1) (2:Int).toNat))] hs25 0 r0 ag54 (fun w26 hs29=>?_)))))
 refine nn (rt (fret (resC hs29 2 r0 r0 ag54 r0 .nil) r0 ?_))
 have hs30:SH w w26 [rb] [.blk rb 162 [(Z4 Ab bs cb),I (qa6:Int),.bool qf6],.blk b2 54 [(Z143 bs sa sf),ns,Str [],I (ofB (tkL bs (qa1,qf1) (2:Int).toNat))],.blk b1 54 [(Z143 bs sa sf),ns,Str [],I (ofB (tkL bs (qa1,qf1) (2:Int).toNat))],Z0]:=SH.nils (by intro i hi; simp at hi; subst hi; exact nilItem) hs29
 have e26:byV bs (sa,sf)=(adR bs (sa,sf)).1.1:=by(rw[adR_0 p3 ‹_› ‹_› p18]; done)
 have e27:([]:List Int)=(adR bs (sa,sf)).1.2.1:=by(rw[adR_0 p3 ‹_› ‹_› p18]; done)
 have e28:=congrArg List.length e27
 have e29:[]=(adR bs (sa,sf)).1.2.2.1:=by(rw[adR_0 p3 ‹_› ‹_› p18]; done)
 have e30:ofB (tkL bs (qa1,qf1) (2:Int).toNat)=(adR bs (sa,sf)).1.2.2.2:=by(rw[adR_0 p3 ‹_› ‹_› p18]; rfl)
 exact⟨none,0,qa6,qf6,(aggv (lc (congrArg (Value.int .i64) e26) (lc (slv r0 e28 r0) (lc (congrArg (Str) e29) (lc (congrArg (Value.int .i64) e30) r0))))),‹_›,‹_›,(by(rw[adR_0 p3 ‹_› ‹_› p18]; exact(if_pos ‹_›).symm)),((hs30.pq [0,3] r0).cast (lc r0 (lc (own_eq (g:=I) r0 e28 r0 e27) r0)))⟩
theorem iHelloFrom {Abs:Option Addr} {cbs:Nat} (bs:List Int) (w:World) (hbs:Sl w [] 1 Abs bs.length cbs (bs.map I)):Does Tryz.prog 126 [.slice Abs bs.length cbs] w (fun v w'=>∃ Ar:Option Addr,∃ cr:Nat,v=.tuple #[.slice Ar ((helloFrom bs).1).length cr,.int .i64 ((helloFrom bs).2.1),.bool ((helloFrom bs).2.2)]∧SH w w' [] [.own Ar (((helloFrom bs).1).length) cr 3 1 (((helloFrom bs).1).map I)]):=by
 refine fE (N:=30) Tryz.func126 r0 (by kernel_rfl) r0 ?_
 have hs0:=SH.refl w []
 have hbs_m:bs.length≤9223372036854775807:=Nat.le_trans hbs.cap hbs.capMax
 refine sr (tA ns r0 (tA (I 0) r0 (tA Z6 r0 (nn (sq (rg (tm (Z14 Abs bs cbs) r0 (cL r0 (newReader _ _ (hbs.up0 hs0)) ?_))))))))
 rintro _ w1 ⟨g1,rfl,hs1⟩
 replace hs1:=hs0.call0 hs1
 refine tA (pB g1) r0 (nx (tm (pB g1) r0 (bsk hs1 sl24 [I 5] [I 5] trivial r0 (fun b1 w2 hs2=>?_))))
 refine cL r0 (rdExpect _ 0 _ ([5]:List Int) _ (blk_heap hs2 0 r0) (hbs.up hs2 (by simp) (fun k h=>.inr (hs2.lo1 0 r0 k h))) (by(simp; done)) (by omega) (hs2.sl 1 r0 (by intro k hk; simp at hk; subst hk; exact⟨_,memi 0 r0,rfl⟩)) (by((simp; done)))) ?_
 rintro _ w3 ⟨qa1,qf1,rfl,p1,p2,p3,hs3⟩
 replace hs3:=hs2.cK [0] [1] hs3 r0
 refine nx (tm (pB g1) r0 (tm (pB g1) r0 (cL r0 (rdByte _ _ _ _ (blk_heap hs3 1 r0) (hbs.up hs3 (by simp) (fun k h=>.inr (hs3.lo1 1 r0 k h))) (‹_›) (by(assumption))) ?_)))
 rintro _ w4 ⟨qa2,qf2,rfl,p4,p5,p6,hs4⟩
 replace hs4:=hs3.cK [1] [0] hs4 r0
 refine cL r0 (rdTake _ _ _ _ _ (blk_heap hs4 1 r0) (hbs.up hs4 (by simp) (fun k h=>.inr (hs4.lo1 1 r0 k h))) (‹_›) (by(assumption)) (by(have hb1:=byV_bd (bs:=bs) (s:=(qa1,qf1)) p2; omega))) ?_
 rintro _ w5 ⟨A1,c1,qa3,qf3,rfl,p7,p8,p9,hs5⟩
 replace hs5:=hs4.cK [1] [0] hs5 r0
 refine tA (.slice A1 ((tkL bs (qa2,qf2) (byV bs (qa1,qf1)).toNat).length) c1) r0 (nn (sq (sr (tm (pB g1) r0 (tn r0 (qt r0 (fa 2 fo162_2 r0) (qt r0 (lD (.bool qf3) hs5 1 r0 one4) (tm (.bool qf3) r0 (spl 20 r0 (fun h1=>?_) (fun h1=>?_))))))))))
 ·refine gt5 r0 (gt5 r0 (gt5 r0 (qt r0 (pt (v:=.bool true) r0 r0) (nn (cdt r0 (sq (rg (tA ns r0 (tA (I 0) r0 (tA Z6 r0 (nn (rt (tR (fret (.tmp (.tmp (.tmp .nil))) r0 ?_))))))))))))))
  have hs6:=hs5.nl [Z0] r0
  have e1:helloFrom bs=(([]:List Int),0,false):=by(rw[hello_r p3 p6 p9]; simp[h1])
  rw[e1]
  exact⟨none,0,rfl,(hs6.pk [3] r0)⟩
 refine qh r0 (mv (v:=.slice A1 ((tkL bs (qa2,qf2) (byV bs (qa1,qf1)).toNat).length) c1) r0) (cl ⟨_,rfl,rfl⟩ r0 (iAreMethods _ _ (hs5.sl0 2 r0)) ?_)
 rintro _ w6 ⟨rfl,hs7⟩
 replace hs7:=hs5.call0 hs7
 refine qh r0 (nt r0) (qt r0 (pf (v:=.bool (!(methOk (tkL bs (qa2,qf2) (byV bs (qa1,qf1)).toNat)))) r0 r0) (nn (cd r0 (fun h2=>?_) (fun h2=>?_))))
 ·have h3:=nbF h2
  refine sr (tA ns r0 (tA (I 0) r0 (tA Z6 r0 (nn (rt (tR (fret (.tmp (.tmp (.tmp .nil))) r0 ?_)))))))
  have hs8:=hs7.nl [Z0] r0
  have e2:helloFrom bs=(([]:List Int),0,false):=by(rw[hello_r p3 p6 p9]; simp[h1,h3])
  rw[e2]
  exact⟨none,0,rfl,(hs8.pk [3] r0)⟩
 have h4:=nbT h2
 refine sk (nN (sq (rq (fun w'=>SH w w' [] [oI b1 ([5]:List Int) 1 3,.blk g1 162 [(Z4 Abs bs cbs),I (qa3:Int),.bool qf3],.own A1 ((tkL bs (qa2,qf2) (byV bs (qa1,qf1)).toNat).length) c1 3 1 ((tkL bs (qa2,qf2) (byV bs (qa1,qf1)).toNat).map I)]) mixed (by kernel_rfl) hs7.drew (qA r0 (mv (v:=.slice A1 ((tkL bs (qa2,qf2) (byV bs (qa1,qf1)).toNat).length) c1) r0) (qA r0 (mv (v:=pB g1) r0) (qA r0 (nc r0) (qA r0 (fa 1 fo162_1 r0) (qB r0 (fun hsq=>lD (I (qa3:Int)) hsq 1 r0 one3) (qA r0 (asg (v:=.slice A1 ((tkL bs (qa2,qf2) (byV bs (qa1,qf1)).toNat).length) c1) r0) (qA r0 (asg (v:=I (qa3:Int)) r0) (qA r0 (asg (v:=.bool true) r0) (qn (fun w7 hs9=>?_)))))))))))))
 refine nN (rt (fret (.tmp (.tmp (.tmp .nil))) r0 ?_))
 have e3:helloFrom bs=(tkL bs (qa2,qf2) (byV bs (qa1,qf1)).toNat,(qa3:Int),true):=by(rw[hello_r p3 p6 p9]; simp[h1,h4])
 rw[e3]
 exact⟨A1,c1,rfl,(hs9.pk [2] r0)⟩
theorem iLoginFrom {Abs:Option Addr} {cbs:Nat} (bs:List Int) (w:World) (hbs:Sl w [] 1 Abs bs.length cbs (bs.map I)):Does Tryz.prog 183 [.slice Abs bs.length cbs] w (fun v w'=>v=.tuple #[.agg #[Str ((loginFrom bs).1.1),Str ((loginFrom bs).1.2)],.int .i64 ((loginFrom bs).2.1),.bool ((loginFrom bs).2.2)]∧SH w w' [] []):=by
 refine fE (N:=33) Tryz.func183 r0 (by kernel_rfl) r0 ?_
 have hs0:SH w w [] []:=SH.refl w []
 have hbs_m:bs.length≤9223372036854775807:=Nat.le_trans hbs.cap hbs.capMax
 refine sr (al (cs:=Z65) hs0 tz31 r0 trivial r0 (fun b1 w1 hs1=>?_))
 refine tA (I 0) r0 (tA Z6 r0 (nx (tm (Z14 Abs bs cbs) r0 (cL r0 (newReader _ _ (hbs.up0 hs1)) ?_))))
 rintro _ w2 ⟨g1,rfl,hs2⟩
 replace hs2:=hs1.call0 hs2
 refine tA (pB g1) r0 (nx (tm (pB g1) r0 (bsk hs2 sl24 [I 1] [I 1] trivial r0 (fun b2 w3 hs3=>?_))))
 refine cL r0 (rdExpect _ 0 _ ([1]:List Int) _ (blk_heap hs3 1 r0) (hbs.up hs3 (by simp) (fun k h=>.inr (hs3.lo1 1 r0 k h))) (by(simp; done)) (by omega) (hs3.sl 2 r0 (by intro k hk; simp at hk; subst hk; exact⟨_,memi 1 r0,rfl⟩)) (by((simp; done)))) ?_
 rintro _ w4 ⟨qa1,qf1,rfl,p1,p2,p3,hs4⟩
 replace hs4:=hs3.cK [1] [0,2] hs4 r0
 refine nx (al (cs:=Z65) hs4 tz31 r0 trivial r0 (fun b3 w5 hs5=>?_))
 refine nx (tm (pB g1) r0 (cL r0 (rdText _ _ _ _ (blk_heap hs5 2 r0) (hbs.up hs5 (by simp) (fun k h=>.inr (hs5.lo1 2 r0 k h))) (‹_›) (by(assumption))) ?_))
 rintro _ w6 ⟨qa2,qf2,rfl,p4,p5,p6,hs6⟩
 replace hs6:SH w w6 [] [.blk b1 31 Z65,oI b2 ([1]:List Int) 1 3,.blk b3 31 Z65,.blk g1 162 [(Z4 Abs bs cbs),I (qa2:Int),.bool qf2]]:=SH.callK (K:=[.blk g1 162 [(Z4 Abs bs cbs),I (qa1:Int),.bool qf1]]) (R:=[.blk b1 31 Z65,oI b2 ([1]:List Int) 1 3,.blk b3 31 Z65]) (hs5.pk [2,0,1,3] r0) hs6 r0
 refine qt r0 (fa 0 fo31_0 r0) (sT (Str (txV bs (qa1,qf1))) hs6 2 r0 one9 (fun w7 hs7=>?_))
 refine nx (tm (pB g1) r0 (cL r0 (rdText _ _ _ _ (blk_heap hs7 2 r0) (hbs.up hs7 (by simp) (fun k h=>.inr (hs7.lo1 2 r0 k h))) (‹_›) (by(assumption))) ?_))
 rintro _ w8 ⟨qa3,qf3,rfl,p7,p8,p9,hs8⟩
 replace hs8:=hs7.cK [2] [0,1,3] hs8 r0
 refine qt r0 (fa 1 fo31_1 r0) (sT (Str (txV bs (qa2,qf2))) hs8 2 r0 one9 (fun w9 hs9=>?_))
 refine nn (sq (sr (tm (pB g1) r0 (tn r0 (qt r0 (fa 2 fo162_2 r0) (qt r0 (lD (.bool qf3) hs9 2 r0 one4) (tm (.bool qf3) r0 (spl 22 r0 (fun h1=>?_) (fun h1=>?_)))))))))
 ·refine gt5 r0 (gt5 r0 (gt5 r0 (qt r0 (pt (v:=.bool true) r0 r0) (nn (cdt r0 (sq (rg (qt r0 (bdv (v:=.agg #[Str [],Str []]) [] r0 (fun _=>by kernel_rfl)) (sG Z65 hs9 0 r0 ag31 (fun w10 hs10=>?_))))))))))
  refine tA (I 0) r0 (tA Z6 r0 (nn ?_))
  have hs11:=hs10.pq [3] r0
  refine rt (tR (fret (resC hs11 0 r0 r0 ag31 r0 (.tmp (.tmp .nil))) r0 ?_))
  have e1:loginFrom bs=(([],[]),0,false):=by(rw[login_r p3 p6 p9]; simp[h1])
  rw[e1]
  exact⟨rfl,(hs11.pk [] r0)⟩
 refine qh r0 (lG [Str (txV bs (qa1,qf1)),Str (txV bs (qa2,qf2))] hs9 3 r0 ag31) (cl ⟨_,rfl,rfl⟩ r0 (iIsLogin _ _ _ (by(have ht1:=txV_len (bs:=bs) (s:=(qa1,qf1)) p2; have ht2:=txV_len (bs:=bs) (s:=(qa2,qf2)) p5; omega)) (by(have ht1:=txV_len (bs:=bs) (s:=(qa1,qf1)) p2; have ht2:=txV_len (bs:=bs) (s:=(qa2,qf2)) p5; omega))) ?_)
 rintro _ w11 ⟨rfl,hs12⟩
 replace hs12:=hs9.call0 hs12
 refine qh r0 (nt r0) (qt r0 (pf (v:=.bool (!(loginOk (txV bs (qa1,qf1)) (txV bs (qa2,qf2))))) r0 r0) (nn (cd r0 (fun h2=>?_) (fun h2=>?_))))
 ·have h3:=nbF h2
  refine sr (qt r0 (bdv (v:=.agg #[Str [],Str []]) [] r0 (fun _=>by kernel_rfl)) (sG Z65 hs12 0 r0 ag31 (fun w12 hs13=>?_)))
  refine tA (I 0) r0 (tA Z6 r0 (nn ?_))
  have hs14:=hs13.pq [3] r0
  refine rt (tR (fret (resC hs14 0 r0 r0 ag31 r0 (.tmp (.tmp .nil))) r0 ?_))
  have e2:loginFrom bs=(([],[]),0,false):=by(rw[login_r p3 p6 p9]; simp[h1,h3])
  rw[e2]
  exact⟨rfl,(hs14.pk [] r0)⟩
 have h4:=nbT h2
 refine sk (nN (sq (ra (fun w'=>∃ L,SH w w' [] L∧(.blk g1 162 [(Z4 Abs bs cbs),I (qa3:Int),.bool qf3])∈L∧(.blk b3 31 [Str (txV bs (qa1,qf1)),Str (txV bs (qa2,qf2))])∈L∧True) mixed ?_)))
 have hs15:=hs12.drew
 refine tk (fuel:=3) (is:=[0,1,2,3,4]) (.cons r0 (.cons r0 (.cons r0 (.cons r0 (.cons r0 (.nil)))))) (by kernel_rfl) (by kernel_rfl) ⟨_,hs15,memi 2 r0,memi 3 r0,trivial⟩ (yB r0 (fun ⟨Lq,hsq,mh0,mh1,_⟩=>ldgm (vs:=[Str (txV bs (qa1,qf1)),Str (txV bs (qa2,qf2))]) hsq mh1 r0 r0 r0 ag31) (yA r0 (mv (v:=pB g1) r0) (yA r0 (nc r0) (yA r0 (fa 1 fo162_1 r0) (yB r0 (fun ⟨Lq,hsq,mh0,mh1,_⟩=>lM (I (qa3:Int)) hsq mh0 r0 one3) (.nil (a1 (i:=5) (by kernel_rfl) (one_ r0 (sG [Str (txV bs (qa1,qf1)),Str (txV bs (qa2,qf2))] hs15 0 r0 ag31 (fun w13 hs16=>?_))))))))))
 refine nk ⟨_,hs16,memi 1 r0,memi 2 r0,trivial⟩ (tk (fuel:=0) (is:=[6,7]) (.cons r0 (.cons r0 (.nil))) (by kernel_rfl) (by kernel_rfl) ⟨_,hs16,memi 1 r0,memi 2 r0,trivial⟩ (yA r0 (asg (v:=I (qa3:Int)) r0) (yA r0 (asg (v:=.bool true) r0) (.nil (ad (by kernel_rfl) (nN ?_))))))
 have hs17:=hs16.pq [3] r0
 refine rt (fret (resC hs17 0 r0 r0 ag31 r0 (.tmp (.tmp .nil))) r0 ?_)
 have e3:loginFrom bs=((txV bs (qa1,qf1),txV bs (qa2,qf2)),(qa3:Int),true):=by(rw[login_r p3 p6 p9]; simp[h1,h4])
 rw[e3]
 exact⟨rfl,(hs17.pk [] r0)⟩
set_option maxHeartbeats 8000000 in
theorem iCodeFrom {Abs:Option Addr} {cbs:Nat} (bs:List Int) (w:World) (hbs:Sl w [] 1 Abs bs.length cbs (bs.map I)):Does Tryz.prog 216 [.slice Abs bs.length cbs] w (fun v w'=>∃ Aqr:Option Addr,∃ cqr:Nat,v=.tuple #[.int .i64 ((codeR bs).1),.agg #[.int .i64 ((codeR bs).2.1.1),.slice Aqr ((codeR bs).2.1.2.1).length cqr,Str ((codeR bs).2.1.2.2.1),.int .i64 ((codeR bs).2.1.2.2.2)],.int .i64 ((codeR bs).2.2.1),.bool ((codeR bs).2.2.2)]∧SH w w' [] [.own Aqr (((codeR bs).2.1.2.1).length) cqr 3 1 (((codeR bs).2.1.2.1).map I)]):=by
 refine fE (N:=32) Tryz.func216 r0 (by kernel_rfl) r0 ?_
 have hs0:=SH.refl w []
 have hbs_m:bs.length≤9223372036854775807:=Nat.le_trans hbs.cap hbs.capMax
 refine sr (tA (I 0) r0 (al (cs:=Z17) hs0 tz54 r0 trivial r0 (fun b1 w1 hs1=>?_)))
 refine tA (I 0) r0 (tA Z6 r0 (nx (tm (Z14 Abs bs cbs) r0 (cL r0 (newReader _ _ (hbs.up0 hs1)) ?_))))
 rintro _ w2 ⟨g1,rfl,hs2⟩
 replace hs2:=hs1.call0 hs2
 refine tA (pB g1) r0 (nx (tm (pB g1) r0 (bsk hs2 sl24 [I 5] [I 5] trivial r0 (fun b2 w3 hs3=>?_))))
 refine cL r0 (rdExpect _ 0 _ ([5]:List Int) _ (blk_heap hs3 1 r0) (hbs.up hs3 (by simp) (fun k h=>.inr (hs3.lo1 1 r0 k h))) (by(simp; done)) (by omega) (hs3.sl 2 r0 (by intro k hk; simp at hk; subst hk; exact⟨_,memi 1 r0,rfl⟩)) (by(simp; done))) ?_
 rintro _ w4 ⟨qa1,qf1,rfl,p1,p2,p3,hs4⟩
 replace hs4:=hs3.cK [1] [0,2] hs4 r0
 refine nx (tm (pB g1) r0 (cL r0 (rdByte _ _ _ _ (blk_heap hs4 2 r0) (hbs.up hs4 (by simp) (fun k h=>.inr (hs4.lo1 2 r0 k h))) (‹_›) (‹_›)) ?_))
 rintro _ w5 ⟨qa2,qf2,rfl,p4,p5,p6,hs5⟩
 replace hs5:=hs4.cK [2] [0,1] hs5 r0
 refine tA (I (byV bs (qa1,qf1))) r0 (nx (tm (pB g1) r0 (bsk hs5 sl24 [I 0] [I 0] trivial r0 (fun b3 w6 hs6=>?_))))
 refine cL r0 (rdExpect _ _ _ ([0]:List Int) _ (blk_heap hs6 2 r0) (hbs.up hs6 (by simp) (fun k h=>.inr (hs6.lo1 2 r0 k h))) (‹_›) (‹_›) (hs6.sl 3 r0 (by intro k hk; simp at hk; subst hk; exact⟨_,memi 2 r0,rfl⟩)) (by(simp; done))) ?_
 rintro _ w7 ⟨qa3,qf3,rfl,p7,p8,p9,hs7⟩
 replace hs7:=hs6.cK [2] [0,1,3] hs7 r0
 refine nn ?_
 have hs8:=hs7.pq [0,3] r0
 refine sr (tm (pB g1) r0 (cL r0 (rdAddress _ _ _ _ (blk_heap hs8 1 r0) (hbs.up hs8 (by simp) (fun k h=>.inr (hs8.lo1 1 r0 k h))) (‹_›) (‹_›)) ?_))
 rintro _ w8 ⟨A1,c1,qa4,qf4,rfl,p10,p11,p12,hs9⟩
 replace hs9:=hs8.cK [1] [0] hs9 r0
 refine al (cs:=Z17) hs9 tz54 r0 trivial r0 (fun b4 w9 hs10=>?_)
 refine sG [I ((adR bs (qa3,qf3)).1.1),.slice A1 (((adR bs (qa3,qf3)).1.2.1).length) c1,Str ((adR bs (qa3,qf3)).1.2.2.1),I ((adR bs (qa3,qf3)).1.2.2.2)] hs10 3 r0 ag54 (fun w10 hs11=>?_)
 refine nn (sq ?_)
 refine raJ (fun w'=>∃ L,SH w w' [] L∧(.blk g1 162 [(Z4 Abs bs cbs),I (qa4:Int),.bool qf4])∈L∧(.blk b4 54 [I ((adR bs (qa3,qf3)).1.1),.slice A1 (((adR bs (qa3,qf3)).1.2.1).length) c1,Str ((adR bs (qa3,qf3)).1.2.2.1),I ((adR bs (qa3,qf3)).1.2.2.2)])∈L∧True) (fun f w'=>Hz f [(2,I (byV bs (qa1,qf1))),(3,pB b1),(4,I (qa4:Int)),(5,.bool (!qf4))]∧SH w w' [] [.blk b1 54 [I ((adR bs (qa3,qf3)).1.1),.slice A1 (((adR bs (qa3,qf3)).1.2.1).length) c1,Str ((adR bs (qa3,qf3)).1.2.2.1),I ((adR bs (qa3,qf3)).1.2.2.2)],.blk g1 162 [(Z4 Abs bs cbs),I (qa4:Int),.bool qf4],.own A1 (((adR bs (qa3,qf3)).1.2.1).length) c1 3 1 (((adR bs (qa3,qf3)).1.2.1).map I),.blk b4 54 [I ((adR bs (qa3,qf3)).1.1),.slice A1 (((adR bs (qa3,qf3)).1.2.1).length) c1,Str ((adR bs (qa3,qf3)).1.2.2.1),I ((adR bs (qa3,qf3)).1.2.2.2)]]) mixed ?_ ?_
 ·refine dG 3 15 4095 (fun f w'=>Hz f [(2,I (byV bs (qa1,qf1))),(3,pB b1),(4,I 0),(5,.bool false),(22,.agg #[I ((adR bs (qa3,qf3)).1.1),.slice A1 (((adR bs (qa3,qf3)).1.2.1).length) c1,Str ((adR bs (qa3,qf3)).1.2.2.1),I ((adR bs (qa3,qf3)).1.2.2.2)]),(26,I (qa4:Int)),(31,.bool (!qf4))]∧SH w w' [] [.blk b1 54 Z17,.blk g1 162 [(Z4 Abs bs cbs),I (qa4:Int),.bool qf4],.own A1 (((adR bs (qa3,qf3)).1.2.1).length) c1 3 1 (((adR bs (qa3,qf3)).1.2.1).map I),.blk b4 54 [I ((adR bs (qa3,qf3)).1.1),.slice A1 (((adR bs (qa3,qf3)).1.2.1).length) c1,Str ((adR bs (qa3,qf3)).1.2.2.1),I ((adR bs (qa3,qf3)).1.2.2.2)]]) ?_ (fun D_6_0=>?_)
  ·rintro f w11 ⟨⟨g2,rfl⟩,hs12⟩
   refine aO 12 r0 (sG [I ((adR bs (qa3,qf3)).1.1),.slice A1 (((adR bs (qa3,qf3)).1.2.1).length) c1,Str ((adR bs (qa3,qf3)).1.2.2.1),I ((adR bs (qa3,qf3)).1.2.2.2)] hs12 0 r0 ag54 (fun w12 hs13=>?_))
   refine nk ⟨_,hs13,memi 0 r0,memi 2 r0,trivial⟩ (tk (fuel:=0) (is:=[13,14]) (.cons r0 (.cons r0 (.nil))) (by kernel_rfl) (by kernel_rfl) ⟨_,hs13,memi 0 r0,memi 2 r0,trivial⟩ (yA r0 (asg (v:=I (qa4:Int)) r0) (yA r0 (asg (v:=.bool (!qf4)) r0) (.nil (ad (by kernel_rfl) ?_)))))
   exact⟨(zR r0),(hs13.pk [3,0,1,2] r0)⟩
  have hs14:=hs11.drew
  exact tk (fuel:=3) (is:=[0,1,2,3,4,5,6,7,8,9,10,11]) (.cons r0 (.cons r0 (.cons r0 (.cons r0 (.cons r0 (.cons r0 (.cons r0 (.cons r0 (.cons r0 (.cons r0 (.cons r0 (.cons r0 (.nil))))))))))))) (by kernel_rfl) (by kernel_rfl) ⟨_,hs14,memi 1 r0,memi 3 r0,trivial⟩ (yA r0 (mv (v:=I (byV bs (qa1,qf1))) r0) (yB r0 (fun ⟨Lq,hsq,mh0,mh1,_⟩=>ldgm (vs:=[I ((adR bs (qa3,qf3)).1.1),.slice A1 (((adR bs (qa3,qf3)).1.2.1).length) c1,Str ((adR bs (qa3,qf3)).1.2.2.1),I ((adR bs (qa3,qf3)).1.2.2.2)]) hsq mh1 r0 r0 r0 ag54) (yA r0 (mv (v:=pB g1) r0) (yA r0 (nc r0) (yA r0 (fa 1 fo162_1 r0) (yB r0 (fun ⟨Lq,hsq,mh0,mh1,_⟩=>lM (I (qa4:Int)) hsq mh0 r0 one3) (yA r0 (mv (v:=pB g1) r0) (yA r0 (nc r0) (yA r0 (fa 2 fo162_2 r0) (yB r0 (fun ⟨Lq,hsq,mh0,mh1,_⟩=>lM (.bool qf4) hsq mh0 r0 one4) (yA r0 (nt r0) (yA r0 (asg (v:=I (byV bs (qa1,qf1))) r0) (.nil (alc D_6_0 ⟨(zR r0),hs14⟩))))))))))))))
 rintro f w13 ⟨⟨g3,rfl⟩,hs15⟩
 refine nN ?_
 have hs16:=hs15.pq [0,2] r0
 refine rt (fret (.tmp (resC hs16 0 r0 r0 ag54 r0 (.tmp (.tmp .nil)))) r0 ?_)
 have e1:codeR bs=(byV bs (qa1,qf1),((adR bs (qa3,qf3)).1.1,(adR bs (qa3,qf3)).1.2.1,(adR bs (qa3,qf3)).1.2.2.1,(adR bs (qa3,qf3)).1.2.2.2),(qa4:Int),(!qf4)):=by(rw[code_r p3 p6 p9 p12]; done)
 rw[e1]
 exact⟨A1,c1,rfl,(hs16.pk [1] r0)⟩
theorem iRequestFrom {Abs:Option Addr} {cbs:Nat} (bs:List Int) (w:World) (hbs:Sl w [] 1 Abs bs.length cbs (bs.map I)):Does Tryz.prog 186 [.slice Abs bs.length cbs] w (fun v w'=>∃ Aqr:Option Addr,∃ cqr:Nat,v=.tuple #[.agg #[.int .i64 ((reqFrom bs).1.1),.int .i64 ((reqFrom bs).1.2.1),.slice Aqr ((reqFrom bs).1.2.2.1).length cqr,Str ((reqFrom bs).1.2.2.2.1),.int .i64 ((reqFrom bs).1.2.2.2.2)],.int .i64 ((reqFrom bs).2.1),.bool ((reqFrom bs).2.2)]∧SH w w' [] [.own Aqr (((reqFrom bs).1.2.2.1).length) cqr 3 1 (((reqFrom bs).1.2.2.1).map I)]):=by
 refine fE (N:=30) Tryz.func186 r0 (by kernel_rfl) r0 ?_
 have hs0:=SH.refl w []
 have hbs_m:bs.length≤9223372036854775807:=Nat.le_trans hbs.cap hbs.capMax
 refine sr (al (cs:=Z103) hs0 tz64 r0 trivial r0 (fun b1 w1 hs1=>?_))
 refine tA (I 0) r0 (tA Z6 r0 (nx (tm (Z14 Abs bs cbs) r0 (cS2 hs1 r0 (iCodeFrom _ _ (hbs.up0 hs1)) (fun Aq1 cq1 w2 hs2=>?_)))))
 refine tm (.tuple #[I ((codeR bs).1),.agg #[I ((codeR bs).2.1.1),(Z140 Aq1 bs cq1),(Z156 bs),I ((codeR bs).2.1.2.2.2)],I ((codeR bs).2.2.1),.bool ((codeR bs).2.2.2)]) r0 (qt r0 (xt 0 r0 r0) (qt r0 (xt 1 r0 r0) (qt r0 (xt 2 r0 r0) (qt r0 (xt 3 r0 r0) (al (cs:=Z17) hs2 tz54 r0 trivial r0 (fun b2 w3 hs3=>?_))))))
 refine tA (I ((codeR bs).1)) r0 (sG [I ((codeR bs).2.1.1),(Z140 Aq1 bs cq1),(Z156 bs),I ((codeR bs).2.1.2.2.2)] hs3 2 r0 ag54 (fun w4 hs4=>?_))
 refine tA (I ((codeR bs).2.2.1)) r0 (tA (.bool ((codeR bs).2.2.2)) r0 (nx (tm (I ((codeR bs).1)) r0 (qt r0 (lG [I ((codeR bs).2.1.1),(Z140 Aq1 bs cq1),(Z156 bs),I ((codeR bs).2.1.2.2.2)] hs4 2 r0 ag54) (qt r0 (bdv (v:=.agg #[I ((codeR bs).1),I ((codeR bs).2.1.1),(Z140 Aq1 bs cq1),(Z156 bs),I ((codeR bs).2.1.2.2.2)]) [(0,I ((codeR bs).1)),(1,.agg #[I ((codeR bs).2.1.1),(Z140 Aq1 bs cq1),(Z156 bs),I ((codeR bs).2.1.2.2.2)])] r0 (fun _=>by kernel_rfl)) (al (cs:=Z103) hs4 tz64 r0 trivial r0 (fun b3 w5 hs5=>?_)))))))
 refine sG (Z70 bs Aq1 cq1) hs5 3 r0 ag64 (fun w6 hs6=>?_)
 refine nn (sq (sr (tm (.bool ((codeR bs).2.2.2)) r0 (qt r0 (nt r0) (tm (.bool (!((codeR bs).2.2.2))) r0 (spl 22 r0 (fun h1=>?_) (fun h1=>?_)))))))
 ·have h2:=nbF h1
  refine gt5 r0 (gt5 r0 (gt5 r0 (qt r0 (pt (v:=.bool true) r0 r0) (nn (cdt r0 (sq (rg (qt r0 (bdv (v:=.agg #[I 0,I 0,ns,Str [],I 0]) [] r0 (fun _=>by kernel_rfl)) (sG Z103 hs6 0 r0 ag64 (fun w7 hs7=>?_))))))))))
  refine tA (I 0) r0 (tA Z6 r0 (nn ?_))
  have hs8:=hs7.pq [3] r0
  refine rt (tR (fret (resC hs8 0 r0 r0 ag64 r0 (.tmp (.tmp .nil))) r0 ?_))
  have hs9:=hs8.nl [Z0] r0
  have e1:reqFrom bs=((0,(0,([]:List Int),[],0)),0,false):=by(rw[req_code]; simp[h2])
  rw[e1]
  exact⟨none,0,rfl,(hs9.pk [1] r0)⟩
 have h3:=nbT h1
 refine qh r0 (lG (Z70 bs Aq1 cq1) hs6 3 r0 ag64) (cl ⟨_,rfl,rfl⟩ r0 (iIsRequest _ _ _ _ _ _ (hs6.sl0 1 r0) (by(have hcn:=codeR_nm bs; omega))) ?_)
 rintro _ w8 ⟨rfl,hs10⟩
 replace hs10:=hs6.call0 hs10
 refine qh r0 (nt r0) (qt r0 (pf (v:=.bool (!(reqOk ((codeR bs).1) ((codeR bs).2.1.1) ((codeR bs).2.1.2.1) ((codeR bs).2.1.2.2.1) ((codeR bs).2.1.2.2.2)))) r0 r0) (nn (cd r0 (fun h4=>?_) (fun h4=>?_))))
 ·have h5:=nbF h4
  refine sr (qt r0 (bdv (v:=.agg #[I 0,I 0,ns,Str [],I 0]) [] r0 (fun _=>by kernel_rfl)) (sG Z103 hs10 0 r0 ag64 (fun w9 hs11=>?_)))
  refine tA (I 0) r0 (tA Z6 r0 (nn ?_))
  have hs12:=hs11.pq [3] r0
  refine rt (tR (fret (resC hs12 0 r0 r0 ag64 r0 (.tmp (.tmp .nil))) r0 ?_))
  have hs13:=hs12.nl [Z0] r0
  have e2:reqFrom bs=((0,(0,([]:List Int),[],0)),0,false):=by(rw[req_code]; simp[h3,h5])
  rw[e2]
  exact⟨none,0,rfl,(hs13.pk [1] r0)⟩
 have h6:=nbT h4
 refine sk (nN (sr (qt r0 (lG (Z70 bs Aq1 cq1) hs10 3 r0 ag64) (tm (I ((codeR bs).2.2.1)) r0 (sG (Z70 bs Aq1 cq1) hs10 0 r0 ag64 (fun w10 hs14=>?_))))))
 refine tA (I ((codeR bs).2.2.1)) r0 (tA Z35 r0 (nn ?_))
 have hs15:=hs14.pq [0,3] r0
 refine rt (fret (resC hs15 1 r0 r0 ag64 r0 (.tmp (.tmp .nil))) r0 ?_)
 have e3:reqFrom bs=(((codeR bs).1,((codeR bs).2.1.1,(codeR bs).2.1.2.1,(codeR bs).2.1.2.2.1,(codeR bs).2.1.2.2.2)),(codeR bs).2.2.1,true):=by(rw[req_code]; simp[h3,h6])
 rw[e3]
 exact⟨Aq1,cq1,rfl,(hs15.pk [0] r0)⟩
theorem iPickBytes (m:Int) (w:World) (hm:0≤m∧m≤255):Does Tryz.prog 182 [I m] w (fun v w'=>∃ Ar:Option Addr,∃ cr:Nat,v=.tuple #[.slice Ar [5,m].length cr,.bool true]∧SH w w' [] [.own Ar ([5,m].length) cr 3 1 ([5,m].map I)]):=by
 refine fE (N:=9) Tryz.func182 r0 (by kernel_rfl) r0 ?_
 have hs0:=SH.refl w []
 refine sr (tA ns r0 (tA Z6 r0 (nn (sq (sq (rg (tm (I m) r0 (cS hs0 r0 (iWithin _ 0 255 _) (fun w1 hs1=>?_)))))))))
 refine qt r0 (nd r0) (nn (cdd r0 (fun h1=>absurd h1 (by exact fun h=>h hm)) (fun h1=>?_)))
 refine sk (nN (sr (tm (I m) r0 (bsk hs1 sl24 [I 5,I m] [I 5,I m] trivial r0 (fun b1 w2 hs2=>?_)))))
 refine tA (sb b1 (([5,m]:List Int).length) 2) r0 (tA Z35 r0 (nn (rt (fret (.tmp (.tmp .nil)) r0 ?_))))
 have e1:([5,m]:List Int)=[5,m]:=by rfl
 have e2:=congrArg List.length e1
 exact⟨(Z8 b1),2,(tup2 (slv r0 e2 r0) r0),(hs2.cast (lc (own_eq (g:=I) r0 e2 r0 e1) r0))⟩
theorem sPickBytes (m:Int) (w:World) (hm:0≤m∧m≤255):Does Tryz.prog 150 [I m] w (fun v w'=>∃ Ar:Option Addr,∃ cr:Nat,v=.tuple #[.slice Ar [5,m].length cr,.bool true]∧SH w w' [] [.own Ar ([5,m].length) cr 3 1 ([5,m].map I)]):=by
 refine fE (N:=10) Tryz.func150 r0 (by kernel_rfl) r0 ?_
 have hs0:=SH.refl w []
 refine sr (tA ns r0 (tA Z6 r0 (nn (sq (sq (rg (tm (I m) r0 (cS hs0 r0 (sIn _ 0 255 _) (fun w1 hs1=>?_)))))))))
 refine qt r0 (nd r0) (nn (cdd r0 (fun h1=>absurd h1 (by exact fun h=>h hm)) (fun h1=>?_)))
 refine sk (nN (sr (tm (I m) r0 (bsk hs1 sl24 [I 5,I m] [I 5,I m] trivial r0 (fun b1 w2 hs2=>?_)))))
 refine tA (sb b1 (([5,m]:List Int).length) 2) r0 (tA Z35 r0 (nn (rt (fret (.tmp (.tmp .nil)) r0 ?_))))
 have e1:([5,m]:List Int)=[5,m]:=by rfl
 have e2:=congrArg List.length e1
 exact⟨(Z8 b1),2,(tup2 (slv r0 e2 r0) r0),(hs2.cast (lc (own_eq (g:=I) r0 e2 r0 e1) r0))⟩
theorem iLoginReply (f:Bool) (w:World):Does Tryz.prog 185 [.bool f] w (fun v w'=>∃ Ar:Option Addr,∃ cr:Nat,v=.slice Ar (lrB f).length cr∧SH w w' [] [.own Ar ((lrB f).length) cr 3 1 ((lrB f).map I)]):=by
 refine fE (N:=6) Tryz.func185 r0 (by kernel_rfl) r0 ?_
 have hs0:=SH.refl w []
 refine sr (tA ns r0 (nn (sq (sr (tm (.bool f) r0 (nn (cd r0 (fun h1=>?_) (fun h1=>?_))))))))
 ·refine sr (bsk hs0 sl24 [I 1,I 0] [I 1,I 0] trivial r0 (fun b1 w1 hs1=>?_))
  refine tA (sb b1 (([1,0]:List Int).length) 2) r0 (nn (rt (tR (fT (sb b1 (([1,0]:List Int).length) 2) r0 ?_))))
  have e1:([1,0]:List Int)=lrB f:=by simp[lrB,h1]
  have e2:=congrArg List.length e1
  exact⟨(Z8 b1),2,(slv r0 e2 r0),(hs1.cast (lc (own_eq (g:=I) r0 e2 r0 e1) r0))⟩
 refine sk (nN (sr (bsk hs0 sl24 [I 1,I 1] [I 1,I 1] trivial r0 (fun b2 w2 hs2=>?_))))
 refine tA (sb b2 (([1,1]:List Int).length) 2) r0 (nn (rt (fT (sb b2 (([1,1]:List Int).length) 2) r0 ?_)))
 have e3:([1,1]:List Int)=lrB f:=by simp[lrB,h1]
 have e4:=congrArg List.length e3
 exact⟨(Z8 b2),2,(slv r0 e4 r0),(hs2.cast (lc (own_eq (g:=I) r0 e4 r0 e3) r0))⟩
theorem sLoginReply (f:Bool) (w:World):Does Tryz.prog 153 [.bool f] w (fun v w'=>∃ Ar:Option Addr,∃ cr:Nat,v=.slice Ar (lrB f).length cr∧SH w w' [] [.own Ar ((lrB f).length) cr 3 1 ((lrB f).map I)]):=by
 refine fE (N:=6) Tryz.func153 r0 (by kernel_rfl) r0 ?_
 have hs0:=SH.refl w []
 refine sr (tA ns r0 (nn (sq (sr (tm (.bool f) r0 (nn (cd r0 (fun h1=>?_) (fun h1=>?_))))))))
 ·refine sr (bsk hs0 sl24 [I 1,I 0] [I 1,I 0] trivial r0 (fun b1 w1 hs1=>?_))
  refine tA (sb b1 (([1,0]:List Int).length) 2) r0 (nn (rt (tR (fT (sb b1 (([1,0]:List Int).length) 2) r0 ?_))))
  have e1:([1,0]:List Int)=lrB f:=by simp[lrB,h1]
  have e2:=congrArg List.length e1
  exact⟨(Z8 b1),2,(slv r0 e2 r0),(hs1.cast (lc (own_eq (g:=I) r0 e2 r0 e1) r0))⟩
 refine sk (nN (sr (bsk hs0 sl24 [I 1,I 1] [I 1,I 1] trivial r0 (fun b2 w2 hs2=>?_))))
 refine tA (sb b2 (([1,1]:List Int).length) 2) r0 (nn (rt (fT (sb b2 (([1,1]:List Int).length) 2) r0 ?_)))
 have e3:([1,1]:List Int)=lrB f:=by simp[lrB,h1]
 have e4:=congrArg List.length e3
 exact⟨(Z8 b2),2,(slv r0 e4 r0),(hs2.cast (lc (own_eq (g:=I) r0 e4 r0 e3) r0))⟩
theorem iHelloPick {Awt:Option Addr} {cwt:Nat} (wt:List Int) {Ams:Option Addr} {cms:Nat} (ms:List Int) (w:World) (hwt:Sl w [] 1 Awt wt.length cwt (wt.map I)) (hms:Sl w [] 1 Ams ms.length cms (ms.map I)):Does Tryz.prog 181 [.slice Awt wt.length cwt,.slice Ams ms.length cms] w (fun v w'=>v=.int .i64 (helloPick wt ms)∧SH w w' [] []):=by
 refine fE (N:=26) Tryz.func181 r0 (by kernel_rfl) r0 ?_
 have hs0:=SH.refl w []
 have hwt_m:wt.length≤9223372036854775807:=Nat.le_trans hwt.cap hwt.capMax
 have hms_m:ms.length≤9223372036854775807:=Nat.le_trans hms.cap hms.capMax
 refine sr (tA (I 0) r0 (nn (sq (sr (tm (Z14 Awt wt cwt) r0 (cS hs0 r0 (iAreMethods _ _ (hwt.up0 hs0)) (fun w1 hs1=>?_)))))))
 refine qt r0 (nt r0) (tm (.bool (!(methOk wt))) r0 (spl 10 r0 (fun h1=>?_) (fun h1=>?_)))
 ·have h2:=nbF h1
  exact gt5 r0 (gt5 r0 (gt5 r0 (qt r0 (pt (v:=.bool true) r0 r0) (nn (cdt r0 (sq (rg (tA (I 255) r0 (nn (rt (tR (fI r0 (Eq.symm (pick_bad (by simp[h2]))) hs1))))))))))))
 have h3:=nbT h1
 refine qh r0 (mv (v:=.slice Ams ms.length cms) r0) (cl ⟨_,rfl,rfl⟩ r0 (iAreMethods _ _ (hms.up0 hs1)) ?_)
 rintro _ w2 ⟨rfl,hs2⟩
 replace hs2:=hs1.call0 hs2
 refine qh r0 (nt r0) (qt r0 (pf (v:=.bool (!(methOk ms))) r0 r0) (nn (cd r0 (fun h4=>?_) (fun h4=>?_))))
 ·have h5:=nbF h4
  exact sr (tA (I 255) r0 (nn (rt (tR (fI r0 (Eq.symm (pick_bad (by simp[h3,h5]))) hs2)))))
 have h6:=nbT h4
 refine sk (nN (sq (sr (tm (Z14 Awt wt cwt) r0 (qt r0 (lnA sl24 r0) (tm (I 0) r0 (nn (bl (lp (σ:=Nat) (fun(k:Nat) f w'=>Hz f [(1,.slice Ams ms.length cms),(15,.slice Awt wt.length cwt),(16,I (wt.length:Int)),(17,I (k:Int))]∧(k≤wt.length)∧(∀ j,j<k→wt.getD j 0 ∉ ms)∧SH w w' [] []) (fun k=>wt.length-k) 0 ⟨(zR r0),(by simp),(by intro j hj; omega),hs2⟩ ?_)))))))))
 rintro k f w3 ⟨⟨g1,rfl⟩,hk,hn,hs3⟩
 refine sr (qt r0 (lss r0 r0) (nn (sq (cdd r0 (fun h7=>?_) (fun h7=>?_)))))
 ·refine sk (nN (sq (bl (sr (ixw1 k sl24 r0 r0 hwt (by omega) (getm I 0 (by omega)) trivial r0 (fun a1 ha1=>?_))))))
  refine qt r0 (lda hs3 ha1 (fun _ h=>h) r0 r0 one3) (tA (I (wt.getD k 0)) r0 (nx (tm (Z14 Ams ms cms) r0 (tm (I (wt.getD k 0)) r0 (cS hs3 r0 (slContains _ _ _ (hms.up0 hs3)) (fun w4 hs4=>?_))))))
  refine nn (cdd r0 (fun h8=>?_) (fun h8=>?_))
  ·exact sr (tm (I (wt.getD k 0)) r0 (tA (I (wt.getD k 0)) r0 (nn (rt (bR (tR (tR (bR (tR (fI r0 (Eq.symm (pick_yes ‹_› ‹_› (by omega) hn ‹_›)) hs4))))))))))
  refine sk (bN (nN (rg (qt r0 (add r0 r0 (by exact⟨by omega,by omega⟩)) (tm (I ((k:Int)+1)) r0 (nn ?_))))))
  refine⟨(k+1),⟨(zR r0),(by omega),(by intro j hj; rcases Nat.lt_succ_iff_lt_or_eq.1 hj with h | h; exact hn j h; subst h; assumption),hs4⟩,?_⟩
  omega
 refine ex (tE (tE (bE (nN (sr (tA (I 255) r0 (nn (rt (fT (I 255) r0 ?_)))))))))
 have e4:255=helloPick wt ms:=by exact Eq.symm (pick_none (by omega) hn)
 exact⟨(congrArg (Value.int .i64) e4),hs3⟩
theorem sL1Bytes {Azs:Option Addr} {czs:Nat} (zs:List Int) (w:World) (hzs:Sl w [] 1 Azs zs.length czs (zs.map I)) (hz: ∀ x∈zs,0≤x∧x≤255) (hzl:zs.length≤65535):Does Tryz.prog 94 [.slice Azs zs.length czs] w (fun v w'=>v=Str (bT zs)∧SH w w' [] []):=by
 refine fE (N:=22) Tryz.func94 r0 (by kernel_rfl) r0 ?_
 have hs0:=SH.refl w []
 have hzs_m:zs.length≤9223372036854775807:=Nat.le_trans hzs.cap hzs.capMax
 refine sr (tA (Str []) r0 (nx (bsk hs0 sl36 [] [] trivial r0 (fun b1 w1 hs1=>?_))))
 refine tA (sb b1 (([]:List UInt8).length) 0) r0 (nn (sq (sr (tA (I 0) r0 (nl (nN (bl ?_)))))))
 have e1:([]:List UInt8)=(bT zs).take 0:=by simp
 have e2:([]:List UInt8).length=((bT zs).take 0).length:=by rw[e1]
 refine lp (σ:=(Option Addr)×Nat×Nat) (fun⟨Ag3,cg3,k⟩ f w'=>Hz f [(0,.slice Azs zs.length czs),(3,.slice Ag3 (((bT zs).take k).length) cg3),(4,I (k:Int))]∧(k≤zs.length)∧SH w w' [] [.own Ag3 (((bT zs).take k).length) cg3 5 1 (((bT zs).take k).map U)]) (fun⟨Ag3,cg3,k⟩=>zs.length-k) ((Z8 b1),0,0) ⟨(zH ⟨rfl,(show (.slice (Z8 b1) (([]:List UInt8).length) 0:Value)=.slice (Z8 b1) (((bT zs).take 0).length) 0 from slv r0 e2 r0),rfl,trivial⟩),(by simp),(hs1.cast (lc (own_eq (g:=U) r0 e2 r0 e1) r0))⟩ ?_
 rintro ⟨Ag3,cg3,k⟩ f w2 ⟨⟨g1,rfl⟩,hk,hs2⟩
 refine sq (sr (tm (I (k:Int)) r0 (tm (Z14 Azs zs czs) r0 (qt r0 (lnA sl24 r0) (qt r0 (lss r0 r0) (nl (nN (cdd r0 (fun h1=>?_) (fun h1=>?_)))))))))
 ·refine sk (nN (sq (bl (rg (tm (.slice Ag3 (((bT zs).take k).length) cg3) r0 (tm (Z14 Azs zs czs) r0 (tm (I (k:Int)) r0 (ixw1 k sl24 r0 r0 hzs (by omega) (getm I 0 (by omega)) trivial r0 (fun a1 ha1=>?_)))))))))
  refine qt r0 (lda hs2 ha1 (fun _ h=>h) r0 r0 one3) (qt r0 (cvB (a:=zs.getD k 0) (s:=.i64) ti3 ti5 r0 (by have hgb:=getD_byte hz k; omega) (by have hgb:=getD_byte hz k; omega)) (bsk hs2 sl36 [.int .u8 (((UInt8.ofNat (zs.getD k 0).toNat).toNat:Nat):Int)] [.int .u8 (((UInt8.ofNat (zs.getD k 0).toNat).toNat:Nat):Int)] trivial r0 (fun b2 w3 hs3=>?_)))
  refine apm (g:=U) (ys:=(bT zs).take k) (zs:=([(UInt8.ofNat (zs.getD k 0).toNat)]:List UInt8)) hs3 0 r0 sl36 r0 r0 r0 (hs3.sl0 1 r0) (fun _=>rfl) (by unfold maxLen; have hbt:=bT_len zs; simp only[List.length_take,List.length_cons,List.length_nil]; omega) (by have hbt:=bT_len zs; simp only[List.length_take,List.length_cons,List.length_nil]; omega) trivial r0 (fun A1 c1 w4 hs4=>?_)
  refine tA (.slice A1 ((((bT zs).take k)++([(UInt8.ofNat (zs.getD k 0).toNat)]:List UInt8)).length) c1) r0 (nl (bN (nN (rg (tm (I (k:Int)) r0 (qt r0 (add r0 r0 (by exact⟨by omega,by omega⟩)) (tA (I ((k:Int)+1)) r0 (nn ?_))))))))
  have e3:((bT zs).take k)++([(UInt8.ofNat (zs.getD k 0).toNat)]:List UInt8)=(bT zs).take (k+1):=by exact bT_app (by omega)
  have e4:(((bT zs).take k)++([(UInt8.ofNat (zs.getD k 0).toNat)]:List UInt8)).length=((bT zs).take (k+1)).length:=by rw[e3]
  refine⟨(A1,c1,k+1),⟨(zH ⟨rfl,(show (.slice A1 ((((bT zs).take k)++([(UInt8.ofNat (zs.getD k 0).toNat)]:List UInt8)).length) c1:Value)=.slice A1 (((bT zs).take (k+1)).length) c1 from slv r0 e4 r0),rfl,trivial⟩),(by omega),((hs4.pq [1] r0).cast (lc (own_eq (g:=U) r0 e4 r0 e3) r0))⟩,?_⟩
  show zs.length-(k+1)<zs.length-k
  omega
 refine ex (tE (tE (bE (nN (sr (tm (.slice Ag3 (((bT zs).take k).length) cg3) r0 (qt r0 (cvS (l:=(bT zs).take k) us36 ti5 st9 r0 (hs2.sl0 0 r0)) (tA (Str ((bT zs).take k)) r0 (nn (rt (fT (Str ((bT zs).take k)) r0 ?_)))))))))))
 have e5:(bT zs).take k=bT zs:=by exact bT_all (by omega)
 exact⟨(congrArg (Str) e5),(hs2.pk [] r0)⟩
theorem sL1Of {Azs:Option Addr} {czs:Nat} (zs:List Int) (w:World) (hzs:Sl w [] 1 Azs zs.length czs (zs.map I)) (hz: ∀ x∈zs,0≤x∧x≤255) (hzl:zs.length≤2):Does Tryz.prog 140 [.slice Azs zs.length czs] w (fun v w'=>v=.int .i64 (ofB zs)∧SH w w' [] []):=by
 refine fE (N:=19) Tryz.func140 r0 (by kernel_rfl) r0 ?_
 have hs0:=SH.refl w []
 have hzs_m:zs.length≤9223372036854775807:=Nat.le_trans hzs.cap hzs.capMax
 refine sr (tA (I 0) r0 (nx (tA (I 0) r0 (nn (sq (sr (tA (I 0) r0 (nn (bl (lp (σ:=Nat) (fun(k:Nat) f w'=>Hz f [(0,.slice Azs zs.length czs),(3,I (ofB (zs.take k))),(4,I (k:Int))]∧(k≤zs.length)∧SH w w' [] []) (fun k=>zs.length-k) 0 ⟨(zH ⟨rfl,(show (I 0:Value)=I (ofB (zs.take 0)) from congrArg (Value.int .i64) (by rfl)),rfl,trivial⟩),(by simp),hs0⟩ ?_))))))))))
 rintro k f w1 ⟨⟨g1,rfl⟩,hk,hs1⟩
 refine sq (sr (tm (I (k:Int)) r0 (tm (Z14 Azs zs czs) r0 (qt r0 (lnA sl24 r0) (qt r0 (lss r0 r0) (nl (nN (cdd r0 (fun h1=>?_) (fun h1=>?_)))))))))
 ·refine sk (nN (sq (bl (rg (tm (I (ofB (zs.take k))) r0 (qt r0 (mul r0 r0 (by(have hob:=ofB_bd hz k hzl; have hgb:=getD_byte hz k; have hk1:k≤1:=(by omega); exact⟨by omega,by omega⟩))) (tm (Z14 Azs zs czs) r0 (tm (I (k:Int)) r0 (ixw1 k sl24 r0 r0 hzs (by omega) (getm I 0 (by omega)) trivial r0 (fun a1 ha1=>?_))))))))))
  refine qt r0 (lda hs1 ha1 (fun _ h=>h) r0 r0 one3) (qt r0 (add r0 r0 (by(have hob:=ofB_bd hz k hzl; have hgb:=getD_byte hz k; have hk1:k≤1:=(by omega); exact⟨by omega,by omega⟩))) (tA (I ((256*(ofB (zs.take k)))+(zs.getD k 0))) r0 (nl (bN (nN (rg (tm (I (k:Int)) r0 (qt r0 (add r0 r0 (by(exact⟨by omega,by omega⟩))) (tA (I ((k:Int)+1)) r0 (nn ?_))))))))))
  refine⟨(k+1),⟨(zH ⟨rfl,(show (I ((256*(ofB (zs.take k)))+(zs.getD k 0)):Value)=I (ofB (zs.take (k+1))) from congrArg (Value.int .i64) (by exact(ofB_take (by omega)).symm)),rfl,trivial⟩),(by omega),hs1⟩,?_⟩
  omega
 exact ex (tE (tE (bE (nN (sr (tm (I (ofB (zs.take k))) r0 (tA (I (ofB (zs.take k))) r0 (nn (rt (fI r0 (by rw[List.take_of_length_le (by omega)]) hs1))))))))))
theorem sHelloFrom {Abs:Option Addr} {cbs:Nat} (bs:List Int) (w:World) (hbs:Sl w [] 1 Abs bs.length cbs (bs.map I)):Does Tryz.prog 92 [.slice Abs bs.length cbs] w (fun v w'=>∃ Ar:Option Addr,∃ cr:Nat,v=.tuple #[.slice Ar ((helloFrom bs).1).length cr,.int .i64 ((helloFrom bs).2.1),.bool ((helloFrom bs).2.2)]∧SH w w' [] [.own Ar (((helloFrom bs).1).length) cr 3 1 (((helloFrom bs).1).map I)]):=by
 refine fE (N:=46) Tryz.func92 r0 (by kernel_rfl) r0 ?_
 have hs0:=SH.refl w []
 have hbs_m:bs.length≤9223372036854775807:=Nat.le_trans hbs.cap hbs.capMax
 refine sr (tA ns r0 (tA (I 0) r0 (tA Z6 r0 (nn (sq (sr (tm (Z14 Abs bs cbs) r0 (cS hs0 r0 (sBytesValid _ _ (hbs.up0 hs0)) (fun w1 hs1=>?_)))))))))
 refine qt r0 (nt r0) (tm (Z106 bs) r0 (spl 9 r0 (fun h1=>?_) (fun h1=>?_)))
 ·have h2:=nbF h1
  refine gt5 r0 (gt5 r0 (gt5 r0 (qt r0 (pt (v:=.bool true) r0 r0) (tm Z35 r0 (gt5 r0 (gt5 r0 (gt5 r0 (gt5 r0 (qt r0 (pt (v:=.bool true) r0 r0) (tm Z35 r0 (gt5 r0 (gt5 r0 (gt5 r0 (gt5 r0 (gt5 r0 (gt5 r0 (gt5 r0 (qt r0 (pt (v:=.bool true) r0 r0) (nn (cdt r0 (sr (bsk hs1 sl24 [] [] trivial r0 (fun b1 w2 hs2=>?_)))))))))))))))))))))))
  refine tA (sb b1 (([]:List Int).length) 0) r0 (tA (I 0) r0 (tA Z6 r0 (nn (rt (tR (fret (.tmp (.tmp (.tmp .nil))) r0 ?_))))))
  have e1:helloFrom bs=(([]:List Int),0,false):=by exact hello_n (.inl ‹_›)
  rw[e1]
  exact⟨(Z8 b1),0,rfl,hs2⟩
 have h3:=nbT h1
 refine qh r0 (mv (v:=.slice Abs bs.length cbs) r0) (qh r0 (lnA sl24 r0) (qh r0 (lss r0 r0) (qt r0 (pf (v:=.bool (decide ((bs.length:Int)<3))) r0 r0) (tm (.bool (decide ((bs.length:Int)<3))) r0 (spd 14 r0 (fun h4=>?_) (fun h4=>?_))))))
 ·refine gt5 r0 (gt5 r0 (gt5 r0 (gt5 r0 (qt r0 (pt (v:=.bool true) r0 r0) (tm Z35 r0 (gt5 r0 (gt5 r0 (gt5 r0 (gt5 r0 (gt5 r0 (gt5 r0 (gt5 r0 (qt r0 (pt (v:=.bool true) r0 r0) (nn (cdt r0 (sr (bsk hs1 sl24 [] [] trivial r0 (fun b2 w3 hs3=>?_))))))))))))))))))
  refine tA (sb b2 (([]:List Int).length) 0) r0 (tA (I 0) r0 (tA Z6 r0 (nn (rt (tR (fret (.tmp (.tmp (.tmp .nil))) r0 ?_))))))
  have e2:helloFrom bs=(([]:List Int),0,false):=by exact hello_n (.inr (.inl (by omega)))
  rw[e2]
  exact⟨(Z8 b2),0,rfl,hs3⟩
 refine qh r0 (mv (v:=.slice Abs bs.length cbs) r0) (ixw1 0 sl24 r0 r0 hbs (by omega) (getm I 0 (by omega)) ⟨_,rfl,rfl⟩ r0 (fun a1 ha1=>?_))
 refine qh r0 (lda hs1 ha1 (fun _ h=>h) r0 r0 one3) (qh r0 (nei r0 r0) (qt r0 (pf (v:=.bool (decide ((bs.getD 0 0)≠5))) r0 r0) (tm (.bool (decide ((bs.getD 0 0)≠5))) r0 (spd 20 r0 (fun h5=>?_) (fun h5=>?_)))))
 ·refine gt5 r0 (gt5 r0 (gt5 r0 (gt5 r0 (gt5 r0 (gt5 r0 (gt5 r0 (qt r0 (pt (v:=.bool true) r0 r0) (nn (cdt r0 (sr (bsk hs1 sl24 [] [] trivial r0 (fun b3 w4 hs4=>?_))))))))))))
  refine tA (sb b3 (([]:List Int).length) 0) r0 (tA (I 0) r0 (tA Z6 r0 (nn (rt (tR (fret (.tmp (.tmp (.tmp .nil))) r0 ?_))))))
  have e3:helloFrom bs=(([]:List Int),0,false):=by exact hello_n (.inr (.inr (.inl ‹_›)))
  rw[e3]
  exact⟨(Z8 b3),0,rfl,hs4⟩
 refine qh r0 (mv (v:=.slice Abs bs.length cbs) r0) (ixw1 1 sl24 r0 r0 hbs (by omega) (getm I 0 (by omega)) ⟨_,rfl,rfl⟩ r0 (fun a2 ha2=>?_))
 refine qh r0 (lda hs1 ha2 (fun _ h=>h) r0 r0 one3) (qh r0 (mv (v:=.slice Abs bs.length cbs) r0) (qh r0 (lnA sl24 r0) (qh r0 (sub r0 r0 (by(exact⟨by omega,by omega⟩))) (qh r0 (gtr r0 r0) (qt r0 (pf (v:=.bool (decide (((bs.length:Int)-2)<(bs.getD 1 0)))) r0 r0) (nn (cdd r0 (fun h6=>?_) (fun h6=>?_))))))))
 ·refine sr (bsk hs1 sl24 [] [] trivial r0 (fun b4 w5 hs5=>?_))
  refine tA (sb b4 (([]:List Int).length) 0) r0 (tA (I 0) r0 (tA Z6 r0 (nn (rt (tR (fret (.tmp (.tmp (.tmp .nil))) r0 ?_))))))
  have e4:helloFrom bs=(([]:List Int),0,false):=by exact hello_n (.inr (.inr (.inr (.inl (by omega)))))
  rw[e4]
  exact⟨(Z8 b4),0,rfl,hs5⟩
 refine sk (nN (sr (bsk hs1 sl24 [] [] trivial r0 (fun b5 w6 hs6=>?_))))
 refine tm (Z14 Abs bs cbs) r0 (tm (Z14 Abs bs cbs) r0 (ixw1 1 sl24 r0 r0 hbs (by omega) (getm I 0 (by omega)) trivial r0 (fun a3 ha3=>?_)))
 have hg1:=isBytes_get (by assumption:isBytes bs=true) (k:=1) (by omega)
 refine qt r0 (lda hs6 ha3 (fun _ h=>h) r0 r0 one3) (qt r0 (add r0 r0 (by (try simp only[List.length_drop,List.length_take]); have hbl:=isBytes_len (by assumption:isBytes bs=true); exact⟨by omega,by omega⟩)) (qt r0 (cum (zs:=bs) 2 ((2+(bs.getD 1 0)).toNat) sl24 r0 r0 (ieq (x:=2+(bs.getD 1 0)) (by omega)) (by omega) (by omega) hbs.cap) (apm (g:=I) (ys:=([]:List Int)) (zs:=(bs.take ((2+(bs.getD 1 0)).toNat)).drop 2) hs6 0 r0 sl24 r0 r0 r0 (Sl.cutm (hbs.up0 hs6) (by omega) (by omega)) (fun _=>rfl) (by unfold maxLen; simp only[List.length_nil,List.length_drop,List.length_take]; have hbl:=isBytes_len (by assumption:isBytes bs=true); omega) (by simp only[List.length_nil,List.length_drop,List.length_take]; have hbl:=isBytes_len (by assumption:isBytes bs=true); omega) trivial r0 (fun A1 c1 w7 hs7=>?_))))
 refine tA (.slice A1 ((Z79 bs).length) c1) r0 (nn (sq (sr (tm (.slice A1 ((Z79 bs).length) c1) r0 (cS hs7 r0 (sL5Ok _ _ (hs7.sl0 0 r0)) (fun w8 hs8=>?_))))))
 refine qt r0 (nt r0) (nn (cd r0 (fun h7=>?_) (fun h7=>?_)))
 ·have h8:=nbF h7
  refine sr (bsk hs8 sl24 [] [] trivial r0 (fun b6 w9 hs9=>?_))
  refine tA (sb b6 (([]:List Int).length) 0) r0 (tA (I 0) r0 (tA Z6 r0 (nn (rt (tR (fret (.tmp (.tmp (.tmp .nil))) r0 ?_))))))
  have e5:helloFrom bs=(([]:List Int),0,false):=by exact hello_n (.inr (.inr (.inr (.inr ⟨by assumption,by omega,by assumption⟩))))
  rw[e5]
  exact⟨(Z8 b6),0,rfl,(hs9.pk [1] r0)⟩
 have h9:=nbT h7
 refine sk (nN (sr (tm (.slice A1 ((Z79 bs).length) c1) r0 (tm (.slice A1 ((Z79 bs).length) c1) r0 (qt r0 (lnA sl24 r0) (qt r0 (add r0 r0 (by (try simp only[List.length_drop,List.length_take]); have hbl:=isBytes_len (by assumption:isBytes bs=true); exact⟨by omega,by omega⟩)) (tA (.slice A1 ((Z79 bs).length) c1) r0 (tA (I (2+(((Z79 bs).length:Nat):Int))) r0 (tA Z35 r0 (nn (rt (fret (.tmp (.tmp (.tmp .nil))) r0 ?_))))))))))))
 have e6:helloFrom bs=((bs.take ((2+(bs.getD 1 0)).toNat)).drop 2,2+(((Z79 bs).length:Nat):Int),true):=by exact hello_y ‹_› (by omega) (Decidable.not_not.1 ‹_›) (by omega) ‹_›
 rw[e6]
 exact⟨A1,c1,rfl,hs8⟩
theorem sHelloPick {Awt:Option Addr} {cwt:Nat} (wt:List Int) {Ams:Option Addr} {cms:Nat} (ms:List Int) (w:World) (hwt:Sl w [] 1 Awt wt.length cwt (wt.map I)) (hms:Sl w [] 1 Ams ms.length cms (ms.map I)):Does Tryz.prog 149 [.slice Awt wt.length cwt,.slice Ams ms.length cms] w (fun v w'=>v=.int .i64 (helloPick wt ms)∧SH w w' [] []):=by
 refine fE (N:=30) Tryz.func149 r0 (by kernel_rfl) r0 ?_
 have hs0:=SH.refl w []
 have hwt_m:wt.length≤9223372036854775807:=Nat.le_trans hwt.cap hwt.capMax
 have hms_m:ms.length≤9223372036854775807:=Nat.le_trans hms.cap hms.capMax
 refine sr (tA (I 0) r0 (nn (sq (sr (tm (Z14 Awt wt cwt) r0 (cS hs0 r0 (sL5Ok _ _ (hwt.up0 hs0)) (fun w1 hs1=>?_)))))))
 refine qt r0 (nt r0) (tm (.bool (!(methOk wt))) r0 (spl 9 r0 (fun h1=>?_) (fun h1=>?_)))
 ·have h2:=nbF h1
  exact gt5 r0 (gt5 r0 (gt5 r0 (qt r0 (pt (v:=.bool true) r0 r0) (nn (cdt r0 (sq (rg (tA (I 255) r0 (nn (rt (tR (fI r0 (Eq.symm (pick_bad (by simp[h2]))) hs1))))))))))))
 have h3:=nbT h1
 refine qh r0 (mv (v:=.slice Ams ms.length cms) r0) (cl ⟨_,rfl,rfl⟩ r0 (sL5Ok _ _ (hms.up0 hs1)) ?_)
 rintro _ w2 ⟨rfl,hs2⟩
 replace hs2:=hs1.call0 hs2
 refine qh r0 (nt r0) (qt r0 (pf (v:=.bool (!(methOk ms))) r0 r0) (nn (cd r0 (fun h4=>?_) (fun h4=>?_))))
 ·have h5:=nbF h4
  exact sr (tA (I 255) r0 (nn (rt (tR (fI r0 (Eq.symm (pick_bad (by simp[h3,h5]))) hs2)))))
 have h6:=nbT h4
 refine sk (nN (sq (sr (tA (I 0) r0 (nn (bl (lp (σ:=Nat) (fun(k:Nat) f w'=>Hz f [(0,.slice Awt wt.length cwt),(1,.slice Ams ms.length cms),(5,I (k:Int))]∧(k≤wt.length)∧(∀ j,j<k→wt.getD j 0 ∉ ms)∧SH w w' [] []) (fun k=>wt.length-k) 0 ⟨(zR r0),(by simp),(by intro j hj; omega),hs2⟩ ?_)))))))
 rintro k f w3 ⟨⟨g1,rfl⟩,hk,hn,hs3⟩
 refine sq (sr (tm (I (k:Int)) r0 (tm (Z14 Awt wt cwt) r0 (qt r0 (lnA sl24 r0) (qt r0 (lss r0 r0) (nl (nN (cdd r0 (fun h7=>?_) (fun h7=>?_)))))))))
 ·refine sk (nN (sq (bl (sr (tm (Z14 Ams ms cms) r0 (tm (Z14 Awt wt cwt) r0 (tm (I (k:Int)) r0 (ixw1 k sl24 r0 r0 hwt (by omega) (getm I 0 (by omega)) trivial r0 (fun a1 ha1=>?_)))))))))
  refine qt r0 (lda hs3 ha1 (fun _ h=>h) r0 r0 one3) (cS hs3 r0 (l5Has _ _ _ (hms.up0 hs3)) (fun w4 hs4=>?_))
  refine nn (cdd r0 (fun h8=>?_) (fun h8=>?_))
  ·refine sr (tm (Z14 Awt wt cwt) r0 (tm (I (k:Int)) r0 (ixw1 k sl24 r0 r0 hwt (by omega) (getm I 0 (by omega)) trivial r0 (fun a2 ha2=>?_))))
   exact qt r0 (lda hs4 ha2 (fun _ h=>h) r0 r0 one3) (tA (I (wt.getD k 0)) r0 (nn (rt (bR (tR (tR (bR (tR (fI r0 (Eq.symm (pick_yes ‹_› ‹_› (by omega) hn ‹_›)) hs4)))))))))
  refine sk (bN (nN (rg (tm (I (k:Int)) r0 (qt r0 (add r0 r0 (by exact⟨by omega,by omega⟩)) (tA (I ((k:Int)+1)) r0 (nl (nN ?_))))))))
  refine⟨(k+1),⟨(zR r0),(by omega),(by intro j hj; rcases Nat.lt_succ_iff_lt_or_eq.1 hj with h | h; exact hn j h; subst h; assumption),hs4⟩,?_⟩
  omega
 refine ex (tE (tE (bE (nN (sr (tA (I 255) r0 (nn (rt (fT (I 255) r0 ?_)))))))))
 have e4:255=helloPick wt ms:=by exact Eq.symm (pick_none (by omega) hn)
 exact⟨(congrArg (Value.int .i64) e4),hs3⟩
set_option maxHeartbeats 8000000 in
theorem sLoginFrom {Abs:Option Addr} {cbs:Nat} (bs:List Int) (w:World) (hbs:Sl w [] 1 Abs bs.length cbs (bs.map I)):Does Tryz.prog 151 [.slice Abs bs.length cbs] w (fun v w'=>v=.tuple #[.agg #[Str ((loginFrom bs).1.1),Str ((loginFrom bs).1.2)],.int .i64 ((loginFrom bs).2.1),.bool ((loginFrom bs).2.2)]∧SH w w' [] []):=by
 refine fE (N:=71) Tryz.func151 r0 (by kernel_rfl) r0 ?_
 have hs0:=SH.refl w []
 have hbs_m:bs.length≤9223372036854775807:=Nat.le_trans hbs.cap hbs.capMax
 refine sr (al (cs:=Z65) hs0 tz31 r0 trivial r0 (fun b1 w1 hs1=>?_))
 refine tA (I 0) r0 (tA Z6 r0 (nn (sq (sr (tm (Z14 Abs bs cbs) r0 (cS hs1 r0 (sBytesValid _ _ (hbs.up0 hs1)) (fun w2 hs2=>?_)))))))
 refine qt r0 (nt r0) (tm (Z106 bs) r0 (spl 11 r0 (fun h1=>?_) (fun h1=>?_)))
 ·have h2:=nbF h1
  refine gt5 r0 (gt5 r0 (gt5 r0 (qt r0 (pt (v:=.bool true) r0 r0) (tm Z35 r0 (gt5 r0 (gt5 r0 (gt5 r0 (gt5 r0 (qt r0 (pt (v:=.bool true) r0 r0) (tm Z35 r0 (gt5 r0 (gt5 r0 (gt5 r0 (gt5 r0 (gt5 r0 (gt5 r0 (gt5 r0 (qt r0 (pt (v:=.bool true) r0 r0) (nn (cdt r0 (sr (qt r0 (bdv (v:=.agg #[Str [],Str []]) [] r0 (fun _=>by kernel_rfl)) (sG Z65 hs2 0 r0 ag31 (fun w3 hs3=>?_))))))))))))))))))))))))
  refine tA (I 0) r0 (tA Z6 r0 (nn (rt (tR (fret (resC hs3 0 r0 r0 ag31 r0 (.tmp (.tmp .nil))) r0 ?_)))))
  have e1:loginFrom bs=(([],[]),0,false):=by exact login_no (.inl ‹_›)
  rw[e1]
  exact⟨rfl,(hs3.pk [] r0)⟩
 have h3:=nbT h1
 refine qh r0 (mv (v:=.slice Abs bs.length cbs) r0) (qh r0 (lnA sl24 r0) (qh r0 (lss r0 r0) (qt r0 (pf (v:=.bool (decide ((bs.length:Int)<5))) r0 r0) (tm (.bool (decide ((bs.length:Int)<5))) r0 (spd 16 r0 (fun h4=>?_) (fun h4=>?_))))))
 ·refine gt5 r0 (gt5 r0 (gt5 r0 (gt5 r0 (qt r0 (pt (v:=.bool true) r0 r0) (tm Z35 r0 (gt5 r0 (gt5 r0 (gt5 r0 (gt5 r0 (gt5 r0 (gt5 r0 (gt5 r0 (qt r0 (pt (v:=.bool true) r0 r0) (nn (cdt r0 (sr (qt r0 (bdv (v:=.agg #[Str [],Str []]) [] r0 (fun _=>by kernel_rfl)) (sG Z65 hs2 0 r0 ag31 (fun w4 hs4=>?_)))))))))))))))))))
  refine tA (I 0) r0 (tA Z6 r0 (nn (rt (tR (fret (resC hs4 0 r0 r0 ag31 r0 (.tmp (.tmp .nil))) r0 ?_)))))
  have e2:loginFrom bs=(([],[]),0,false):=by exact login_no (.inr (.inl (by omega)))
  rw[e2]
  exact⟨rfl,(hs4.pk [] r0)⟩
 refine qh r0 (mv (v:=.slice Abs bs.length cbs) r0) (ixw1 0 sl24 r0 r0 hbs (by omega) (getm I 0 (by omega)) ⟨_,rfl,rfl⟩ r0 (fun a1 ha1=>?_))
 refine qh r0 (lda hs2 ha1 (fun _ h=>h) r0 r0 one3) (qh r0 (nei r0 r0) (qt r0 (pf (v:=.bool (decide ((bs.getD 0 0)≠1))) r0 r0) (tm (.bool (decide ((bs.getD 0 0)≠1))) r0 (spd 22 r0 (fun h5=>?_) (fun h5=>?_)))))
 ·refine gt5 r0 (gt5 r0 (gt5 r0 (gt5 r0 (gt5 r0 (gt5 r0 (gt5 r0 (qt r0 (pt (v:=.bool true) r0 r0) (nn (cdt r0 (sr (qt r0 (bdv (v:=.agg #[Str [],Str []]) [] r0 (fun _=>by kernel_rfl)) (sG Z65 hs2 0 r0 ag31 (fun w5 hs5=>?_)))))))))))))
  refine tA (I 0) r0 (tA Z6 r0 (nn (rt (tR (fret (resC hs5 0 r0 r0 ag31 r0 (.tmp (.tmp .nil))) r0 ?_)))))
  have e3:loginFrom bs=(([],[]),0,false):=by exact login_no (.inr (.inr (.inl ‹_›)))
  rw[e3]
  exact⟨rfl,(hs5.pk [] r0)⟩
 refine qh r0 (mv (v:=.slice Abs bs.length cbs) r0) (ixw1 1 sl24 r0 r0 hbs (by omega) (getm I 0 (by omega)) ⟨_,rfl,rfl⟩ r0 (fun a2 ha2=>?_))
 refine qh r0 (lda hs2 ha2 (fun _ h=>h) r0 r0 one3) (qh r0 (mv (v:=.slice Abs bs.length cbs) r0) (qh r0 (lnA sl24 r0) (qh r0 (sub r0 r0 (by(exact⟨by omega,by omega⟩))) (qh r0 (gtr r0 r0) (qt r0 (pf (v:=.bool (decide (((bs.length:Int)-3)<(bs.getD 1 0)))) r0 r0) (nn (cdd r0 (fun h6=>?_) (fun h6=>?_))))))))
 ·refine sr (qt r0 (bdv (v:=.agg #[Str [],Str []]) [] r0 (fun _=>by kernel_rfl)) (sG Z65 hs2 0 r0 ag31 (fun w6 hs6=>?_)))
  refine tA (I 0) r0 (tA Z6 r0 (nn (rt (tR (fret (resC hs6 0 r0 r0 ag31 r0 (.tmp (.tmp .nil))) r0 ?_)))))
  have e4:loginFrom bs=(([],[]),0,false):=by exact login_no (.inr (.inr (.inr (.inl (by omega)))))
  rw[e4]
  exact⟨rfl,(hs6.pk [] r0)⟩
 refine sk (nN (sr (tm (Z14 Abs bs cbs) r0 (ixw1 1 sl24 r0 r0 hbs (by omega) (getm I 0 (by omega)) trivial r0 (fun a3 ha3=>?_)))))
 refine qt r0 (lda hs2 ha3 (fun _ h=>h) r0 r0 one3) (qt r0 (add r0 r0 (by(((have hg1:=isBytes_get (by assumption:isBytes bs=true) (k:=1) (by omega); have hg2:=isBytes_get (by assumption:isBytes bs=true) (k:=2+(bs.getD 1 0).toNat) (by omega); have hbl:=isBytes_len (by assumption:isBytes bs=true))); exact⟨by omega,by omega⟩))) (tA (I (2+(bs.getD 1 0))) r0 ?_))
 have e5:2+(bs.getD 1 0)=((2+(bs.getD 1 0).toNat:Nat):Int):=by have hg1:=isBytes_get (by assumption:isBytes bs=true) (k:=1) (by omega); omega
 refine re 5 (v:=I ((2+(bs.getD 1 0).toNat:Nat):Int)) (congrArg (Value.int .i64) e5) (nn (sq (sr (tm (Z14 Abs bs cbs) r0 (tm (I ((2+(bs.getD 1 0).toNat:Nat):Int)) r0 (ixw1 (2+(bs.getD 1 0).toNat) sl24 r0 r0 hbs (by omega) (getm I 0 (by omega)) trivial r0 (fun a4 ha4=>?_)))))))
 refine qt r0 (lda hs2 ha4 (fun _ h=>h) r0 r0 one3) (tm (Z14 Abs bs cbs) r0 (qt r0 (lnA sl24 r0) (tm (I ((2+(bs.getD 1 0).toNat:Nat):Int)) r0 (qt r0 (sub r0 r0 (by(exact⟨by omega,by omega⟩))) (qt r0 (sub r0 r0 (by(exact⟨by omega,by omega⟩))) (qt r0 (gtr r0 r0) (nl (nN (cdd r0 (fun h7=>?_) (fun h7=>?_))))))))))
 ·refine sr (qt r0 (bdv (v:=.agg #[Str [],Str []]) [] r0 (fun _=>by kernel_rfl)) (sG Z65 hs2 0 r0 ag31 (fun w7 hs7=>?_)))
  refine tA (I 0) r0 (tA Z6 r0 (nn (rt (tR (fret (resC hs7 0 r0 r0 ag31 r0 (.tmp (.tmp .nil))) r0 ?_)))))
  have e6:loginFrom bs=(([],[]),0,false):=by exact login_no (.inr (.inr (.inr (.inr (by omega)))))
  rw[e6]
  exact⟨rfl,(hs7.pk [] r0)⟩
 refine sk (nN (sr (tm (I ((2+(bs.getD 1 0).toNat:Nat):Int)) r0 (qt r0 (add r0 r0 (by(exact⟨by omega,by omega⟩))) (tm (Z14 Abs bs cbs) r0 (tm (I ((2+(bs.getD 1 0).toNat:Nat):Int)) r0 (ixw1 (2+(bs.getD 1 0).toNat) sl24 r0 r0 hbs (by omega) (getm I 0 (by omega)) trivial r0 (fun a5 ha5=>?_))))))))
 refine qt r0 (lda hs2 ha5 (fun _ h=>h) r0 r0 one3) (qt r0 (add r0 r0 (by(((have hg1:=isBytes_get (by assumption:isBytes bs=true) (k:=1) (by omega); have hg2:=isBytes_get (by assumption:isBytes bs=true) (k:=2+(bs.getD 1 0).toNat) (by omega); have hbl:=isBytes_len (by assumption:isBytes bs=true))); exact⟨by omega,by omega⟩))) (tA (I ((((2+(bs.getD 1 0).toNat:Nat):Int)+1)+(bs.getD (2+(bs.getD 1 0).toNat) 0))) r0 ?_))
 have e7:(((2+(bs.getD 1 0).toNat:Nat):Int)+1)+(bs.getD (2+(bs.getD 1 0).toNat) 0)=((2+(bs.getD 1 0).toNat+1+(bs.getD (2+(bs.getD 1 0).toNat) 0).toNat:Nat):Int):=by have hg1:=isBytes_get (by assumption:isBytes bs=true) (k:=1) (by omega); have hg2:=isBytes_get (by assumption:isBytes bs=true) (k:=2+(bs.getD 1 0).toNat) (by omega); have hbl:=isBytes_len (by assumption:isBytes bs=true); omega
 refine re 6 (v:=I ((2+(bs.getD 1 0).toNat+1+(bs.getD (2+(bs.getD 1 0).toNat) 0).toNat:Nat):Int)) (congrArg (Value.int .i64) e7) (nn (sq ?_))
 refine raJ (fun w'=>∃ L,SH w w' [] L∧(.blk b1 31 Z65)∈L∧True) (fun f w'=>∃ (b11':Nat),Hz f [(2,pB b1),(6,I ((2+(bs.getD 1 0).toNat+1+(bs.getD (2+(bs.getD 1 0).toNat) 0).toNat:Nat):Int)),(7,pB b11')]∧SH w w' [] [.blk b1 31 Z65,.blk b11' 31 [Str (Z57 bs),Str (Z30 bs)]]) mixed ?_ ?_
 ·refine dG 1 13 4095 (fun f w'=>∃ (b11':Nat),Hz f [(2,pB b1),(6,I ((2+(bs.getD 1 0).toNat+1+(bs.getD (2+(bs.getD 1 0).toNat) 0).toNat:Nat):Int)),(7,pB b11'),(64,.agg #[Str (Z57 bs),Str (Z30 bs)])]∧SH w w' [] [.blk b1 31 Z65,.blk b11' 31 Z65]) ?_ (fun D_7_0=>?_)
  ·rintro f w8 ⟨b11',⟨g1,rfl⟩,hs8⟩
   refine aO 12 r0 (sG [Str (Z57 bs),Str (Z30 bs)] hs8 1 r0 ag31 (fun w9 hs9=>?_))
   refine nk (m1 hs9 0 r0) (ad (by kernel_rfl) ?_)
   exact⟨b11',(zR r0),hs9⟩
  refine dG 2 13 2047 (fun f w'=>Hz f [(2,pB b1),(6,I ((2+(bs.getD 1 0).toNat+1+(bs.getD (2+(bs.getD 1 0).toNat) 0).toNat:Nat):Int)),(64,.agg #[Str (Z57 bs),Str (Z30 bs)])]∧SH w w' [] [.blk b1 31 Z65]) ?_ (fun D_7_1=>?_)
  ·rintro f w10 ⟨⟨g2,rfl⟩,hs10⟩
   refine aO 11 r0 (al (cs:=Z65) hs10 tz31 r0 trivial r0 (fun b11' w11 hs11=>?_))
   exact nk (m1 hs11 0 r0) (alc D_7_0 ⟨b11',(zR r0),hs11⟩)
  refine dG 3 13 2559 (fun f w'=>∃ (b11':Nat),Hz f [(2,pB b1),(6,I ((2+(bs.getD 1 0).toNat+1+(bs.getD (2+(bs.getD 1 0).toNat) 0).toNat:Nat):Int)),(7,pB b11'),(57,Str (Z57 bs)),(62,.slice (if cbs=(2+(bs.getD 1 0).toNat)+1 then Abs else Abs.map (·.add (((2+(bs.getD 1 0).toNat)+1)*1))) (((bs.take (2+(bs.getD 1 0).toNat+1+(bs.getD (2+(bs.getD 1 0).toNat) 0).toNat)).drop ((2+(bs.getD 1 0).toNat)+1)).length) (cbs-((2+(bs.getD 1 0).toNat)+1)))]∧SH w w' [] [.blk b1 31 Z65,.blk b11' 31 Z65]) ?_ (fun D_7_2=>?_)
  ·rintro f w12 ⟨b11',⟨g3,rfl⟩,hs12⟩
   refine aO 9 r0 (cS hs12 r0 (sL1Bytes _ _ (Sl.cutm (hbs.up0 hs12) (by omega) (by omega)) (by intro x hx; exact(isBytes_iff.1 (by assumption:isBytes bs=true)).1 x (List.mem_of_mem_take (List.mem_of_mem_drop hx))) (by have hbl:=isBytes_len (by assumption:isBytes bs=true); simp only[List.length_drop,List.length_take]; omega)) (fun w13 hs13=>?_))
   exact nk (m1 hs13 0 r0) (tk (fuel:=1) (is:=[10]) (.cons r0 (.nil)) (by kernel_rfl) (by kernel_rfl) (m1 hs13 0 r0) (yA r0 (bdv (v:=.agg #[Str (Z57 bs),Str (Z30 bs)]) [(0,Str (Z57 bs)),(1,Str (Z30 bs))] r0 (fun _=>by kernel_rfl)) (.nil (alc D_7_0 ⟨b11',(zR r0),hs13⟩))))
  refine dG 4 13 511 (fun f w'=>Hz f [(2,pB b1),(6,I ((2+(bs.getD 1 0).toNat+1+(bs.getD (2+(bs.getD 1 0).toNat) 0).toNat:Nat):Int)),(57,Str (Z57 bs)),(62,.slice (if cbs=(2+(bs.getD 1 0).toNat)+1 then Abs else Abs.map (·.add (((2+(bs.getD 1 0).toNat)+1)*1))) (((bs.take (2+(bs.getD 1 0).toNat+1+(bs.getD (2+(bs.getD 1 0).toNat) 0).toNat)).drop ((2+(bs.getD 1 0).toNat)+1)).length) (cbs-((2+(bs.getD 1 0).toNat)+1)))]∧SH w w' [] [.blk b1 31 Z65]) ?_ (fun D_7_3=>?_)
  ·rintro f w14 ⟨⟨g4,rfl⟩,hs14⟩
   refine aaL [9,11] (fa_cons ?_ (fa_one ?_))
   ·refine one_ r0 (cS hs14 r0 (sL1Bytes _ _ (Sl.cutm (hbs.up0 hs14) (by omega) (by omega)) (by intro x hx; exact(isBytes_iff.1 (by assumption:isBytes bs=true)).1 x (List.mem_of_mem_take (List.mem_of_mem_drop hx))) (by have hbl:=isBytes_len (by assumption:isBytes bs=true); simp only[List.length_drop,List.length_take]; omega)) (fun w15 hs15=>?_))
    exact nk (m1 hs15 0 r0) (tk (fuel:=2) (is:=[10]) (.cons r0 (.nil)) (by kernel_rfl) (by kernel_rfl) (m1 hs15 0 r0) (yA r0 (bdv (v:=.agg #[Str (Z57 bs),Str (Z30 bs)]) [(0,Str (Z57 bs)),(1,Str (Z30 bs))] r0 (fun _=>by kernel_rfl)) (.nil (alc D_7_1 ⟨(zR r0),hs15⟩))))
   refine one_ r0 (al (cs:=Z65) hs14 tz31 r0 trivial r0 (fun b11' w16 hs16=>?_))
   exact nk (m1 hs16 0 r0) (alc D_7_2 ⟨b11',(zR r0),hs16⟩)
  refine dG 4 13 2551 (fun f w'=>∃ (b11':Nat),Hz f [(2,pB b1),(6,I ((2+(bs.getD 1 0).toNat+1+(bs.getD (2+(bs.getD 1 0).toNat) 0).toNat:Nat):Int)),(7,pB b11'),(56,.slice (if cbs=2 then Abs else Abs.map (·.add (2*1))) (((bs.take (2+(bs.getD 1 0).toNat)).drop 2).length) (cbs-2)),(62,.slice (if cbs=(2+(bs.getD 1 0).toNat)+1 then Abs else Abs.map (·.add (((2+(bs.getD 1 0).toNat)+1)*1))) (((bs.take (2+(bs.getD 1 0).toNat+1+(bs.getD (2+(bs.getD 1 0).toNat) 0).toNat)).drop ((2+(bs.getD 1 0).toNat)+1)).length) (cbs-((2+(bs.getD 1 0).toNat)+1)))]∧SH w w' [] [.blk b1 31 Z65,.blk b11' 31 Z65]) ?_ (fun D_7_4=>?_)
  ·rintro f w17 ⟨b11',⟨g5,rfl⟩,hs17⟩
   refine aO 3 r0 (cS hs17 r0 (sL1Bytes _ _ (Sl.cutm (hbs.up0 hs17) (by omega) (by omega)) (by intro x hx; exact(isBytes_iff.1 (by assumption:isBytes bs=true)).1 x (List.mem_of_mem_take (List.mem_of_mem_drop hx))) (by have hbl:=isBytes_len (by assumption:isBytes bs=true); simp only[List.length_drop,List.length_take]; omega)) (fun w18 hs18=>?_))
   exact nk (m1 hs18 0 r0) (alc D_7_2 ⟨b11',(zR r0),hs18⟩)
  refine dG 5 13 503 (fun f w'=>Hz f [(2,pB b1),(6,I ((2+(bs.getD 1 0).toNat+1+(bs.getD (2+(bs.getD 1 0).toNat) 0).toNat:Nat):Int)),(56,.slice (if cbs=2 then Abs else Abs.map (·.add (2*1))) (((bs.take (2+(bs.getD 1 0).toNat)).drop 2).length) (cbs-2)),(62,.slice (if cbs=(2+(bs.getD 1 0).toNat)+1 then Abs else Abs.map (·.add (((2+(bs.getD 1 0).toNat)+1)*1))) (((bs.take (2+(bs.getD 1 0).toNat+1+(bs.getD (2+(bs.getD 1 0).toNat) 0).toNat)).drop ((2+(bs.getD 1 0).toNat)+1)).length) (cbs-((2+(bs.getD 1 0).toNat)+1)))]∧SH w w' [] [.blk b1 31 Z65]) ?_ (fun D_7_5=>?_)
  ·rintro f w19 ⟨⟨g6,rfl⟩,hs19⟩
   refine aaL [3,11] (fa_cons ?_ (fa_one ?_))
   ·refine one_ r0 (cS hs19 r0 (sL1Bytes _ _ (Sl.cutm (hbs.up0 hs19) (by omega) (by omega)) (by intro x hx; exact(isBytes_iff.1 (by assumption:isBytes bs=true)).1 x (List.mem_of_mem_take (List.mem_of_mem_drop hx))) (by have hbl:=isBytes_len (by assumption:isBytes bs=true); simp only[List.length_drop,List.length_take]; omega)) (fun w20 hs20=>?_))
    exact nk (m1 hs20 0 r0) (alc D_7_3 ⟨(zR r0),hs20⟩)
   refine one_ r0 (al (cs:=Z65) hs19 tz31 r0 trivial r0 (fun b11' w21 hs21=>?_))
   exact nk (m1 hs21 0 r0) (alc D_7_4 ⟨b11',(zR r0),hs21⟩)
  have hs22:=hs2.drew
  exact tk (fuel:=5) (is:=[0,1,2,4,5,6,7,8]) (.cons r0 (.cons r0 (.cons r0 (.cons r0 (.cons r0 (.cons r0 (.cons r0 (.cons r0 (.nil))))))))) (by kernel_rfl) (by kernel_rfl) (m1 hs22 0 r0) (yA r0 (mv (v:=.slice Abs bs.length cbs) r0) (yA r0 (mv (v:=I ((2+(bs.getD 1 0).toNat:Nat):Int)) r0) (yA r0 (cum (zs:=bs) 2 (2+(bs.getD 1 0).toNat) sl24 r0 r0 r0 (by omega) (by omega) hbs.cap) (yA r0 (mv (v:=.slice Abs bs.length cbs) r0) (yA r0 (mv (v:=I ((2+(bs.getD 1 0).toNat:Nat):Int)) r0) (yA r0 (add r0 r0 (by(exact⟨by omega,by omega⟩))) (yA r0 (mv (v:=I ((2+(bs.getD 1 0).toNat+1+(bs.getD (2+(bs.getD 1 0).toNat) 0).toNat:Nat):Int)) r0) (yA r0 (cum (zs:=bs) ((2+(bs.getD 1 0).toNat)+1) (2+(bs.getD 1 0).toNat+1+(bs.getD (2+(bs.getD 1 0).toNat) 0).toNat) sl24 r0 r0 r0 (by omega) (by omega) hbs.cap) (.nil (alc D_7_5 ⟨(zR r0),hs22⟩))))))))))
 rintro f w22 ⟨b11',⟨g7,rfl⟩,hs23⟩
 refine nN (sq (sr (qt r0 (lG [Str (Z57 bs),Str (Z30 bs)] hs23 1 r0 ag31) (cS hs23 r0 (sL11Ok _ _ _ (by have hbl:=isBytes_len (by assumption:isBytes bs=true); simp only[bT_len,List.length_drop,List.length_take]; omega) (by have hbl:=isBytes_len (by assumption:isBytes bs=true); simp only[bT_len,List.length_drop,List.length_take]; omega)) (fun w23 hs24=>?_)))))
 refine qt r0 (nt r0) (nn (cd r0 (fun h8=>?_) (fun h8=>?_)))
 ·have h9:=nbF h8
  refine sr (qt r0 (bdv (v:=.agg #[Str [],Str []]) [] r0 (fun _=>by kernel_rfl)) (sG Z65 hs24 0 r0 ag31 (fun w24 hs25=>?_)))
  refine tA (I 0) r0 (tA Z6 r0 (nn (rt (tR (fret (resC hs25 1 r0 r0 ag31 r0 (.tmp (.tmp .nil))) r0 ?_)))))
  have e8:loginFrom bs=(([],[]),0,false):=by(rw[login_eq ‹_› (by omega) (Decidable.not_not.1 ‹_›) (by omega) r0 r0 (by omega) r0 r0]; exact if_neg (ne_true ‹_›))
  rw[e8]
  exact⟨rfl,(hs25.pk [] r0)⟩
 have h10:=nbT h8
 refine sk (nN (sr (qt r0 (lG [Str (Z57 bs),Str (Z30 bs)] hs24 1 r0 ag31) (tm (I ((2+(bs.getD 1 0).toNat+1+(bs.getD (2+(bs.getD 1 0).toNat) 0).toNat:Nat):Int)) r0 (sG [Str (Z57 bs),Str (Z30 bs)] hs24 0 r0 ag31 (fun w25 hs26=>?_))))))
 refine tA (I ((2+(bs.getD 1 0).toNat+1+(bs.getD (2+(bs.getD 1 0).toNat) 0).toNat:Nat):Int)) r0 (tA Z35 r0 (nn (rt (fret (resC hs26 1 r0 r0 ag31 r0 (.tmp (.tmp .nil))) r0 ?_))))
 have e9:loginFrom bs=((bT ((bs.take (2+(bs.getD 1 0).toNat)).drop 2),bT ((bs.take (2+(bs.getD 1 0).toNat+1+(bs.getD (2+(bs.getD 1 0).toNat) 0).toNat)).drop ((2+(bs.getD 1 0).toNat)+1))),((2+(bs.getD 1 0).toNat+1+(bs.getD (2+(bs.getD 1 0).toNat) 0).toNat:Nat):Int),true):=by(rw[login_eq ‹_› (by omega) (Decidable.not_not.1 ‹_›) (by omega) r0 r0 (by omega) r0 r0]; exact if_pos ‹_›)
 rw[e9]
 exact⟨rfl,(hs26.pk [] r0)⟩
theorem slIndexL {Azs:Option Addr} {czs:Nat} (zs:List (List UInt8×List UInt8)) (lu:List UInt8) (lw:List UInt8) (w:World) (hzs:Sl w [] 2 Azs zs.length czs (zs.flatMap gLogin)) (hzs_e: ∀ u∈zs,u.1.length≤9223372036854775807∧u.2.length≤9223372036854775807):Does Tryz.prog 233 [.slice Azs zs.length czs,.agg #[Str lu,Str lw]] w (fun v w'=>v=.int .i64 (idxP (fun x=>decide (x=(lu,lw))) zs)∧SH w w' [] []):=by
 refine fE (N:=19) Tryz.func233 r0 (by kernel_rfl) r0 ?_
 have hs0:=SH.refl w []
 have hzs_m:zs.length≤9223372036854775807:=Nat.le_trans hzs.cap hzs.capMax
 refine sr (bx (v:=.agg #[Str lu,Str lw]) (cs:=[Str lu,Str lw]) hs0 r0 r0 trivial r0 (fun b1 w1 hs1=>?_))
 refine tA (I 0) r0 (nn (sq (sr (tm (Z87 Azs zs czs) r0 (qt r0 (lnA sl25 r0) (tm (I 0) r0 (nn (bl (lp (σ:=Nat) (fun(k:Nat) f w'=>Hz f [(0,.slice Azs zs.length czs),(3,pB b1),(7,I (zs.length:Int)),(8,I (k:Int))]∧(k≤zs.length)∧(∀ j,j<k→ ¬ zs.getD j login0=(lu,lw))∧SH w w' [] [(Z76 b1 lu lw)]) (fun k=>zs.length-k) 0 ⟨(zR r0),(by simp),(by intro j hj; omega),hs1⟩ ?_)))))))))
 rintro k f w2 ⟨⟨g1,rfl⟩,hk,hn,hs2⟩
 refine sr (qt r0 (lss r0 r0) (nn (sq (cdd r0 (fun h1=>?_) (fun h1=>?_)))))
 ·refine sk (nN (sq (bl (sr (tm (I (k:Int)) r0 (tA (I (k:Int)) r0 (nn (sq (rq (fun w'=>SH w w' [] [(Z76 b1 lu lw)]) mixed (by kernel_rfl) hs2.drew (qB r0 (fun hsq=>lG [Str lu,Str lw] hsq 0 r0 ag31) (qA r0 (mv (v:=.slice Azs zs.length czs) r0) (qA r0 (mv (v:=I (k:Int)) r0) (ixqf (g:=gLogin) (zs:=zs) (fun _=>rfl) login0 k sl25 r0 r0 hzs (by omega) (by omega) trivial r0 (fun a1 ha1=>?_))))))))))))))
  refine qB r0 (fun hsq=>ldag (us:=(Z115 zs k)) hsq ha1 (fun _ h=>h) r0 r0 ag31) (qA r0 (eq2 (a:=lu) (b:=lw) (c:=(zs.getD k login0).1) (e:=(zs.getD k login0).2) s2_31 r0 r0) (qn (fun w3 hs3=>?_)))
  refine nN (cdd r0 (fun h2=>?_) (fun h2=>?_))
  ·exact sr (tm (I (k:Int)) r0 (tA (I (k:Int)) r0 (nn (rt (bR (tR (tR (bR (tR (fI r0 (idxP_eq (d:=login0) (by omega) (fun j hj=>decide_eq_false (hn j hj)) (decide_eq_true (pair_eq ⟨h2.1.symm,h2.2.symm⟩))) (hs3.pk [] r0)))))))))))
  refine sk (bN (nN (rg (qt r0 (add r0 r0 (by exact⟨by omega,by omega⟩)) (tm (I ((k:Int)+1)) r0 (nn ?_))))))
  refine⟨(k+1),⟨(zR r0),(by omega),(by intro j hj; rcases Nat.lt_succ_iff_lt_or_eq.1 hj with h | h; exact hn j h; subst h; intro he; refine absurd ?_ (by assumption: ¬ (_∧_)); rw[he]; exact⟨rfl,rfl⟩),hs3⟩,?_⟩
  omega
 refine ex (tE (tE (bE (nN (sr (tA (I (-1)) r0 (nn (rt (fT (I (-1)) r0 ?_)))))))))
 have e2:(-1)=idxP (fun x=>decide (x=(lu,lw))) zs:=by exact idxP_none (d:=login0) (fun j hj=>decide_eq_false (hn j (by omega)))
 exact⟨(congrArg (Value.int .i64) e2),(hs2.pk [] r0)⟩
theorem slContainsL {Azs:Option Addr} {czs:Nat} (zs:List (List UInt8×List UInt8)) (lu:List UInt8) (lw:List UInt8) (w:World) (hzs:Sl w [] 2 Azs zs.length czs (zs.flatMap gLogin)) (hzs_e: ∀ u∈zs,u.1.length≤9223372036854775807∧u.2.length≤9223372036854775807):Does Tryz.prog 215 [.slice Azs zs.length czs,.agg #[Str lu,Str lw]] w (fun v w'=>v=.bool (decide ((lu,lw)∈zs))∧SH w w' [] []):=by
 refine fE (N:=9) Tryz.func215 r0 (by kernel_rfl) r0 ?_
 have hs0:=SH.refl w []
 have hzs_m:zs.length≤9223372036854775807:=Nat.le_trans hzs.cap hzs.capMax
 refine sr (bx (v:=.agg #[Str lu,Str lw]) (cs:=[Str lu,Str lw]) hs0 r0 r0 trivial r0 (fun b1 w1 hs1=>?_))
 refine tA Z6 r0 (nx (tm (Z87 Azs zs czs) r0 (qt r0 (lG [Str lu,Str lw] hs1 0 r0 ag31) (cS hs1 r0 (slIndexL _ _ _ _ (hzs.up0 hs1) hzs_e) (fun w2 hs2=>?_)))))
 refine qt r0 (geq r0 r0) (tA (.bool (decide ((0:Int)≤(idxP (fun x=>decide (x=(lu,lw))) zs)))) r0 (nn (rt (fT (.bool (decide ((0:Int)≤(idxP (fun x=>decide (x=(lu,lw))) zs)))) r0 ?_))))
 have e1:(decide ((0:Int)≤(idxP (fun x=>decide (x=(lu,lw))) zs)))=(decide ((lu,lw)∈zs)):=by rw[idxP_any,Bool.eq_iff_iff]; simp
 exact⟨(congrArg (Value.bool) e1),(hs2.pk [] r0)⟩
theorem iLoginFits {Alg:Option Addr} {clg:Nat} (lg:List (List UInt8×List UInt8)) (lu:List UInt8) (lw:List UInt8) (w:World) (hlg:Sl w [] 2 Alg lg.length clg (lg.flatMap gLogin)) (hlg_e: ∀ u∈lg,u.1.length≤9223372036854775807∧u.2.length≤9223372036854775807) (hlu_n:lu.length≤9223372036854775807) (hlw_n:lw.length≤9223372036854775807):Does Tryz.prog 184 [.slice Alg lg.length clg,.agg #[Str lu,Str lw]] w (fun v w'=>v=.bool (fitsL lg lu lw)∧SH w w' [] []):=by
 refine fE (N:=12) Tryz.func184 r0 (by kernel_rfl) r0 ?_
 have hs0:=SH.refl w []
 have hlg_m:lg.length≤9223372036854775807:=Nat.le_trans hlg.cap hlg.capMax
 refine sr (bx (v:=.agg #[Str lu,Str lw]) (cs:=[Str lu,Str lw]) hs0 r0 r0 trivial r0 (fun b1 w1 hs1=>?_))
 refine tA Z6 r0 (nx (qt r0 (lG [Str lu,Str lw] hs1 0 r0 ag31) (cS hs1 r0 (iIsLogin _ _ _ (by omega) (by omega)) (fun w2 hs2=>?_))))
 refine tm (.bool (loginOk lu lw)) r0 (spl 7 r0 (fun h1=>?_) (fun h1=>?_))
 ·refine qh r0 (mv (v:=.slice Alg lg.length clg) r0) (qh r0 (lG [Str lu,Str lw] hs2 0 r0 ag31) (cl ⟨_,rfl,rfl⟩ r0 (slContainsL _ _ _ _ (hlg.up0 hs2) hlg_e) ?_))
  rintro _ w3 ⟨rfl,hs3⟩
  replace hs3:=hs2.call0 hs3
  refine qt r0 (pt (v:=.bool (decide ((lu,lw)∈lg))) r0 r0) (tA (.bool (decide ((lu,lw)∈lg))) r0 (nn (rt (fT (.bool (decide ((lu,lw)∈lg))) r0 ?_))))
  have e1:(decide ((lu,lw)∈lg))=fitsL lg lu lw:=by simp[fitsL,h1]
  exact⟨(congrArg (Value.bool) e1),(hs3.pk [] r0)⟩
 exact gf5 r0 (gf5 r0 (gf5 r0 (qt r0 (pf (v:=.bool false) r0 r0) (tA Z6 r0 (nn (rt (fB r0 (by simp[fitsL,h1]) (hs2.pk [] r0))))))))
theorem sLoginFits {Alg:Option Addr} {clg:Nat} (lg:List (List UInt8×List UInt8)) (lu:List UInt8) (lw:List UInt8) (w:World) (hlg:Sl w [] 2 Alg lg.length clg (lg.flatMap gLogin)) (hlg_e: ∀ u∈lg,u.1.length≤9223372036854775807∧u.2.length≤9223372036854775807) (hlu_n:lu.length≤9223372036854775807) (hlw_n:lw.length≤9223372036854775807):Does Tryz.prog 152 [.slice Alg lg.length clg,.agg #[Str lu,Str lw]] w (fun v w'=>v=.bool (fitsL lg lu lw)∧SH w w' [] []):=by
 refine fE (N:=22) Tryz.func152 r0 (by kernel_rfl) r0 ?_
 have hs0:=SH.refl w []
 have hlg_m:lg.length≤9223372036854775807:=Nat.le_trans hlg.cap hlg.capMax
 refine sr (bx (v:=.agg #[Str lu,Str lw]) (cs:=[Str lu,Str lw]) hs0 r0 r0 trivial r0 (fun b1 w1 hs1=>?_))
 refine tA Z6 r0 (nn (sq (sr (tA (I 0) r0 (nl (nN (bl (lp (σ:=Nat) (fun(k:Nat) f w'=>Hz f [(0,.slice Alg lg.length clg),(3,pB b1),(5,I (k:Int))]∧(k≤lg.length)∧(∀ j,j<k→ ¬ lg.getD j login0=(lu,lw))∧SH w w' [] [(Z76 b1 lu lw)]) (fun k=>lg.length-k) 0 ⟨(zR r0),(by simp),(by intro j hj; omega),hs1⟩ ?_))))))))
 rintro k f w2 ⟨⟨g1,rfl⟩,hk,hn,hs2⟩
 refine sq (sr (tm (I (k:Int)) r0 (tm (Z87 Alg lg clg) r0 (qt r0 (lnA sl25 r0) (qt r0 (lss r0 r0) (tm (.bool (decide ((k:Int)<(lg.length:Int)))) r0 (spd 10 r0 (fun h1=>?_) (fun h1=>?_))))))))
 ·refine qh r0 (lG [Str lu,Str lw] hs2 0 r0 ag31) (cl ⟨_,rfl,rfl⟩ r0 (sL11Ok _ _ _ (by omega) (by omega)) ?_)
  rintro _ w3 ⟨rfl,hs3⟩
  replace hs3:=hs2.call0 hs3
  refine qt r0 (pt (v:=.bool (loginOk lu lw)) r0 r0) (nn (cd r0 (fun h2=>?_) (fun h2=>?_)))
  ·refine sk (nN (sq (bl (sq (rq (fun w'=>SH w w' [] [(Z76 b1 lu lw)]) mixed (by kernel_rfl) hs3.drew (qA r0 (mv (v:=.slice Alg lg.length clg) r0) (qA r0 (mv (v:=I (k:Int)) r0) (ixqf (g:=gLogin) (zs:=lg) (fun _=>rfl) login0 k sl25 r0 r0 hlg (by omega) (by omega) trivial r0 (fun a1 ha1=>?_)))))))))
   refine qB r0 (fun hsq=>ldag (us:=(Z115 lg k)) hsq ha1 (fun _ h=>h) r0 r0 ag31) (qB r0 (fun hsq=>lG [Str lu,Str lw] hsq 0 r0 ag31) (qA r0 (eq2 (a:=(lg.getD k login0).1) (b:=(lg.getD k login0).2) (c:=lu) (e:=lw) s2_31 r0 r0) (qn (fun w4 hs4=>?_))))
   refine nN (cdd r0 (fun h3=>?_) (fun h3=>?_))
   ·exact sr (tA Z35 r0 (nn (rt (bR (tR (tR (bR (tR (fB r0 (fits_yes (k:=k) (by omega) (pair_eq ‹_›) ‹_›) (hs4.pk [] r0))))))))))
   refine sk (bN (nN (rg (tm (I (k:Int)) r0 (qt r0 (add r0 r0 (by exact⟨by omega,by omega⟩)) (tA (I ((k:Int)+1)) r0 (nl (nN ?_))))))))
   refine⟨(k+1),⟨(zR r0),(by omega),(by intro j hj; rcases Nat.lt_succ_iff_lt_or_eq.1 hj with h | h; exact hn j h; subst h; intro he; refine absurd ?_ (by assumption: ¬ (_∧_)); rw[he]; exact⟨rfl,rfl⟩),hs4⟩,?_⟩
   omega
  refine ex (tE (tE (bE (nN (sr (tA Z6 r0 (nn (rt (fT Z6 r0 ?_)))))))))
  have e2:false=fitsL lg lu lw:=by exact fits_no1 ‹_›
  exact⟨(congrArg (Value.bool) e2),(hs3.pk [] r0)⟩
 refine gf5 r0 (gf5 r0 (qt r0 (pf (v:=.bool false) r0 r0) (nn (cdf r0 (ex (tE (tE (bE (nN (sr (tA Z6 r0 (nn (rt (fT Z6 r0 ?_))))))))))))))
 have e3:false=fitsL lg lu lw:=by exact fits_no2 (by omega) hn
 exact⟨(congrArg (Value.bool) e3),(hs2.pk [] r0)⟩
theorem sL3Size {Abs:Option Addr} {cbs:Nat} (bs:List Int) (w:World) (hbs:Sl w [] 1 Abs bs.length cbs (bs.map I)) (hob:isBytes bs=true):Does Tryz.prog 235 [.slice Abs bs.length cbs] w (fun v w'=>v=.int .i64 (szA bs)∧SH w w' [] []):=by
 refine fE (N:=25) Tryz.func235 r0 (by kernel_rfl) r0 ?_
 have hs0:=SH.refl w []
 have hbs_m:bs.length≤9223372036854775807:=Nat.le_trans hbs.cap hbs.capMax
 refine sr (tA (I 0) r0 (nn (sq (sr (tm (Z14 Abs bs cbs) r0 (qt r0 (lnA sl24 r0) (qt r0 (gtr r0 r0) (tm (.bool (decide ((0:Int)<(bs.length:Int)))) r0 (spd 6 r0 (fun h1=>?_) (fun h1=>?_))))))))))
 ·refine qh r0 (mv (v:=.slice Abs bs.length cbs) r0) (ixw1 0 sl24 r0 r0 hbs (by omega) (getm I 0 (by omega)) ⟨_,rfl,rfl⟩ r0 (fun a1 ha1=>?_))
  refine qh r0 (lda hs0 ha1 (fun _ h=>h) r0 r0 one3) (qh r0 (eqi r0 r0) (qt r0 (pt (v:=.bool (decide ((bs.getD 0 0)=1))) r0 r0) (nn (cdd r0 (fun h2=>?_) (fun h2=>?_)))))
  ·exact sr (tA (I 7) r0 (nn (rt (tR (fI r0 (by(unfold szA; rw[if_pos (by exact⟨by omega,by omega⟩)]; done)) hs0)))))
  refine sk (nN (sq (sr (tm (Z14 Abs bs cbs) r0 (qt r0 (lnA sl24 r0) (qt r0 (gtr r0 r0) (tm (.bool (decide ((1:Int)<(bs.length:Int)))) r0 (spd 15 r0 (fun h3=>?_) (fun h3=>?_)))))))))
  ·refine qh r0 (mv (v:=.slice Abs bs.length cbs) r0) (ixw1 0 sl24 r0 r0 hbs (by omega) (getm I 0 (by omega)) ⟨_,rfl,rfl⟩ r0 (fun a2 ha2=>?_))
   refine qh r0 (lda hs0 ha2 (fun _ h=>h) r0 r0 one3) (qh r0 (eqi r0 r0) (qt r0 (pt (v:=.bool (decide ((bs.getD 0 0)=3))) r0 r0) (nn (cdd r0 (fun h4=>?_) (fun h4=>?_)))))
   ·refine sr (tm (Z14 Abs bs cbs) r0 (ixw1 1 sl24 r0 r0 hbs (by omega) (getm I 0 (by omega)) trivial r0 (fun a3 ha3=>?_)))
    exact qt r0 (lda hs0 ha3 (fun _ h=>h) r0 r0 one3) (qt r0 (add r0 r0 (by(have hg1:=isBytes_get hob (k:=1) (by omega); exact⟨by omega,by omega⟩))) (tA (I (4+(bs.getD 1 0))) r0 (nn (rt (tR (fI r0 (by(unfold szA; rw[if_neg (by omega),if_pos (by exact⟨by omega,by omega⟩)]; done)) hs0))))))
   exact sk (nN (sr (tA (I (-1)) r0 (nn (rt (fI r0 (by(unfold szA; rw[if_neg (by omega),if_neg (by omega)])) hs0))))))
  exact gf5 r0 (gf5 r0 (gf5 r0 (gf5 r0 (qt r0 (pf (v:=.bool false) r0 r0) (nn (cdf r0 (sk (nN (sr (tA (I (-1)) r0 (nn (rt (fI r0 (by(unfold szA; rw[if_neg (by omega),if_neg (by omega)])) hs0)))))))))))))
 refine gf5 r0 (gf5 r0 (gf5 r0 (gf5 r0 (qt r0 (pf (v:=.bool false) r0 r0) (nn (cdf r0 (sk (nN (sq (sr (tm (Z14 Abs bs cbs) r0 (qt r0 (lnA sl24 r0) (qt r0 (gtr r0 r0) (tm (.bool (decide ((1:Int)<(bs.length:Int)))) r0 (spd 15 r0 (fun h5=>?_) (fun h5=>?_))))))))))))))))
 ·refine qh r0 (mv (v:=.slice Abs bs.length cbs) r0) (ixw1 0 sl24 r0 r0 hbs (by omega) (getm I 0 (by omega)) ⟨_,rfl,rfl⟩ r0 (fun a4 ha4=>?_))
  refine qh r0 (lda hs0 ha4 (fun _ h=>h) r0 r0 one3) (qh r0 (eqi r0 r0) (qt r0 (pt (v:=.bool (decide ((bs.getD 0 0)=3))) r0 r0) (nn (cdd r0 (fun h6=>?_) (fun h6=>?_)))))
  ·refine sr (tm (Z14 Abs bs cbs) r0 (ixw1 1 sl24 r0 r0 hbs (by omega) (getm I 0 (by omega)) trivial r0 (fun a5 ha5=>?_)))
   exact qt r0 (lda hs0 ha5 (fun _ h=>h) r0 r0 one3) (qt r0 (add r0 r0 (by(exact⟨by omega,by omega⟩))) (tA (I (4+(bs.getD 1 0))) r0 (nn (rt (tR (fI r0 (by(unfold szA; rw[if_neg (by omega),if_pos (by exact⟨by omega,by omega⟩)]; done)) hs0))))))
  exact sk (nN (sr (tA (I (-1)) r0 (nn (rt (fI r0 (by(unfold szA; rw[if_neg (by omega),if_neg (by omega)])) hs0))))))
 exact gf5 r0 (gf5 r0 (gf5 r0 (gf5 r0 (qt r0 (pf (v:=.bool false) r0 r0) (nn (cdf r0 (sk (nN (sr (tA (I (-1)) r0 (nn (rt (fI r0 (by(unfold szA; rw[if_neg (by omega),if_neg (by omega)])) hs0)))))))))))))
set_option maxHeartbeats 8000000 in
theorem sAddressOf {Abs:Option Addr} {cbs:Nat} (bs:List Int) (w:World) (hbs:Sl w [] 1 Abs bs.length cbs (bs.map I)) (hob:isBytes bs=true):Does Tryz.prog 218 [.slice Abs bs.length cbs] w (fun v w'=>∃ Aqr:Option Addr,∃ cqr:Nat,v=.tuple #[.agg #[.int .i64 ((addrD bs).1.1),.slice Aqr ((addrD bs).1.2.1).length cqr,Str ((addrD bs).1.2.2.1),.int .i64 ((addrD bs).1.2.2.2)],.int .i64 ((addrD bs).2.1),.bool ((addrD bs).2.2)]∧SH w w' [] [.own Aqr (((addrD bs).1.2.1).length) cqr 3 1 (((addrD bs).1.2.1).map I)]):=by
 refine fE (N:=56) Tryz.func218 r0 (by kernel_rfl) r0 ?_
 have hs0:=SH.refl w []
 have hbs_m:bs.length≤9223372036854775807:=Nat.le_trans hbs.cap hbs.capMax
 refine sr (al (cs:=Z17) hs0 tz54 r0 trivial r0 (fun b1 w1 hs1=>?_))
 refine tA (I 0) r0 (tA Z6 r0 (nx (tm (Z14 Abs bs cbs) r0 (cS hs1 r0 (sL3Size _ _ (hbs.up0 hs1) (by omega)) (fun w2 hs2=>?_)))))
 refine tA (I (szA bs)) r0 (nn (sq (sr (tm (Z14 Abs bs cbs) r0 (cS hs2 r0 (sBytesValid _ _ (hbs.up0 hs2)) (fun w3 hs3=>?_))))))
 refine qt r0 (nt r0) (tm (Z106 bs) r0 (spl 12 r0 (fun h1=>?_) (fun h1=>?_)))
 ·have h2:=nbF h1
  refine gt5 r0 (gt5 r0 (qt r0 (pt (v:=.bool true) r0 r0) (tm Z35 r0 (gt5 r0 (gt5 r0 (gt5 r0 (gt5 r0 (qt r0 (pt (v:=.bool true) r0 r0) (nn (cdt r0 (sr (qt r0 (bdv (v:=.agg #[I 0,ns,Str [],I 0]) [] r0 (fun _=>by kernel_rfl)) (sG Z17 hs3 0 r0 ag54 (fun w4 hs4=>?_))))))))))))))
  refine tA (I 0) r0 (tA Z6 r0 (nn (rt (tR (fret (resC hs4 0 r0 r0 ag54 r0 (.tmp (.tmp .nil))) r0 ?_)))))
  have hs5:=hs4.nl [Z0] r0
  have e1:addrD bs=((0,([]:List Int),[],0),0,false):=by exact addrD_no (.inl ‹_›)
  rw[e1]
  exact⟨none,0,rfl,(hs5.pk [1] r0)⟩
 have h3:=nbT h1
 refine qh r0 (mv (v:=I (szA bs)) r0) (qh r0 (lss r0 r0) (qt r0 (pf (v:=.bool (decide ((szA bs)<0))) r0 r0) (tm (.bool (decide ((szA bs)<0))) r0 (spd 16 r0 (fun h4=>?_) (fun h4=>?_)))))
 ·refine gt5 r0 (gt5 r0 (gt5 r0 (gt5 r0 (qt r0 (pt (v:=.bool true) r0 r0) (nn (cdt r0 (sr (qt r0 (bdv (v:=.agg #[I 0,ns,Str [],I 0]) [] r0 (fun _=>by kernel_rfl)) (sG Z17 hs3 0 r0 ag54 (fun w5 hs6=>?_))))))))))
  refine tA (I 0) r0 (tA Z6 r0 (nn (rt (tR (fret (resC hs6 0 r0 r0 ag54 r0 (.tmp (.tmp .nil))) r0 ?_)))))
  have hs7:=hs6.nl [Z0] r0
  have e2:addrD bs=((0,([]:List Int),[],0),0,false):=by exact addrD_no (.inr (.inl ‹_›))
  rw[e2]
  exact⟨none,0,rfl,(hs7.pk [1] r0)⟩
 refine qh r0 (mv (v:=I (szA bs)) r0) (qh r0 (mv (v:=.slice Abs bs.length cbs) r0) (qh r0 (lnA sl24 r0) (qh r0 (gtr r0 r0) (qt r0 (pf (v:=.bool (decide ((bs.length:Int)<(szA bs)))) r0 r0) (nn (cdd r0 (fun h5=>?_) (fun h5=>?_)))))))
 ·refine sr (qt r0 (bdv (v:=.agg #[I 0,ns,Str [],I 0]) [] r0 (fun _=>by kernel_rfl)) (sG Z17 hs3 0 r0 ag54 (fun w6 hs8=>?_)))
  refine tA (I 0) r0 (tA Z6 r0 (nn (rt (tR (fret (resC hs8 0 r0 r0 ag54 r0 (.tmp (.tmp .nil))) r0 ?_)))))
  have hs9:=hs8.nl [Z0] r0
  have e3:addrD bs=((0,([]:List Int),[],0),0,false):=by exact addrD_no (.inr (.inr ‹_›))
  rw[e3]
  exact⟨none,0,rfl,(hs9.pk [1] r0)⟩
 refine sk (nN (sq ?_))
 refine raJ (fun w'=>∃ L,SH w w' [] L∧(.blk b1 54 Z17)∈L∧True) (fun f w'=>∃ (b3' b11':Nat),Hz f [(0,.slice Abs bs.length cbs),(2,pB b1),(5,I (szA bs)),(6,pB b11')]∧SH w w' [] [.blk b1 54 Z17,.blk b11' 54 [(Z120 bs),(Z56 b3'),Str [],I (ofB (Z20 bs))],(Z72 b3')]) mixed ?_ ?_
 ·refine dG 1 13 4095 (fun f w'=>∃ (b3' b11':Nat),Hz f [(0,.slice Abs bs.length cbs),(2,pB b1),(5,I (szA bs)),(6,pB b11'),(33,.agg #[(Z120 bs),(Z56 b3'),Str [],I (ofB (Z20 bs))])]∧SH w w' [] [.blk b1 54 Z17,.blk b11' 54 Z17,(Z72 b3')]) ?_ (fun D_4_0=>?_)
  ·rintro f w7 ⟨b3',b11',⟨g1,rfl⟩,hs10⟩
   refine aO 12 r0 (sG [(Z120 bs),(Z56 b3'),Str [],I (ofB (Z20 bs))] hs10 1 r0 ag54 (fun w8 hs11=>?_))
   refine nk (m1 hs11 0 r0) (ad (by kernel_rfl) ?_)
   exact⟨b3',b11',(zR r0),(hs11.pk [0,2,1] r0)⟩
  refine dG 2 13 2047 (fun f w'=>∃ (b3':Nat),Hz f [(0,.slice Abs bs.length cbs),(2,pB b1),(5,I (szA bs)),(33,.agg #[(Z120 bs),(Z56 b3'),Str [],I (ofB (Z20 bs))])]∧SH w w' [] [.blk b1 54 Z17,(Z72 b3')]) ?_ (fun D_4_1=>?_)
  ·rintro f w9 ⟨b3',⟨g2,rfl⟩,hs12⟩
   refine aO 11 r0 (al (cs:=Z17) hs12 tz54 r0 trivial r0 (fun b11' w10 hs13=>?_))
   exact nk (m1 hs13 0 r0) (alc D_4_0 ⟨b3',b11',(zR r0),(hs13.pk [0,2,1] r0)⟩)
  refine dG 3 13 2559 (fun f w'=>∃ (b3' b11':Nat),Hz f [(0,.slice Abs bs.length cbs),(2,pB b1),(5,I (szA bs)),(6,pB b11'),(25,I (bs.getD 0 0)),(26,sb b3' (([]:List Int).length) 0),(31,.slice (if cbs=((szA bs)-2).toNat then Abs else Abs.map (·.add ((((szA bs)-2).toNat)*1))) ((Z20 bs).length) (cbs-(((szA bs)-2).toNat)))]∧SH w w' [] [.blk b1 54 Z17,.blk b11' 54 Z17,(Z72 b3')]) ?_ (fun D_4_2=>?_)
  ·rintro f w11 ⟨b3',b11',⟨g3,rfl⟩,hs14⟩
   refine aO 9 r0 (cS hs14 r0 (sL1Of _ _ (Sl.cutm (hbs.up0 hs14) (by omega) (by omega)) (by intro x hx; exact(isBytes_iff.1 hob).1 x (List.mem_of_mem_take (List.mem_of_mem_drop hx))) (by have hzb:=szA_bd hob; have hbl:=isBytes_len hob; have hz7:=szA_7 (b:=bs); simp only[List.length_drop,List.length_take]; omega)) (fun w12 hs15=>?_))
   exact nk (m1 hs15 0 r0) (tk (fuel:=1) (is:=[10]) (.cons r0 (.nil)) (by kernel_rfl) (by kernel_rfl) (m1 hs15 0 r0) (yA r0 (bdv (v:=.agg #[(Z120 bs),(Z56 b3'),Str [],I (ofB (Z20 bs))]) [(0,I (bs.getD 0 0)),(1,sb b3' (([]:List Int).length) 0),(3,I (ofB (Z20 bs)))] r0 (fun _=>by kernel_rfl)) (.nil (alc D_4_0 ⟨b3',b11',(zR r0),hs15⟩))))
  refine dG 3 13 3063 (fun f w'=>∃ (b11':Nat),Hz f [(0,.slice Abs bs.length cbs),(2,pB b1),(5,I (szA bs)),(6,pB b11'),(25,I (bs.getD 0 0)),(32,I (ofB (Z20 bs)))]∧SH w w' [] [.blk b1 54 Z17,.blk b11' 54 Z17]) ?_ (fun D_4_3=>?_)
  ·rintro f w13 ⟨b11',⟨g4,rfl⟩,hs16⟩
   refine aO 3 r0 (bsk hs16 sl24 [] [] trivial r0 (fun b3' w14 hs17=>?_))
   exact nk (m1 hs17 0 r0) (tk (fuel:=1) (is:=[10]) (.cons r0 (.nil)) (by kernel_rfl) (by kernel_rfl) (m1 hs17 0 r0) (yA r0 (bdv (v:=.agg #[(Z120 bs),(Z56 b3'),Str [],I (ofB (Z20 bs))]) [(0,I (bs.getD 0 0)),(1,sb b3' (([]:List Int).length) 0),(3,I (ofB (Z20 bs)))] r0 (fun _=>by kernel_rfl)) (.nil (alc D_4_0 ⟨b3',b11',(zR r0),hs17⟩))))
  refine dG 4 13 511 (fun f w'=>∃ (b3':Nat),Hz f [(0,.slice Abs bs.length cbs),(2,pB b1),(5,I (szA bs)),(25,I (bs.getD 0 0)),(26,sb b3' (([]:List Int).length) 0),(31,.slice (if cbs=((szA bs)-2).toNat then Abs else Abs.map (·.add ((((szA bs)-2).toNat)*1))) ((Z20 bs).length) (cbs-(((szA bs)-2).toNat)))]∧SH w w' [] [.blk b1 54 Z17,(Z72 b3')]) ?_ (fun D_4_4=>?_)
  ·rintro f w15 ⟨b3',⟨g5,rfl⟩,hs18⟩
   refine aaL [9,11] (fa_cons ?_ (fa_one ?_))
   ·refine one_ r0 (cS hs18 r0 (sL1Of _ _ (Sl.cutm (hbs.up0 hs18) (by omega) (by omega)) (by intro x hx; exact(isBytes_iff.1 hob).1 x (List.mem_of_mem_take (List.mem_of_mem_drop hx))) (by have hzb:=szA_bd hob; have hbl:=isBytes_len hob; have hz7:=szA_7 (b:=bs); simp only[List.length_drop,List.length_take]; omega)) (fun w16 hs19=>?_))
    exact nk (m1 hs19 0 r0) (tk (fuel:=2) (is:=[10]) (.cons r0 (.nil)) (by kernel_rfl) (by kernel_rfl) (m1 hs19 0 r0) (yA r0 (bdv (v:=.agg #[(Z120 bs),(Z56 b3'),Str [],I (ofB (Z20 bs))]) [(0,I (bs.getD 0 0)),(1,sb b3' (([]:List Int).length) 0),(3,I (ofB (Z20 bs)))] r0 (fun _=>by kernel_rfl)) (.nil (alc D_4_1 ⟨b3',(zR r0),hs19⟩))))
   refine one_ r0 (al (cs:=Z17) hs18 tz54 r0 trivial r0 (fun b11' w17 hs20=>?_))
   exact nk (m1 hs20 0 r0) (alc D_4_2 ⟨b3',b11',(zR r0),(hs20.pk [0,2,1] r0)⟩)
  refine dG 4 13 1015 (fun f w'=>Hz f [(0,.slice Abs bs.length cbs),(2,pB b1),(5,I (szA bs)),(25,I (bs.getD 0 0)),(32,I (ofB (Z20 bs)))]∧SH w w' [] [.blk b1 54 Z17]) ?_ (fun D_4_5=>?_)
  ·rintro f w18 ⟨⟨g6,rfl⟩,hs21⟩
   refine aaL [3,11] (fa_cons ?_ (fa_one ?_))
   ·refine one_ r0 (bsk hs21 sl24 [] [] trivial r0 (fun b3' w19 hs22=>?_))
    exact nk (m1 hs22 0 r0) (tk (fuel:=2) (is:=[10]) (.cons r0 (.nil)) (by kernel_rfl) (by kernel_rfl) (m1 hs22 0 r0) (yA r0 (bdv (v:=.agg #[(Z120 bs),(Z56 b3'),Str [],I (ofB (Z20 bs))]) [(0,I (bs.getD 0 0)),(1,sb b3' (([]:List Int).length) 0),(3,I (ofB (Z20 bs)))] r0 (fun _=>by kernel_rfl)) (.nil (alc D_4_1 ⟨b3',(zR r0),hs22⟩))))
   refine one_ r0 (al (cs:=Z17) hs21 tz54 r0 trivial r0 (fun b11' w20 hs23=>?_))
   exact nk (m1 hs23 0 r0) (alc D_4_3 ⟨b11',(zR r0),hs23⟩)
  refine dG 4 13 2551 (fun f w'=>∃ (b11':Nat),Hz f [(0,.slice Abs bs.length cbs),(2,pB b1),(5,I (szA bs)),(6,pB b11'),(25,I (bs.getD 0 0)),(31,.slice (if cbs=((szA bs)-2).toNat then Abs else Abs.map (·.add ((((szA bs)-2).toNat)*1))) ((Z20 bs).length) (cbs-(((szA bs)-2).toNat)))]∧SH w w' [] [.blk b1 54 Z17,.blk b11' 54 Z17]) ?_ (fun D_4_6=>?_)
  ·rintro f w21 ⟨b11',⟨g7,rfl⟩,hs24⟩
   refine aaL [3,9] (fa_cons ?_ (fa_one ?_))
   ·refine one_ r0 (bsk hs24 sl24 [] [] trivial r0 (fun b3' w22 hs25=>?_))
    exact nk (m1 hs25 0 r0) (alc D_4_2 ⟨b3',b11',(zR r0),hs25⟩)
   refine one_ r0 (cS hs24 r0 (sL1Of _ _ (Sl.cutm (hbs.up0 hs24) (by omega) (by omega)) (by intro x hx; exact(isBytes_iff.1 hob).1 x (List.mem_of_mem_take (List.mem_of_mem_drop hx))) (by have hzb:=szA_bd hob; have hbl:=isBytes_len hob; have hz7:=szA_7 (b:=bs); simp only[List.length_drop,List.length_take]; omega)) (fun w23 hs26=>?_))
   exact nk (m1 hs26 0 r0) (alc D_4_3 ⟨b11',(zR r0),hs26⟩)
  refine dG 5 13 503 (fun f w'=>Hz f [(0,.slice Abs bs.length cbs),(2,pB b1),(5,I (szA bs)),(25,I (bs.getD 0 0)),(31,.slice (if cbs=((szA bs)-2).toNat then Abs else Abs.map (·.add ((((szA bs)-2).toNat)*1))) ((Z20 bs).length) (cbs-(((szA bs)-2).toNat)))]∧SH w w' [] [.blk b1 54 Z17]) ?_ (fun D_4_7=>?_)
  ·rintro f w24 ⟨⟨g8,rfl⟩,hs27⟩
   refine aaL [3,9,11] (fa_cons ?_ (fa_cons ?_ (fa_one ?_)))
   ·refine one_ r0 (bsk hs27 sl24 [] [] trivial r0 (fun b3' w25 hs28=>?_))
    exact nk (m1 hs28 0 r0) (alc D_4_4 ⟨b3',(zR r0),hs28⟩)
   ·refine one_ r0 (cS hs27 r0 (sL1Of _ _ (Sl.cutm (hbs.up0 hs27) (by omega) (by omega)) (by intro x hx; exact(isBytes_iff.1 hob).1 x (List.mem_of_mem_take (List.mem_of_mem_drop hx))) (by have hzb:=szA_bd hob; have hbl:=isBytes_len hob; have hz7:=szA_7 (b:=bs); simp only[List.length_drop,List.length_take]; omega)) (fun w26 hs29=>?_))
    exact nk (m1 hs29 0 r0) (alc D_4_5 ⟨(zR r0),hs29⟩)
   refine one_ r0 (al (cs:=Z17) hs27 tz54 r0 trivial r0 (fun b11' w27 hs30=>?_))
   exact nk (m1 hs30 0 r0) (alc D_4_6 ⟨b11',(zR r0),hs30⟩)
  have hs31:=hs3.drew
  refine tk (fuel:=5) (is:=[0,1,2,4,5,6,7,8]) (.cons r0 (.cons r0 (.cons r0 (.cons r0 (.cons r0 (.cons r0 (.cons r0 (.cons r0 (.nil))))))))) (by kernel_rfl) (by kernel_rfl) (m1 hs31 0 r0) (yA r0 (mv (v:=.slice Abs bs.length cbs) r0) (ixy1 0 sl24 r0 r0 hbs (by(have hzb:=szA_bd hob; have hbl:=isBytes_len hob; have hz7:=szA_7 (b:=bs); omega)) (getm I 0 (by(have hzb:=szA_bd hob; have hbl:=isBytes_len hob; have hz7:=szA_7 (b:=bs); omega))) trivial r0 (fun a1 ha1=>?_)))
  exact yB r0 (fun ⟨Lq,hsq,mh0,_⟩=>lda hsq ha1 (fun _ h=>h) r0 r0 one3) (yA r0 (mv (v:=.slice Abs bs.length cbs) r0) (yA r0 (mv (v:=I (szA bs)) r0) (yA r0 (sub r0 r0 (by(exact⟨by omega,by omega⟩))) (yA r0 (mv (v:=I (szA bs)) r0) (yA r0 (cum (zs:=bs) (((szA bs)-2).toNat) ((szA bs).toNat) sl24 r0 (ieq (x:=(szA bs)-2) (by(have hzb:=szA_bd hob; have hbl:=isBytes_len hob; have hz7:=szA_7 (b:=bs); omega))) (ieq (x:=szA bs) (by omega)) (by omega) (by omega) hbs.cap) (.nil (alc D_4_7 ⟨(zR r0),hs31⟩)))))))
 rintro f w28 ⟨b3',b11',⟨g9,rfl⟩,hs32⟩
 refine nN (sq (sr (tm (Z14 Abs bs cbs) r0 (ixw1 0 sl24 r0 r0 hbs (by(have hzb:=szA_bd hob; have hbl:=isBytes_len hob; have hz7:=szA_7 (b:=bs); omega)) (getm I 0 (by(have hzb:=szA_bd hob; have hbl:=isBytes_len hob; have hz7:=szA_7 (b:=bs); omega))) trivial r0 (fun a2 ha2=>?_)))))
 refine qt r0 (lda hs32 ha2 (fun _ h=>h) r0 r0 one3) (qt r0 (eqi r0 r0) (nn (cdd r0 (fun h6=>?_) (fun h6=>?_))))
 ·refine raJ (fun w'=>∃ L,SH w w' [] L∧(.blk b1 54 Z17)∈L∧True) (fun f w'=>∃ (A4'':Option Addr) (c4'':Nat),Hz f [(2,pB b1),(5,I (szA bs)),(6,pB b11')]∧SH w w' [] [.blk b1 54 Z17,.blk b11' 54 [(Z120 bs),.slice A4'' (((bs.take 5).drop 1).length) c4'',Str [],I (ofB (Z20 bs))],.own A4'' (((bs.take 5).drop 1).length) c4'' 3 1 (((bs.take 5).drop 1).map I)]) mixed ?_ ?_
  ·refine dG 1 7 63 (fun f w'=>∃ (A4'':Option Addr) (c4'':Nat),Hz f [(2,pB b1),(5,I (szA bs)),(6,pB b11'),(42,.slice A4'' (((bs.take 5).drop 1).length) c4''),(43,.pointer (Z128 b11'))]∧SH w w' [] [.blk b1 54 Z17,.blk b11' 54 [(Z120 bs),(Z56 b3'),Str [],I (ofB (Z20 bs))],.own A4'' (((bs.take 5).drop 1).length) c4'' 3 1 (((bs.take 5).drop 1).map I)]) ?_ (fun D_6_0=>?_)
   ·rintro f w29 ⟨A4'',c4'',⟨g10,rfl⟩,hs33⟩
    refine aO 6 r0 (sT (.slice A4'' (((bs.take 5).drop 1).length) c4'') hs33 1 r0 one24 (fun w30 hs34=>?_))
    refine nk (m1 hs34 0 r0) (ad (by kernel_rfl) ?_)
    exact⟨A4'',c4'',(zR r0),(hs34.pk [0,2,1] r0)⟩
   refine dG 3 7 15 (fun f w'=>Hz f [(2,pB b1),(5,I (szA bs)),(6,pB b11'),(39,sb b3' (([]:List Int).length) 0),(41,.slice (if cbs=1 then Abs else Abs.map (·.add (1*1))) (((bs.take 5).drop 1).length) (cbs-1))]∧SH w w' [] [.blk b1 54 Z17,.blk b11' 54 [(Z120 bs),(Z56 b3'),Str [],I (ofB (Z20 bs))],(Z72 b3')]) ?_ (fun D_6_1=>?_)
   ·rintro f w31 ⟨⟨g11,rfl⟩,hs35⟩
    refine aO 4 r0 (apm (g:=I) (ys:=([]:List Int)) (zs:=(bs.take 5).drop 1) hs35 2 r0 sl24 r0 r0 r0 (Sl.cutm (hbs.up0 hs35) (by omega) (by(have hzb:=szA_bd hob; have hbl:=isBytes_len hob; have hz7:=szA_7 (b:=bs); omega))) (fun _=>rfl) (by unfold maxLen; have hzb:=szA_bd hob; have hbl:=isBytes_len hob; have hz7:=szA_7 (b:=bs); simp only[List.length_nil,List.length_drop,List.length_take]; omega) (by have hzb:=szA_bd hob; have hbl:=isBytes_len hob; have hz7:=szA_7 (b:=bs); simp only[List.length_nil,List.length_drop,List.length_take]; omega) trivial r0 (fun A4'' c4'' w32 hs36=>?_))
    exact nk (m1 hs36 0 r0) (tk (fuel:=1) (is:=[5]) (.cons r0 (.nil)) (by kernel_rfl) (by kernel_rfl) (m1 hs36 0 r0) (yA r0 (fa 1 fo54_1 r0) (.nil (alc D_6_0 ⟨A4'',c4'',(zR r0),hs36⟩))))
   refine dG 4 7 13 (fun f w'=>Hz f [(2,pB b1),(5,I (szA bs)),(6,pB b11'),(38,.pointer (Z128 b11')),(41,.slice (if cbs=1 then Abs else Abs.map (·.add (1*1))) (((bs.take 5).drop 1).length) (cbs-1))]∧SH w w' [] [.blk b1 54 Z17,.blk b11' 54 [(Z120 bs),(Z56 b3'),Str [],I (ofB (Z20 bs))],(Z72 b3')]) ?_ (fun D_6_2=>?_)
   ·rintro f w33 ⟨⟨g12,rfl⟩,hs37⟩
    exact aO 1 r0 (qt r0 (lD (sb b3' (([]:List Int).length) 0) hs37 1 r0 one24) (nk (m1 hs37 0 r0) (alc D_6_1 ⟨(zR r0),hs37⟩)))
   have hs38:=hs32.drew
   exact tk (fuel:=4) (is:=[0,2,3]) (.cons r0 (.cons r0 (.cons r0 (.nil)))) (by kernel_rfl) (by kernel_rfl) (m1 hs38 0 r0) (yA r0 (fa 1 fo54_1 r0) (yA r0 (mv (v:=.slice Abs bs.length cbs) r0) (yA r0 (cum (zs:=bs) 1 5 sl24 r0 r0 r0 (by omega) (by(have hzb:=szA_bd hob; have hbl:=isBytes_len hob; have hz7:=szA_7 (b:=bs); omega)) hbs.cap) (.nil (alc D_6_2 ⟨(zR r0),hs38⟩)))))
  rintro f w34 ⟨A4'',c4'',⟨g13,rfl⟩,hs39⟩
  refine nN (sq (sr (qt r0 (lG [(Z120 bs),.slice A4'' (((bs.take 5).drop 1).length) c4'',Str [],I (ofB (Z20 bs))] hs39 1 r0 ag54) (cS hs39 r0 (sAddressValid _ _ [] _ _ (hs39.sl0 2 r0) (by(simp; done))) (fun w35 hs40=>?_)))))
  refine qt r0 (nt r0) (nn (cd r0 (fun h7=>?_) (fun h7=>?_)))
  ·have h8:=nbF h7
   refine sr (qt r0 (bdv (v:=.agg #[I 0,ns,Str [],I 0]) [] r0 (fun _=>by kernel_rfl)) (sG Z17 hs40 0 r0 ag54 (fun w36 hs41=>?_)))
   refine tA (I 0) r0 (tA Z6 r0 (nn (rt (tR (fret (resC hs41 2 r0 r0 ag54 r0 (.tmp (.tmp .nil))) r0 ?_)))))
   have hs42:=hs41.nl [Z0] r0
   have e4:addrD bs=((0,([]:List Int),[],0),0,false):=by exact addrD_qn hob (by omega) (by omega) ‹_› ‹_›
   rw[e4]
   exact⟨none,0,rfl,(hs42.pk [3] r0)⟩
  have h9:=nbT h7
  refine sk (nN (sr (qt r0 (lG [(Z120 bs),.slice A4'' (((bs.take 5).drop 1).length) c4'',Str [],I (ofB (Z20 bs))] hs40 1 r0 ag54) (tm (I (szA bs)) r0 (sG [(Z120 bs),.slice A4'' (((bs.take 5).drop 1).length) c4'',Str [],I (ofB (Z20 bs))] hs40 0 r0 ag54 (fun w37 hs43=>?_))))))
  refine tA (I (szA bs)) r0 (tA Z35 r0 (nn (rt (fret (resC hs43 2 r0 r0 ag54 r0 (.tmp (.tmp .nil))) r0 ?_))))
  have e5:addrD bs=((bs.getD 0 0,(bs.take 5).drop 1,[],ofB (Z20 bs)),szA bs,true):=by exact addrD_q hob (by omega) (by omega) ‹_› ‹_›
  rw[e5]
  exact⟨A4'',c4'',rfl,(hs43.pk [1] r0)⟩
 refine rg (tm (Z14 Abs bs cbs) r0 (tm (I (szA bs)) r0 (qt r0 (sub r0 r0 (by(exact⟨by omega,by omega⟩))) (qt r0 (cum (zs:=bs) 2 (((szA bs)-2).toNat) sl24 r0 r0 (ieq (x:=(szA bs)-2) (by(have hzb:=szA_bd hob; have hbl:=isBytes_len hob; have hz7:=szA_7 (b:=bs); omega))) (by(have hzb:=szA_bd hob; have hbl:=isBytes_len hob; have hz7:=szA_7 (b:=bs); omega)) (by omega) hbs.cap) (cS hs32 r0 (sL1Bytes _ _ (Sl.cutm (hbs.up0 hs32) (by(have hzb:=szA_bd hob; have hbl:=isBytes_len hob; have hz7:=szA_7 (b:=bs); omega)) (by omega)) (by intro x hx; exact(isBytes_iff.1 hob).1 x (List.mem_of_mem_take (List.mem_of_mem_drop hx))) (by have hzb:=szA_bd hob; have hbl:=isBytes_len hob; have hz7:=szA_7 (b:=bs); simp only[List.length_drop,List.length_take]; omega)) (fun w38 hs44=>?_))))))
 refine qt r0 (fa 2 fo54_2 r0) (sT (Str (bT (Z104 bs))) hs44 1 r0 one9 (fun w39 hs45=>?_))
 refine nn (sq (sr (qt r0 (lG [(Z120 bs),(Z56 b3'),Str (bT (Z104 bs)),I (ofB (Z20 bs))] hs45 2 r0 ag54) (cS hs45 r0 (sAddressValid (ak:=bs.getD 0 0) (Aaq:=(Z8 b3')) (caq:=0) (aq:=([]:List Int)) (an:=bT (Z104 bs)) (apt:=ofB (Z20 bs)) (w:=_) (haq:=(hs45.sl0 1 r0)) (han_n:=(by(have hzb:=szA_bd hob; have hbl:=isBytes_len hob; have hz7:=szA_7 (b:=bs); simp only[bT_len,List.length_drop,List.length_take]; omega)))) (fun w40 hs46=>?_)))))
 refine qt r0 (nt r0) (nn (cd r0 (fun h10=>?_) (fun h10=>?_)))
 ·have h11:=nbF h10
  refine sr (qt r0 (bdv (v:=.agg #[I 0,ns,Str [],I 0]) [] r0 (fun _=>by kernel_rfl)) (sG Z17 hs46 0 r0 ag54 (fun w41 hs47=>?_)))
  refine tA (I 0) r0 (tA Z6 r0 (nn (rt (tR (fret (resC hs47 2 r0 r0 ag54 r0 (.tmp (.tmp .nil))) r0 ?_)))))
  have hs48:=hs47.nl [Z0] r0
  have e6:addrD bs=((0,([]:List Int),[],0),0,false):=by exact addrD_nn hob (by omega) (by omega) ‹_› ‹_›
  rw[e6]
  exact⟨none,0,rfl,(hs48.pk [3] r0)⟩
 have h12:=nbT h10
 refine sk (nN (sr (qt r0 (lG [(Z120 bs),(Z56 b3'),Str (bT (Z104 bs)),I (ofB (Z20 bs))] hs46 2 r0 ag54) (tm (I (szA bs)) r0 (sG [(Z120 bs),(Z56 b3'),Str (bT (Z104 bs)),I (ofB (Z20 bs))] hs46 0 r0 ag54 (fun w42 hs49=>?_))))))
 refine tA (I (szA bs)) r0 (tA Z35 r0 (nn (rt (fret (resC hs49 2 r0 r0 ag54 r0 (.tmp (.tmp .nil))) r0 ?_))))
 have e7:addrD bs=((bs.getD 0 0,([]:List Int),bT (Z104 bs),ofB (Z20 bs)),szA bs,true):=by exact addrD_n hob (by omega) (by omega) ‹_› ‹_›
 rw[e7]
 exact⟨(Z8 b3'),0,rfl,(hs49.pk [0] r0)⟩
set_option maxHeartbeats 8000000 in
theorem sL12From {Abs:Option Addr} {cbs:Nat} (bs:List Int) (w:World) (hbs:Sl w [] 1 Abs bs.length cbs (bs.map I)):Does Tryz.prog 193 [.slice Abs bs.length cbs] w (fun v w'=>∃ Aqr:Option Addr,∃ cqr:Nat,v=.tuple #[.int .i64 ((codeFrom bs).1),.agg #[.int .i64 ((codeFrom bs).2.1.1),.slice Aqr ((codeFrom bs).2.1.2.1).length cqr,Str ((codeFrom bs).2.1.2.2.1),.int .i64 ((codeFrom bs).2.1.2.2.2)],.int .i64 ((codeFrom bs).2.2.1),.bool ((codeFrom bs).2.2.2)]∧SH w w' [] [.own Aqr (((codeFrom bs).2.1.2.1).length) cqr 3 1 (((codeFrom bs).2.1.2.1).map I)]):=by
 refine fE (N:=46) Tryz.func193 r0 (by kernel_rfl) r0 ?_
 have hs0:=SH.refl w []
 have hbs_m:bs.length≤9223372036854775807:=Nat.le_trans hbs.cap hbs.capMax
 refine sr (tA (I 0) r0 (al (cs:=Z17) hs0 tz54 r0 trivial r0 (fun b1 w1 hs1=>?_)))
 refine tA (I 0) r0 (tA Z6 r0 (nn (sq (sr (tm (Z14 Abs bs cbs) r0 (cS hs1 r0 (sBytesValid _ _ (hbs.up0 hs1)) (fun w2 hs2=>?_)))))))
 refine qt r0 (nt r0) (tm (Z106 bs) r0 (spl 12 r0 (fun h1=>?_) (fun h1=>?_)))
 ·have h2:=nbF h1
  refine gt5 r0 (gt5 r0 (gt5 r0 (qt r0 (pt (v:=.bool true) r0 r0) (tm Z35 r0 (gt5 r0 (gt5 r0 (gt5 r0 (gt5 r0 (qt r0 (pt (v:=.bool true) r0 r0) (tm Z35 r0 (gt5 r0 (gt5 r0 (gt5 r0 (gt5 r0 (qt r0 (pt (v:=.bool true) r0 r0) (nn (cdt r0 (sr (qt r0 (bdv (v:=.agg #[I 0,ns,Str [],I 0]) [] r0 (fun _=>by kernel_rfl)) (tA (I 0) r0 (sG Z17 hs2 0 r0 ag54 (fun w3 hs3=>?_))))))))))))))))))))))
  refine tA (I 0) r0 (tA Z6 r0 (nn (rt (tR (fret (.tmp (resC hs3 0 r0 r0 ag54 r0 (.tmp (.tmp .nil)))) r0 ?_)))))
  have hs4:=hs3.nl [Z0] r0
  have e1:codeFrom bs=(0,(0,([]:List Int),[],0),0,false):=by exact code_no (.inl ‹_›)
  rw[e1]
  exact⟨none,0,rfl,(hs4.pk [1] r0)⟩
 have h3:=nbT h1
 refine qh r0 (mv (v:=.slice Abs bs.length cbs) r0) (qh r0 (lnA sl24 r0) (qh r0 (lss r0 r0) (qt r0 (pf (v:=.bool (decide ((bs.length:Int)<3))) r0 r0) (tm (.bool (decide ((bs.length:Int)<3))) r0 (spd 17 r0 (fun h4=>?_) (fun h4=>?_))))))
 ·refine gt5 r0 (gt5 r0 (gt5 r0 (gt5 r0 (qt r0 (pt (v:=.bool true) r0 r0) (tm Z35 r0 (gt5 r0 (gt5 r0 (gt5 r0 (gt5 r0 (qt r0 (pt (v:=.bool true) r0 r0) (nn (cdt r0 (sr (qt r0 (bdv (v:=.agg #[I 0,ns,Str [],I 0]) [] r0 (fun _=>by kernel_rfl)) (tA (I 0) r0 (sG Z17 hs2 0 r0 ag54 (fun w4 hs5=>?_)))))))))))))))))
  refine tA (I 0) r0 (tA Z6 r0 (nn (rt (tR (fret (.tmp (resC hs5 0 r0 r0 ag54 r0 (.tmp (.tmp .nil)))) r0 ?_)))))
  have hs6:=hs5.nl [Z0] r0
  have e2:codeFrom bs=(0,(0,([]:List Int),[],0),0,false):=by exact code_no (.inr (.inl (by omega)))
  rw[e2]
  exact⟨none,0,rfl,(hs6.pk [1] r0)⟩
 refine qh r0 (mv (v:=.slice Abs bs.length cbs) r0) (ixw1 0 sl24 r0 r0 hbs (by omega) (getm I 0 (by omega)) ⟨_,rfl,rfl⟩ r0 (fun a1 ha1=>?_))
 refine qh r0 (lda hs2 ha1 (fun _ h=>h) r0 r0 one3) (qh r0 (nei r0 r0) (qt r0 (pf (v:=.bool (decide ((bs.getD 0 0)≠5))) r0 r0) (tm (.bool (decide ((bs.getD 0 0)≠5))) r0 (spd 23 r0 (fun h5=>?_) (fun h5=>?_)))))
 ·refine gt5 r0 (gt5 r0 (gt5 r0 (gt5 r0 (qt r0 (pt (v:=.bool true) r0 r0) (nn (cdt r0 (sr (qt r0 (bdv (v:=.agg #[I 0,ns,Str [],I 0]) [] r0 (fun _=>by kernel_rfl)) (tA (I 0) r0 (sG Z17 hs2 0 r0 ag54 (fun w5 hs7=>?_)))))))))))
  refine tA (I 0) r0 (tA Z6 r0 (nn (rt (tR (fret (.tmp (resC hs7 0 r0 r0 ag54 r0 (.tmp (.tmp .nil)))) r0 ?_)))))
  have hs8:=hs7.nl [Z0] r0
  have e3:codeFrom bs=(0,(0,([]:List Int),[],0),0,false):=by exact code_no (.inr (.inr (.inl ‹_›)))
  rw[e3]
  exact⟨none,0,rfl,(hs8.pk [1] r0)⟩
 refine qh r0 (mv (v:=.slice Abs bs.length cbs) r0) (ixw1 2 sl24 r0 r0 hbs (by omega) (getm I 0 (by omega)) ⟨_,rfl,rfl⟩ r0 (fun a2 ha2=>?_))
 refine qh r0 (lda hs2 ha2 (fun _ h=>h) r0 r0 one3) (qh r0 (nei r0 r0) (qt r0 (pf (v:=.bool (decide ((bs.getD 2 0)≠0))) r0 r0) (nn (cdd r0 (fun h6=>?_) (fun h6=>?_)))))
 ·refine sr (qt r0 (bdv (v:=.agg #[I 0,ns,Str [],I 0]) [] r0 (fun _=>by kernel_rfl)) (tA (I 0) r0 (sG Z17 hs2 0 r0 ag54 (fun w6 hs9=>?_))))
  refine tA (I 0) r0 (tA Z6 r0 (nn (rt (tR (fret (.tmp (resC hs9 0 r0 r0 ag54 r0 (.tmp (.tmp .nil)))) r0 ?_)))))
  have hs10:=hs9.nl [Z0] r0
  have e4:codeFrom bs=(0,(0,([]:List Int),[],0),0,false):=by exact code_no (.inr (.inr (.inr (.inl ‹_›))))
  rw[e4]
  exact⟨none,0,rfl,(hs10.pk [1] r0)⟩
 refine sk (nN (sr (tm (Z14 Abs bs cbs) r0 (qt r0 (culm (zs:=bs) 3 sl24 r0 r0 (by omega)) (cS2 hs2 r0 (sAddressOf _ _ (Sl.cutlm (hbs.up0 hs2) (by omega)) (by exact isBytes_sub ‹_› (List.drop_sublist _ _))) (fun Aq1 cq1 w7 hs11=>?_))))))
 refine tm (.tuple #[.agg #[I ((addrD (bs.drop 3)).1.1),.slice Aq1 (((addrD (bs.drop 3)).1.2.1).length) cq1,Str ((addrD (bs.drop 3)).1.2.2.1),I ((addrD (bs.drop 3)).1.2.2.2)],I ((addrD (bs.drop 3)).2.1),.bool ((addrD (bs.drop 3)).2.2)]) r0 (qt r0 (xt 0 r0 r0) (qt r0 (xt 1 r0 r0) (qt r0 (xt 2 r0 r0) (al (cs:=Z17) hs11 tz54 r0 trivial r0 (fun b2 w8 hs12=>?_)))))
 refine sG (Z40 bs Aq1 cq1) hs12 2 r0 ag54 (fun w9 hs13=>?_)
 refine tA (I ((addrD (bs.drop 3)).2.1)) r0 (tA (.bool ((addrD (bs.drop 3)).2.2)) r0 (nn (sq (sr (tm (.bool ((addrD (bs.drop 3)).2.2)) r0 (qt r0 (nt r0) (nn (cd r0 (fun h7=>?_) (fun h7=>?_)))))))))
 ·have h8:=nbF h7
  refine sr (qt r0 (bdv (v:=.agg #[I 0,ns,Str [],I 0]) [] r0 (fun _=>by kernel_rfl)) (tA (I 0) r0 (sG Z17 hs13 0 r0 ag54 (fun w10 hs14=>?_))))
  refine tA (I 0) r0 (tA Z6 r0 (nn (rt (tR (fret (.tmp (resC hs14 2 r0 r0 ag54 r0 (.tmp (.tmp .nil)))) r0 ?_)))))
  have hs15:=hs14.nl [Z0] r0
  have e5:codeFrom bs=(0,(0,([]:List Int),[],0),0,false):=by exact code_no (.inr (.inr (.inr (.inr ‹_›))))
  rw[e5]
  exact⟨none,0,rfl,(hs15.pk [3] r0)⟩
 have h9:=nbT h7
 refine sk (nN (sq ?_))
 refine raJ (fun w'=>∃ L,SH w w' [] L∧(.blk b2 54 (Z40 bs Aq1 cq1))∈L∧True) (fun f w'=>Hz f [(2,I (bs.getD 1 0)),(3,pB b1),(4,I (((addrD (bs.drop 3)).2.1)+3)),(5,.bool true)]∧SH w w' [] [.blk b1 54 (Z40 bs Aq1 cq1),.own Aq1 (((addrD (bs.drop 3)).1.2.1).length) cq1 3 1 (((addrD (bs.drop 3)).1.2.1).map I),.blk b2 54 (Z40 bs Aq1 cq1)]) mixed ?_ ?_
 ·refine dG 3 10 127 (fun f w'=>Hz f [(2,I (bs.getD 1 0)),(3,pB b1),(4,I 0),(5,.bool false),(43,.agg #[I ((addrD (bs.drop 3)).1.1),.slice Aq1 (((addrD (bs.drop 3)).1.2.1).length) cq1,Str ((addrD (bs.drop 3)).1.2.2.1),I ((addrD (bs.drop 3)).1.2.2.2)]),(45,I (((addrD (bs.drop 3)).2.1)+3))]∧SH w w' [] [.blk b1 54 Z17,.own Aq1 (((addrD (bs.drop 3)).1.2.1).length) cq1 3 1 (((addrD (bs.drop 3)).1.2.1).map I),.blk b2 54 (Z40 bs Aq1 cq1)]) ?_ (fun D_6_0=>?_)
  ·rintro f w11 ⟨⟨g1,rfl⟩,hs16⟩
   refine aO 7 r0 (sG (Z40 bs Aq1 cq1) hs16 0 r0 ag54 (fun w12 hs17=>?_))
   refine nk (m1 hs17 1 r0) (tk (fuel:=0) (is:=[8,9]) (.cons r0 (.cons r0 (.nil))) (by kernel_rfl) (by kernel_rfl) (m1 hs17 1 r0) (yA r0 (asg (v:=I (((addrD (bs.drop 3)).2.1)+3)) r0) (yA r0 (asg (v:=.bool true) r0) (.nil (ad (by kernel_rfl) ?_)))))
   exact⟨(zR r0),(hs17.pk [2,0,1] r0)⟩
  have hs18:=hs13.drew
  refine tk (fuel:=3) (is:=[0,1,2,3,4,5,6]) (.cons r0 (.cons r0 (.cons r0 (.cons r0 (.cons r0 (.cons r0 (.cons r0 (.nil)))))))) (by kernel_rfl) (by kernel_rfl) (m1 hs18 2 r0) (yA r0 (mv (v:=.slice Abs bs.length cbs) r0) (ixy1 1 sl24 r0 r0 hbs (by omega) (getm I 0 (by omega)) trivial r0 (fun a3 ha3=>?_)))
  exact yB r0 (fun ⟨Lq,hsq,mh0,_⟩=>lda hsq ha3 (fun _ h=>h) r0 r0 one3) (yB r0 (fun ⟨Lq,hsq,mh0,_⟩=>ldgm (vs:=(Z40 bs Aq1 cq1)) hsq mh0 r0 r0 r0 ag54) (yA r0 (mv (v:=I ((addrD (bs.drop 3)).2.1)) r0) (yA r0 (add r0 r0 (by have had:=addrD_ok (by assumption:(addrD (bs.drop 3)).2.2=true); rw[List.length_drop]at had; have hbl:=isBytes_len (by assumption:isBytes bs=true); exact⟨by omega,by omega⟩)) (yA r0 (asg (v:=I (bs.getD 1 0)) r0) (.nil (alc D_6_0 ⟨(zR r0),hs18⟩))))))
 rintro f w13 ⟨⟨g2,rfl⟩,hs19⟩
 refine nN (rt (fret (.tmp (resC hs19 0 r0 r0 ag54 r0 (.tmp (.tmp .nil)))) r0 ?_))
 have e6:codeFrom bs=(bs.getD 1 0,((addrD (bs.drop 3)).1.1,(addrD (bs.drop 3)).1.2.1,(addrD (bs.drop 3)).1.2.2.1,(addrD (bs.drop 3)).1.2.2.2),((addrD (bs.drop 3)).2.1)+3,true):=by exact code_yes ‹_› (by omega) (by omega) (by omega) ‹_›
 rw[e6]
 exact⟨Aq1,cq1,rfl,(hs19.pk [1] r0)⟩
theorem sRequestFrom {Abs:Option Addr} {cbs:Nat} (bs:List Int) (w:World) (hbs:Sl w [] 1 Abs bs.length cbs (bs.map I)):Does Tryz.prog 154 [.slice Abs bs.length cbs] w (fun v w'=>∃ Aqr:Option Addr,∃ cqr:Nat,v=.tuple #[.agg #[.int .i64 ((reqFrom bs).1.1),.int .i64 ((reqFrom bs).1.2.1),.slice Aqr ((reqFrom bs).1.2.2.1).length cqr,Str ((reqFrom bs).1.2.2.2.1),.int .i64 ((reqFrom bs).1.2.2.2.2)],.int .i64 ((reqFrom bs).2.1),.bool ((reqFrom bs).2.2)]∧SH w w' [] [.own Aqr (((reqFrom bs).1.2.2.1).length) cqr 3 1 (((reqFrom bs).1.2.2.1).map I)]):=by
 refine fE (N:=28) Tryz.func154 r0 (by kernel_rfl) r0 ?_
 have hs0:=SH.refl w []
 have hbs_m:bs.length≤9223372036854775807:=Nat.le_trans hbs.cap hbs.capMax
 refine sr (al (cs:=Z103) hs0 tz64 r0 trivial r0 (fun b1 w1 hs1=>?_))
 refine tA (I 0) r0 (tA Z6 r0 (nx (tm (Z14 Abs bs cbs) r0 (cS2 hs1 r0 (sL12From _ _ (hbs.up0 hs1)) (fun Aq1 cq1 w2 hs2=>?_)))))
 refine tm (.tuple #[I ((codeFrom bs).1),.agg #[(Z152 bs),(Z111 Aq1 bs cq1),(Z125 bs),(Z131 bs)],I ((codeFrom bs).2.2.1),.bool ((codeFrom bs).2.2.2)]) r0 (qt r0 (xt 0 r0 r0) (qt r0 (xt 1 r0 r0) (qt r0 (xt 2 r0 r0) (qt r0 (xt 3 r0 r0) (al (cs:=Z17) hs2 tz54 r0 trivial r0 (fun b2 w3 hs3=>?_))))))
 refine tA (I ((codeFrom bs).1)) r0 (sG [(Z152 bs),(Z111 Aq1 bs cq1),(Z125 bs),(Z131 bs)] hs3 2 r0 ag54 (fun w4 hs4=>?_))
 refine tA (I ((codeFrom bs).2.2.1)) r0 (tA (.bool ((codeFrom bs).2.2.2)) r0 (nn (sq (sr (tm (.bool ((codeFrom bs).2.2.2)) r0 (qt r0 (nt r0) (tm (.bool (!((codeFrom bs).2.2.2))) r0 (spl 18 r0 (fun h1=>?_) (fun h1=>?_)))))))))
 ·have h2:=nbF h1
  refine gt5 r0 (gt5 r0 (gt5 r0 (qt r0 (pt (v:=.bool true) r0 r0) (nn (cdt r0 (sq (rg (qt r0 (bdv (v:=.agg #[I 0,I 0,ns,Str [],I 0]) [] r0 (fun _=>by kernel_rfl)) (sG Z103 hs4 0 r0 ag64 (fun w5 hs5=>?_))))))))))
  refine tA (I 0) r0 (tA Z6 r0 (nn (rt (tR (fret (resC hs5 2 r0 r0 ag64 r0 (.tmp (.tmp .nil))) r0 ?_)))))
  have hs6:=hs5.nl [Z0] r0
  have e1:reqFrom bs=((0,(0,([]:List Int),[],0)),0,false):=by simp[reqFrom,h2]
  rw[e1]
  exact⟨none,0,rfl,(hs6.pk [3] r0)⟩
 have h3:=nbT h1
 refine qh r0 (mv (v:=I ((codeFrom bs).1)) r0) (cl ⟨_,rfl,rfl⟩ r0 (sIn _ 1 3 _) ?_)
 rintro _ w6 ⟨rfl,hs7⟩
 replace hs7:=hs4.call0 hs7
 refine qh r0 (nd r0) (qt r0 (pf (v:=.bool (decide (¬ (1≤((codeFrom bs).1)∧((codeFrom bs).1)≤3)))) r0 r0) (nn (cdd r0 (fun h4=>?_) (fun h4=>?_))))
 ·refine sr (qt r0 (bdv (v:=.agg #[I 0,I 0,ns,Str [],I 0]) [] r0 (fun _=>by kernel_rfl)) (sG Z103 hs7 0 r0 ag64 (fun w7 hs8=>?_)))
  refine tA (I 0) r0 (tA Z6 r0 (nn (rt (tR (fret (resC hs8 2 r0 r0 ag64 r0 (.tmp (.tmp .nil))) r0 ?_)))))
  have hs9:=hs8.nl [Z0] r0
  have e2:reqFrom bs=((0,(0,([]:List Int),[],0)),0,false):=by simp[reqFrom,h3,h4]
  rw[e2]
  exact⟨none,0,rfl,(hs9.pk [3] r0)⟩
 refine sk (nN (sr (tm (I ((codeFrom bs).1)) r0 (qt r0 (lG [(Z152 bs),(Z111 Aq1 bs cq1),(Z125 bs),(Z131 bs)] hs7 2 r0 ag54) (qt r0 (bdv (v:=.agg #[I ((codeFrom bs).1),(Z152 bs),(Z111 Aq1 bs cq1),(Z125 bs),(Z131 bs)]) [(0,I ((codeFrom bs).1)),(1,.agg #[(Z152 bs),(Z111 Aq1 bs cq1),(Z125 bs),(Z131 bs)])] r0 (fun _=>by kernel_rfl)) (tm (I ((codeFrom bs).2.2.1)) r0 (sG [I ((codeFrom bs).1),(Z152 bs),(Z111 Aq1 bs cq1),(Z125 bs),(Z131 bs)] hs7 0 r0 ag64 (fun w8 hs10=>?_))))))))
 refine tA (I ((codeFrom bs).2.2.1)) r0 (tA Z35 r0 (nn (rt (fret (resC hs10 2 r0 r0 ag64 r0 (.tmp (.tmp .nil))) r0 ?_))))
 have e3:reqFrom bs=(((codeFrom bs).1,((codeFrom bs).2.1.1,(codeFrom bs).2.1.2.1,(codeFrom bs).2.1.2.2.1,(codeFrom bs).2.1.2.2.2)),(codeFrom bs).2.2.1,true):=by simp[reqFrom,h3,h4]
 rw[e3]
 exact⟨Aq1,cq1,rfl,(hs10.pk [0] r0)⟩
theorem stAtoi (s:List UInt8) (w:World) (hs_n:s.length≤1099511627776) (hEr:VarP Tryz.prog w [] "strconv.ErrRange" isIfc) (hEs:VarP Tryz.prog w [] "strconv.ErrSyntax" isIfc):Does Tryz.prog 158 [Str s] w (fun v w'=>∃ ur:TypeId,∃ vr:Value,v=.tuple #[.int .i64 ((atoiR s).1),errV ((atoiR s).2) ur vr]∧SH w w' [] []):=by
 refine(does_atoi ⟨_,_,Tryz.func158,by kernel_rfl,rfl⟩ hEs hEr (fun v h=>Tryz.strconv_Atoi_ok ⟨s.toArray⟩ (by show s.toArray.size≤_; rw[List.size_toArray]; omega) v (by simpa using h) w) (fun tp p h hv=>(Tryz.strconv_Atoi_syntax_var ⟨s.toArray⟩ (by show s.toArray.size≤_; rw[List.size_toArray]; omega) (by simpa using h) tp p w hv).mono fun e w1 ⟨N,h1,_,_,h2⟩=>⟨N,h1,h2⟩) (fun tp p h hv=>?_)).mono fun v w1 h=>h
 exact(Tryz.strconv_Atoi_range_var ⟨s.toArray⟩ (by show s.toArray.size≤_; rw[List.size_toArray]; omega) (by simpa using h) tp p w hv).mono fun e w1 ⟨N,h1,_,_,h2⟩=>⟨N,by simpa using h1,h2⟩
theorem iDecimal (s:List UInt8) (w:World) (hs_n:s.length≤1099511627776) (hGp:VarP Tryz.prog w [] "internal/strconv.uint64pow10" isPow) (hEr:VarP Tryz.prog w [] "strconv.ErrRange" isIfc) (hEs:VarP Tryz.prog w [] "strconv.ErrSyntax" isIfc):Does Tryz.prog 109 [Str s] w (fun v w'=>v=.tuple #[.int .i64 ((decI s).1),.bool ((decI s).2)]∧SH w w' [] []):=by
 refine fE (N:=20) Tryz.func109 r0 (by kernel_rfl) r0 ?_
 have hs0:=SH.refl w []
 refine sr (tA (I 0) r0 (tA Z6 r0 (nx (tm (Str s) r0 (cL r0 (stAtoi _ _ (by omega) (hEr.up0 hs0) (hEs.up0 hs0)) ?_)))))
 rintro _ w1 ⟨u1,v1,rfl,hs1⟩
 replace hs1:=hs0.call0 hs1
 refine tm (.tuple #[I ((atoiR s).1),errV ((atoiR s).2) u1 v1]) r0 (qt r0 (xt 0 r0 r0) (qt r0 (xt 1 r0 r0) (tA (I ((atoiR s).1)) r0 (tA (errV ((atoiR s).2) u1 v1) r0 (nn (sq (rg (tm (I ((atoiR s).1)) r0 (tm (errV ((atoiR s).2) u1 v1) r0 (qt r0 (eqerr (e:=(atoiR s).2) ifc45 r0) (tm (.bool (!((atoiR s).2))) r0 (spl 14 r0 (fun h1=>?_) (fun h1=>?_)))))))))))))
 ·have h2:=nbF h1
  refine qh r0 (mv (v:=I ((atoiR s).1)) r0) (cl ⟨_,rfl,rfl⟩ r0 (stItoa _ _ (by(have hab:=atoiR_bd s; omega)) (hGp.up0 hs1)) ?_)
  rintro _ w2 ⟨rfl,hs2⟩
  replace hs2:=hs1.call0 hs2
  refine qh r0 (mv (v:=Str s) r0) (qh r0 (eqs r0 r0) (qt r0 (pt (v:=.bool (decide (Lib.itoa ((atoiR s).1)=s))) r0 r0) (tA (I ((atoiR s).1)) r0 (tA (.bool (decide (Lib.itoa ((atoiR s).1)=s))) r0 (nn (rt (fret (.tmp (.tmp .nil)) r0 ?_)))))))
  have e1:(atoiR s).1=(decI s).1:=by exact(decI_eq s).1.symm
  have e2:(decide (Lib.itoa ((atoiR s).1)=s))=(decI s).2:=by(rw[(decI_eq s).2]; simp[h2]; done)
  exact⟨(tup2 (congrArg (Value.int .i64) e1) (congrArg (Value.bool) e2)),hs2⟩
 have h3:=nbT h1
 refine gf5 r0 (gf5 r0 (gf5 r0 (gf5 r0 (qt r0 (pf (v:=.bool false) r0 r0) (tA (I ((atoiR s).1)) r0 (tA Z6 r0 (nl (nN (rt (fret (.tmp (.tmp .nil)) r0 ?_))))))))))
 have e3:(atoiR s).1=(decI s).1:=by exact(decI_eq s).1.symm
 have e4:false=(decI s).2:=by(rw[(decI_eq s).2]; simp[h3]; done)
 exact⟨(tup2 (congrArg (Value.int .i64) e3) (congrArg (Value.bool) e4)),hs1⟩
theorem slCut (l:List UInt8) (c:UInt8) (w:World) (hl_n:l.length≤1099511627776):Does Tryz.prog 157 [Str l,Str [c]] w (fun v w'=>v=.tuple #[Str (cutA l c),Str (cutZ l c),.bool (decide (0≤idxB l c))]∧SH w w' [] []):=by
 refine fE (N:=23) Tryz.func157 r0 (by kernel_rfl) r0 ?_
 have hs0:=SH.refl w []
 refine sr (tA (Str []) r0 (tA (Str []) r0 (tA Z6 r0 (nn (sq (sr (tm (Str l) r0 (tm (Str [c]) r0 (cS hs0 r0 (slIndexS _ _ _) (fun w1 hs1=>?_))))))))))
 refine tA (I (idxB l c)) r0 (nx (tm (I (idxB l c)) r0 (qt r0 (geq r0 r0) (nl (nN (cdd r0 (fun h1=>?_) (fun h1=>?_)))))))
 ·refine sq (rq (fun w'=>SH w w' [] []) mixed (by kernel_rfl) hs1.drew (qA r0 (mv (v:=Str l) r0) (qA r0 (mv (v:=I (idxB l c)) r0) (qA r0 (cuhs (l:=l) ((idxB l c).toNat) st9 r0 (ieq (x:=idxB l c) (by omega)) (by(have hib:=idxB_lt l c; have e1_:[c].length=1:=rfl; omega))) (qA r0 (mv (v:=Str l) r0) (qA r0 (mv (v:=I (idxB l c)) r0) (qA r0 (mv (v:=Str [c]) r0) (qA r0 (lnS st9 r0) (qA r0 (add r0 r0 (by(have hib:=idxB_lt l c; have e1_:[c].length=1:=rfl; exact⟨by omega,by omega⟩))) (qA r0 (culs (l:=l) (((idxB l c)+(([c].length:Nat):Int)).toNat) st9 r0 (ieq (x:=(idxB l c)+(([c].length:Nat):Int)) (by omega)) (by(have hib:=idxB_lt l c; have e1_:[c].length=1:=rfl; omega))) (qA r0 (asg (v:=Str (l.take ((idxB l c).toNat))) r0) (qA r0 (asg (v:=Str (Z151 l c)) r0) (qA r0 (asg (v:=.bool true) r0) (qn (fun w2 hs2=>?_)))))))))))))))
  refine nN (rt (tR (fret (.tmp (.tmp (.tmp .nil))) r0 ?_)))
  have e1:l.take ((idxB l c).toNat)=cutA l c:=by(simp[cutA,cutZ,h1]; done)
  have e2:l.drop (((idxB l c)+(([c].length:Nat):Int)).toNat)=cutZ l c:=by(have e1:[c].length=1:=rfl; simp only[cutZ,if_pos (by assumption:0≤idxB l c)]; congr 1; simp only[List.length_cons,List.length_nil]; omega)
  have e3:true=(decide (0≤idxB l c)):=by(simp[cutA,cutZ,h1]; done)
  exact⟨(tup3 (congrArg (Str) e1) (congrArg (Str) e2) (congrArg (Value.bool) e3)),hs2⟩
 refine sk (nN (sr (tm (Str l) r0 (tA (Str l) r0 (tA (Str []) r0 (tA Z6 r0 (nn (rt (fret (.tmp (.tmp (.tmp .nil))) r0 ?_)))))))))
 have e4:l=cutA l c:=by(simp[cutA,cutZ,h1]; done)
 have e5:[]=cutZ l c:=by(simp[cutA,cutZ,h1]; done)
 have e6:false=(decide (0≤idxB l c)):=by(simp[cutA,cutZ,h1]; done)
 exact⟨(tup3 (congrArg (Str) e4) (congrArg (Str) e5) (congrArg (Value.bool) e6)),hs1⟩
theorem stCut (l:List UInt8) (c:UInt8) (w:World) (hl_n:l.length≤1099511627776):Does Tryz.prog 108 [Str l,Str [c]] w (fun v w'=>v=.tuple #[Str (cutA l c),Str (cutZ l c),.bool (decide (0≤idxB l c))]∧SH w w' [] []):=by
 refine fE (N:=13) Tryz.func108 r0 (by kernel_rfl) r0 ?_
 have hs0:=SH.refl w []
 refine sr (tA (Str []) r0 (tA (Str []) r0 (tA Z6 r0 (nn (sq (rg (tm (Str l) r0 (tm (Str [c]) r0 (cS hs0 r0 (slCut _ _ _ (by omega)) (fun w1 hs1=>?_))))))))))
 refine qt r0 (xt 0 r0 r0) (qt r0 (xt 1 r0 r0) (qt r0 (xt 2 r0 r0) (tA (Str (cutA l c)) r0 (tA (Str (cutZ l c)) r0 (tA (.bool (decide (0≤idxB l c))) r0 (nn (rt (fret (.tmp (.tmp (.tmp .nil))) r0 ?_))))))))
 exact⟨rfl,hs1⟩
theorem iQuadFrom (s:List UInt8) (w:World) (hs_n:s.length≤1099511627776) (hGp:VarP Tryz.prog w [] "internal/strconv.uint64pow10" isPow) (hEr:VarP Tryz.prog w [] "strconv.ErrRange" isIfc) (hEs:VarP Tryz.prog w [] "strconv.ErrSyntax" isIfc):Does Tryz.prog 110 [Str s] w (fun v w'=>∃ Ar:Option Addr,∃ cr:Nat,v=.tuple #[.slice Ar ((quadFrom s).1).length cr,.bool ((quadFrom s).2)]∧SH w w' [] [.own Ar (((quadFrom s).1).length) cr 3 1 (((quadFrom s).1).map I)]):=by
 refine fE (N:=32) Tryz.func110 r0 (by kernel_rfl) r0 ?_
 have hs0:=SH.refl w []
 refine sr (tA ns r0 (tA Z6 r0 (nx (tA ns r0 (nn (sq (sr (tm (Str s) r0 (cS2 hs0 r0 (stSplit _ 46 _ (by omega)) (fun A1 c1 w1 hs1=>?_))))))))))
 refine qt r0 (lnA sl51 r0) (tm (I 0) r0 (nn (bl ?_)))
 have hs2:=hs1.nl [Z0] r0
 refine lp (σ:=(Option Addr)×Nat×Nat×(List Int)) (fun⟨Ag4,cg4,k,zs⟩ f w'=>Hz f [(4,.slice Ag4 zs.length cg4),(10,.slice A1 ((splitB 46 s).length) c1),(11,I (((splitB 46 s).length:Nat):Int)),(12,I (k:Int))]∧(k≤(splitB 46 s).length)∧((splitB 46 s).take k=zs.map Lib.itoa)∧SH w w' [] [.own A1 ((splitB 46 s).length) c1 9 1 ((splitB 46 s).map Str),.own Ag4 zs.length cg4 3 1 (zs.map I)]) (fun⟨Ag4,cg4,k,zs⟩=>(splitB 46 s).length-k) (none,0,0,([]:List Int)) ⟨(zR r0),(by simp),(by simp),hs2⟩ ?_
 rintro ⟨Ag4,cg4,k,zs⟩ f w2 ⟨⟨g1,rfl⟩,hk,hz,hs3⟩
 refine sr (qt r0 (lss r0 r0) (nn (sq (cdd r0 (fun h1=>?_) (fun h1=>?_)))))
 ·refine sk (nN (sq (bl (sr (ixw1 k sl51 r0 r0 (hs3.sl0 0 r0) (by omega) (getm Str [] (by omega)) trivial r0 (fun a1 ha1=>?_))))))
  have hsl:=splitB_len 46 s
  have hsb:=splitB_getD 46 s k
  have hcl:=List.count_le_length (a:=(46:UInt8)) (l:=s)
  have hzl:=congrArg List.length hz
  refine qt r0 (lda (SH.refl w2 []) ha1 (fun _ h=>h) r0 r0 one9) (tA (Str ((splitB 46 s).getD k [])) r0 (nx (tm (Str ((splitB 46 s).getD k [])) r0 (cS hs3 r0 (iDecimal _ _ (by(rw[List.length_take,List.length_map]at hzl; omega)) (hGp.up0 hs3) (hEr.up0 hs3) (hEs.up0 hs3)) (fun w3 hs4=>?_)))))
  refine tm (.tuple #[I ((decI ((splitB 46 s).getD k [])).1),.bool ((decI ((splitB 46 s).getD k [])).2)]) r0 (qt r0 (xt 0 r0 r0) (qt r0 (xt 1 r0 r0) (tA (I ((decI ((splitB 46 s).getD k [])).1)) r0 (tA (.bool ((decI ((splitB 46 s).getD k [])).2)) r0 (nn (sq (sr (tm (.bool ((decI ((splitB 46 s).getD k [])).2)) r0 (qt r0 (nt r0) (nn (cd r0 (fun h2=>?_) (fun h2=>?_))))))))))))
  ·have h3:=nbF h2
   refine sr (tA ns r0 (tA Z6 r0 (nn (rt (tR (bR (tR (tR (bR (tR (fret (.tmp (.tmp .nil)) r0 ?_)))))))))))
   have hs5:=hs4.nl [Z0] r0
   have e1:quadFrom s=(([]:List Int),false):=by exact quad_dec_no (k:=k) (by omega) ‹_›
   rw[e1]
   exact⟨none,0,rfl,(hs5.pk [2] r0)⟩
  have h4:=nbT h2
  refine sk (nN (rg (tm (.slice Ag4 zs.length cg4) r0 (tm (I ((decI ((splitB 46 s).getD k [])).1)) r0 (bsk hs4 sl24 [I ((decI ((splitB 46 s).getD k [])).1)] [I ((decI ((splitB 46 s).getD k [])).1)] trivial r0 (fun b1 w4 hs6=>?_))))))
  refine apm (g:=I) (ys:=zs) (zs:=([(decI ((splitB 46 s).getD k [])).1]:List Int)) hs6 1 r0 sl24 r0 r0 r0 (hs6.sl0 2 r0) (fun _=>rfl) (by unfold maxLen; (rw[List.length_take,List.length_map]at hzl; (simp; omega))) (by(rw[List.length_take,List.length_map]at hzl; (simp; omega))) trivial r0 (fun A2 c2 w5 hs7=>?_)
  refine tA (.slice A2 ((zs++([(decI ((splitB 46 s).getD k [])).1]:List Int)).length) c2) r0 (nl (bN (nN (rg (qt r0 (add r0 r0 (by(rw[List.length_take,List.length_map]at hzl; exact⟨by omega,by omega⟩))) (tm (I ((k:Int)+1)) r0 (nl (nN ?_))))))))
  refine⟨(A2,c2,k+1,(zs++([(decI ((splitB 46 s).getD k [])).1]:List Int))),⟨(zR r0),(by omega),(dec_step (by omega) hz ‹_›),(hs7.pk [0,2] r0)⟩,?_⟩
  show (splitB 46 s).length-(k+1)<(splitB 46 s).length-k
  omega
 refine ex (tE (tE (bE (nN (sq (sr (tm (.slice Ag4 zs.length cg4) r0 (cS hs3 r0 (iQuadValid _ _ (hs3.sl0 1 r0)) (fun w6 hs8=>?_)))))))))
 refine qt r0 (nt r0) (nn (cd r0 (fun h5=>?_) (fun h5=>?_)))
 ·have h6:=nbF h5
  refine sr (tA ns r0 (tA Z6 r0 (nn (rt (tR (fret (.tmp (.tmp .nil)) r0 ?_))))))
  have hs9:=hs8.nl [Z0] r0
  have e2:quadFrom s=(([]:List Int),false):=by(rw[List.take_of_length_le (by omega)]at hz; exact quad_val_no hz ‹_›)
  rw[e2]
  exact⟨none,0,rfl,(hs9.pk [2] r0)⟩
 have h7:=nbT h5
 refine sk (nN (sr (tm (.slice Ag4 zs.length cg4) r0 (tA (.slice Ag4 zs.length cg4) r0 (tA Z35 r0 (nl (nN (rt (fret (.tmp (.tmp .nil)) r0 ?_)))))))))
 have e3:quadFrom s=(zs,true):=by(rw[List.take_of_length_le (by omega)]at hz; exact quad_parts hz ‹_›)
 rw[e3]
 exact⟨Ag4,cg4,rfl,(hs8.pk [1] r0)⟩
theorem iAddressFrom (s:List UInt8) (w:World) (hs_n:s.length≤1099511627776) (hGp:VarP Tryz.prog w [] "internal/strconv.uint64pow10" isPow) (hEr:VarP Tryz.prog w [] "strconv.ErrRange" isIfc) (hEs:VarP Tryz.prog w [] "strconv.ErrSyntax" isIfc):Does Tryz.prog 65 [Str s] w (fun v w'=>∃ Aqr:Option Addr,∃ cqr:Nat,v=.tuple #[.agg #[.int .i64 ((addrFrom s).1.1),.slice Aqr ((addrFrom s).1.2.1).length cqr,Str ((addrFrom s).1.2.2.1),.int .i64 ((addrFrom s).1.2.2.2)],.bool ((addrFrom s).2)]∧SH w w' [] [.own Aqr (((addrFrom s).1.2.1).length) cqr 3 1 (((addrFrom s).1.2.1).map I)]):=by
 refine fE (N:=43) Tryz.func65 r0 (by kernel_rfl) r0 ?_
 have hs0:=SH.refl w []
 refine sr (al (cs:=Z17) hs0 tz54 r0 trivial r0 (fun b1 w1 hs1=>?_))
 refine tA Z6 r0 (nx (tm (Str s) r0 (cS hs1 r0 (stCut _ 58 _ (by omega)) (fun w2 hs2=>?_))))
 refine tm (.tuple #[Str (cutA s 58),Str (cutZ s 58),.bool (decide (0≤idxB s 58))]) r0 (qt r0 (xt 0 r0 r0) (qt r0 (xt 1 r0 r0) (qt r0 (xt 2 r0 r0) (tA (Str (cutA s 58)) r0 (tA (Str (cutZ s 58)) r0 (tA (.bool (decide (0≤idxB s 58))) r0 (nl (nN (sr (tm (Str (cutZ s 58)) r0 (cS hs2 r0 (iDecimal _ _ (by(have hcA:=cutA_len s 58; have hcZ:=cutZ_len s 58; omega)) (hGp.up0 hs2) (hEr.up0 hs2) (hEs.up0 hs2)) (fun w3 hs3=>?_))))))))))))
 refine tm (.tuple #[(Z98 s),.bool ((decI (cutZ s 58)).2)]) r0 (qt r0 (xt 0 r0 r0) (qt r0 (xt 1 r0 r0) (tA (I ((decI (cutZ s 58)).1)) r0 (tA (.bool ((decI (cutZ s 58)).2)) r0 (nn (sq (sr (tm (.bool ((decI (cutZ s 58)).2)) r0 (qt r0 (nt r0) (nn (cd r0 (fun h1=>?_) (fun h1=>?_))))))))))))
 ·have h2:=nbF h1
  refine sr (qt r0 (bdv (v:=.agg #[I 0,ns,Str [],I 0]) [] r0 (fun _=>by kernel_rfl)) (sG Z17 hs3 0 r0 ag54 (fun w4 hs4=>?_)))
  refine tA Z6 r0 (nn (rt (tR (fret (resC hs4 0 r0 r0 ag54 r0 (.tmp .nil)) r0 ?_))))
  have hs5:=hs4.nl [Z0] r0
  have e1:addrFrom s=((0,([]:List Int),[],0),false):=by(rw[addr_impl]; simp[addrOf,aOk,h2])
  rw[e1]
  exact⟨none,0,rfl,(hs5.pk [1] r0)⟩
 have h3:=nbT h1
 refine sk (nN (sr (tm (Str (cutA s 58)) r0 (tm (I ((decI (cutZ s 58)).1)) r0 (qt r0 (bdv (v:=.agg #[I 3,ns,Str (cutA s 58),(Z98 s)]) [(0,I 3),(2,Str (cutA s 58)),(3,I ((decI (cutZ s 58)).1))] r0 (fun _=>by kernel_rfl)) (al (cs:=Z17) hs3 tz54 r0 trivial r0 (fun b2 w5 hs6=>?_)))))))
 refine sG [I 3,ns,Str (cutA s 58),(Z98 s)] hs6 1 r0 ag54 (fun w6 hs7=>?_)
 refine nn (sq (sr (tm (Str (cutA s 58)) r0 (cS2 hs7 r0 (iQuadFrom _ _ (by(have hcA:=cutA_len s 58; have hcZ:=cutZ_len s 58; omega)) (hGp.up0 hs7) (hEr.up0 hs7) (hEs.up0 hs7)) (fun A1 c1 w7 hs8=>?_)))))
 refine tm (.tuple #[.slice A1 (((Z94 s).1).length) c1,.bool ((Z94 s).2)]) r0 (qt r0 (xt 0 r0 r0) (qt r0 (xt 1 r0 r0) (tA (.slice A1 (((Z94 s).1).length) c1) r0 (tA (.bool ((Z94 s).2)) r0 (nn (sq (rg (tm (.bool ((Z94 s).2)) r0 (nn (cd r0 (fun h4=>?_) (fun h4=>?_)))))))))))
 ·refine rg (tm (.slice A1 (((Z94 s).1).length) c1) r0 (tm (I ((decI (cutZ s 58)).1)) r0 (qt r0 (bdv (v:=.agg #[I 1,.slice A1 (((Z94 s).1).length) c1,Str [],(Z98 s)]) [(0,I 1),(1,.slice A1 (((Z94 s).1).length) c1),(3,I ((decI (cutZ s 58)).1))] r0 (fun _=>by kernel_rfl)) (sG [I 1,.slice A1 (((Z94 s).1).length) c1,Str [],(Z98 s)] hs8 1 r0 ag54 (fun w8 hs9=>?_)))))
  refine nn (sq (sr (qt r0 (lG [I 1,.slice A1 (((Z94 s).1).length) c1,Str [],(Z98 s)] hs9 2 r0 ag54) (cS hs9 r0 (iAddressValid 1 _ [] _ _ (hs9.sl0 1 r0) (by((simp; done)))) (fun w9 hs10=>?_)))))
  refine qt r0 (nt r0) (nn (cd r0 (fun h5=>?_) (fun h5=>?_)))
  ·have h6:=nbF h5
   refine sr (qt r0 (bdv (v:=.agg #[I 0,ns,Str [],I 0]) [] r0 (fun _=>by kernel_rfl)) (sG Z17 hs10 0 r0 ag54 (fun w10 hs11=>?_)))
   refine tA Z6 r0 (nn (rt (tR (fret (resC hs11 2 r0 r0 ag54 r0 (.tmp .nil)) r0 ?_))))
   have hs12:=hs11.nl [Z0] r0
   have e2:addrFrom s=((0,([]:List Int),[],0),false):=by(rw[addr_impl]; simp[addrOf,aOk,h3,h4,h6])
   rw[e2]
   exact⟨none,0,rfl,(hs12.pk [3] r0)⟩
  have h7:=nbT h5
  refine sk (nN (sr (qt r0 (lG [I 1,.slice A1 (((Z94 s).1).length) c1,Str [],(Z98 s)] hs10 2 r0 ag54) (sG [I 1,.slice A1 (((Z94 s).1).length) c1,Str [],(Z98 s)] hs10 0 r0 ag54 (fun w11 hs13=>?_)))))
  refine tA Z35 r0 (nn (rt (fret (resC hs13 2 r0 r0 ag54 r0 (.tmp .nil)) r0 ?_)))
  have e3:addrFrom s=((1,(Z94 s).1,[],(decI (cutZ s 58)).1),true):=by(rw[addr_impl]; simp[addrOf,aOk,h3,h4,h7])
  rw[e3]
  exact⟨A1,c1,rfl,(hs13.pk [0] r0)⟩
 refine sk (nN (sq (sr (qt r0 (lG [I 3,ns,Str (cutA s 58),(Z98 s)] hs8 1 r0 ag54) (cS hs8 r0 (iAddressValid (ak:=3) (Aaq:=none) (caq:=0) (aq:=([]:List Int)) (an:=cutA s 58) (apt:=(decI (cutZ s 58)).1) (w:=_) (haq:=Sl.nil) (han_n:=(by(have hcA:=cutA_len s 58; have hcZ:=cutZ_len s 58; omega)))) (fun w12 hs14=>?_))))))
 refine qt r0 (nt r0) (nn (cd r0 (fun h8=>?_) (fun h8=>?_)))
 ·have h9:=nbF h8
  refine sr (qt r0 (bdv (v:=.agg #[I 0,ns,Str [],I 0]) [] r0 (fun _=>by kernel_rfl)) (sG Z17 hs14 0 r0 ag54 (fun w13 hs15=>?_)))
  refine tA Z6 r0 (nn (rt (tR (fret (resC hs15 2 r0 r0 ag54 r0 (.tmp .nil)) r0 ?_))))
  have hs16:=hs15.nl [Z0] r0
  have e4:addrFrom s=((0,([]:List Int),[],0),false):=by(rw[addr_impl]; simp[addrOf,aOk,h3,h4,h9])
  rw[e4]
  exact⟨none,0,rfl,(hs16.pk [3] r0)⟩
 have h10:=nbT h8
 refine sk (nN (sr (qt r0 (lG [I 3,ns,Str (cutA s 58),(Z98 s)] hs14 1 r0 ag54) (sG [I 3,ns,Str (cutA s 58),(Z98 s)] hs14 0 r0 ag54 (fun w14 hs17=>?_)))))
 refine tA Z35 r0 (nn (rt (fret (resC hs17 2 r0 r0 ag54 r0 (.tmp .nil)) r0 ?_)))
 have hs18:=hs17.nl [Z0] r0
 have e5:addrFrom s=((3,([]:List Int),cutA s 58,(decI (cutZ s 58)).1),true):=by(rw[addr_impl]; simp[addrOf,aOk,h3,h4,h10])
 rw[e5]
 exact⟨none,0,rfl,(hs18.pk [3] r0)⟩
theorem sL2Number (s:List UInt8) (w:World) (hs_n:s.length≤1099511627776):Does Tryz.prog 40 [Str s] w (fun v w'=>v=.int .i64 (numD s)∧SH w w' [] []):=by
 refine fE (N:=34) Tryz.func40 r0 (by kernel_rfl) r0 ?_
 have hs0:=SH.refl w []
 refine sr (tA (I 0) r0 (nn (sq (sr (tm (Str s) r0 (qt r0 (lnS st9 r0) (cS hs0 r0 (sIn _ 1 5 _) (fun w1 hs1=>?_))))))))
 refine qt r0 (nd r0) (nn (cdd r0 (fun h1=>?_) (fun h1=>?_)))
 ·exact sr (tA (I (-1)) r0 (nn (rt (tR (fI r0 (Eq.symm (numD_no1 (by omega))) hs1)))))
 refine sk (nN (sr (tA (I 0) r0 (nn (sq (sr (tA (I 0) r0 (nn (bl (lp (σ:=Nat) (fun(k:Nat) f w'=>Hz f [(0,Str s),(3,I (numF (s.take k))),(4,I (k:Int))]∧(k≤s.length)∧((s.take k).all digB=true)∧SH w w' [] []) (fun k=>s.length-k) 0 ⟨(zH ⟨rfl,(show (I 0:Value)=I (numF (s.take 0)) from congrArg (Value.int .i64) (by rfl)),rfl,trivial⟩),(by simp),(by simp),hs1⟩ ?_))))))))))
 rintro k f w2 ⟨⟨g1,rfl⟩,hk,ha,hs2⟩
 refine sq (sr (tm (I (k:Int)) r0 (tm (Str s) r0 (qt r0 (lnS st9 r0) (qt r0 (lss r0 r0) (nl (nN (cdd r0 (fun h2=>?_) (fun h2=>?_)))))))))
 ·refine sk (nN (sq (bl (sq (sr (tm (Str s) r0 (tm (I (k:Int)) r0 (qt r0 (ixs k st9 r0 r0 (by omega)) (qt r0 (lss r0 r0) (tm (.bool (decide ((((s.getD k 0).toNat:Nat):Int)<48))) r0 (spd 19 r0 (fun h3=>?_) (fun h3=>?_))))))))))))
  ·exact gt5 r0 (gt5 r0 (gt5 r0 (gt5 r0 (qt r0 (pt (v:=.bool true) r0 r0) (nn (cdt r0 (sr (tA (I (-1)) r0 (nn (rt (tR (bR (tR (tR (bR (tR (fI r0 (Eq.symm (numD_no2 (k:=k) (by omega) (by omega))) hs2)))))))))))))))))
  refine qh r0 (mv (v:=Str s) r0) (qh r0 (mv (v:=I (k:Int)) r0) (qh r0 (ixs k st9 r0 r0 (by omega)) (qh r0 (gtr r0 r0) (qt r0 (pf (v:=.bool (decide ((57:Int)<(((s.getD k 0).toNat:Nat):Int)))) r0 r0) (nn (cdd r0 (fun h4=>?_) (fun h4=>?_)))))))
  ·exact sr (tA (I (-1)) r0 (nn (rt (tR (bR (tR (tR (bR (tR (fI r0 (Eq.symm (numD_no2 (k:=k) (by omega) (by omega))) hs2))))))))))
  refine sk (nN (rg (tm (I (numF (s.take k))) r0 (qt r0 (mul r0 r0 (by(have hnb:=numF_bd2 (k:=k) ha (by omega); have hub:=u8_bd (s.getD k 0); exact⟨by omega,by omega⟩))) (tm (Str s) r0 (tm (I (k:Int)) r0 (qt r0 (ixs k st9 r0 r0 (by omega)) (qt r0 (subU (a:=(((s.getD k 0).toNat:Nat):Int)) (b:=48) r0 r0 (by omega) (by omega)) (qt r0 (cvI (a:=(((s.getD k 0).toNat:Nat):Int)-48) (s:=.u8) ti5 ti3 r0 (by(exact⟨by omega,by omega⟩))) (qt r0 (add r0 r0 (by(have hnb:=numF_bd2 (k:=k) ha (by omega); have hub:=u8_bd (s.getD k 0); exact⟨by omega,by omega⟩))) (tA (I ((10*(numF (s.take k)))+((((s.getD k 0).toNat:Nat):Int)-48))) r0 (nl (bN (nN (rg (tm (I (k:Int)) r0 (qt r0 (add r0 r0 (by(exact⟨by omega,by omega⟩))) (tA (I ((k:Int)+1)) r0 (nn ?_)))))))))))))))))))
  refine⟨(k+1),⟨(zH ⟨rfl,(show (I ((10*(numF (s.take k)))+((((s.getD k 0).toNat:Nat):Int)-48)):Value)=I (numF (s.take (k+1))) from congrArg (Value.int .i64) (by rw[numF_take (by omega)])),rfl,trivial⟩),(by omega),(all_step (d:=0) (by omega) ha (by simp only[digB,decide_eq_true_eq]; omega)),hs2⟩,?_⟩
  omega
 exact ex (tE (tE (bE (nN (sr (tm (I (numF (s.take k))) r0 (tA (I (numF (s.take k))) r0 (nn (rt (fI r0 (numD_yes (by omega) (by omega) ha) hs2))))))))))
theorem sQuadText {Aqs:Option Addr} {cqs:Nat} (qs:List Int) (w:World) (hqs:Sl w [] 1 Aqs qs.length cqs (qs.map I)):Does Tryz.prog 137 [.slice Aqs qs.length cqs] w (fun v w'=>v=Str (quadQ qs)∧SH w w' [] []):=by
 refine fE (N:=8) Tryz.func137 r0 (by kernel_rfl) r0 ?_
 have hs0:=SH.refl w []
 have hqs_m:qs.length≤9223372036854775807:=Nat.le_trans hqs.cap hqs.capMax
 refine sr (tA (Str []) r0 (nn (sq (sr (tm (Z14 Aqs qs cqs) r0 (cS hs0 r0 (sQuadValid _ _ (hqs.up0 hs0)) (fun w1 hs1=>?_)))))))
 refine qt r0 (nt r0) (nn (cd r0 (fun h1=>?_) (fun h1=>?_)))
 ·have h2:=nbF h1
  exact sr (tA (Str []) r0 (nn (rt (tR (fS r0 (by simp[quadQ,h2]) hs1)))))
 have h3:=nbT h1
 refine sk (nN (sr (tm (Z14 Aqs qs cqs) r0 (cS hs1 r0 (sL2Quad _ _ (hqs.up0 hs1) (by omega)) (fun w2 hs2=>?_)))))
 refine tA (Str (quadT qs)) r0 (nn (rt (fT (Str (quadT qs)) r0 ?_)))
 have e2:quadT qs=quadQ qs:=by simp[quadQ,h3]
 exact⟨(congrArg (Str) e2),hs2⟩
theorem sQuadFrom (s:List UInt8) (w:World) (hs_n:s.length≤1099511627776):Does Tryz.prog 82 [Str s] w (fun v w'=>∃ Ar:Option Addr,∃ cr:Nat,v=.tuple #[.slice Ar ((quadFrom s).1).length cr,.bool ((quadFrom s).2)]∧SH w w' [] [.own Ar (((quadFrom s).1).length) cr 3 1 (((quadFrom s).1).map I)]):=by
 refine fE (N:=34) Tryz.func82 r0 (by kernel_rfl) r0 ?_
 have hs0:=SH.refl w []
 refine sr (tA ns r0 (tA Z6 r0 (nx (tm (Str s) r0 (cS2 hs0 r0 (l2Cut _ (46:UInt8) _ (by omega)) (fun A1 c1 w1 hs1=>?_))))))
 refine tA (.slice A1 ((splitB (46:UInt8) s).length) c1) r0 (nx (bsk hs1 sl24 [] [] trivial r0 (fun b1 w2 hs2=>?_)))
 refine tA (sb b1 (([]:List Int).length) 0) r0 (nn (sq (sr (tA (I 0) r0 (nl (nN (bl ?_)))))))
 have e1:([]:List Int)=(quadD s).take 0:=by simp
 have e2:([]:List Int).length=((quadD s).take 0).length:=by rw[e1]
 refine lp (σ:=(Option Addr)×Nat×Nat) (fun⟨Ag5,cg5,k⟩ f w'=>Hz f [(0,Str s),(4,.slice A1 ((splitB (46:UInt8) s).length) c1),(5,.slice Ag5 (((quadD s).take k).length) cg5),(6,I (k:Int))]∧(k≤(splitB 46 s).length)∧SH w w' [] [.own A1 ((splitB (46:UInt8) s).length) c1 9 1 ((splitB (46:UInt8) s).map Str),.own Ag5 (((quadD s).take k).length) cg5 3 1 (((quadD s).take k).map I)]) (fun⟨Ag5,cg5,k⟩=>(splitB 46 s).length-k) ((Z8 b1),0,0) ⟨(zH ⟨rfl,rfl,(show (.slice (Z8 b1) (([]:List Int).length) 0:Value)=.slice (Z8 b1) (((quadD s).take 0).length) 0 from slv r0 e2 r0),rfl,trivial⟩),(by simp),(hs2.cast (lc r0 (lc (own_eq (g:=I) r0 e2 r0 e1) r0)))⟩ ?_
 rintro ⟨Ag5,cg5,k⟩ f w3 ⟨⟨g1,rfl⟩,hk,hs3⟩
 refine sq (sr (tm (I (k:Int)) r0 (tm (.slice A1 ((splitB (46:UInt8) s).length) c1) r0 (qt r0 (lnA sl51 r0) (qt r0 (lss r0 r0) (nl (nN (cdd r0 (fun h1=>?_) (fun h1=>?_)))))))))
 ·refine sk (nN (sq (bl (rg (tm (.slice Ag5 (((quadD s).take k).length) cg5) r0 (tm (.slice A1 ((splitB (46:UInt8) s).length) c1) r0 (tm (I (k:Int)) r0 (ixw1 k sl51 r0 r0 (hs3.sl0 0 r0) (by omega) (getm Str [] (by omega)) trivial r0 (fun a1 ha1=>?_)))))))))
  have hsl:=splitB_len 46 s
  have hsb:=splitB_getD 46 s k
  have hcl:=List.count_le_length (a:=(46:UInt8)) (l:=s)
  refine qt r0 (lda (SH.refl w3 []) ha1 (fun _ h=>h) r0 r0 one9) (cS hs3 r0 (sL2Number ((splitB (46:UInt8) s).getD k []) _ (by omega)) (fun w4 hs4=>?_))
  refine bsk hs4 sl24 [I (numD ((splitB (46:UInt8) s).getD k []))] [I (numD ((splitB (46:UInt8) s).getD k []))] trivial r0 (fun b2 w5 hs5=>?_)
  refine apm (g:=I) (ys:=(quadD s).take k) (zs:=([numD ((splitB (46:UInt8) s).getD k [])]:List Int)) hs5 1 r0 sl24 r0 r0 r0 (hs5.sl0 2 r0) (fun _=>rfl) (by unfold maxLen; ((simp; omega))) (by((simp; omega))) trivial r0 (fun A2 c2 w6 hs6=>?_)
  refine tA (.slice A2 ((((quadD s).take k)++([numD ((splitB (46:UInt8) s).getD k [])]:List Int)).length) c2) r0 (nl (bN (nN (rg (tm (I (k:Int)) r0 (qt r0 (add r0 r0 (by(exact⟨by omega,by omega⟩))) (tA (I ((k:Int)+1)) r0 (nn ?_))))))))
  have e3:((quadD s).take k)++([numD ((splitB (46:UInt8) s).getD k [])]:List Int)=(quadD s).take (k+1):=by exact quadD_app (by omega)
  have e4:(((quadD s).take k)++([numD ((splitB (46:UInt8) s).getD k [])]:List Int)).length=((quadD s).take (k+1)).length:=by rw[e3]
  refine⟨(A2,c2,k+1),⟨(zH ⟨rfl,rfl,(show (.slice A2 ((((quadD s).take k)++([numD ((splitB (46:UInt8) s).getD k [])]:List Int)).length) c2:Value)=.slice A2 (((quadD s).take (k+1)).length) c2 from slv r0 e4 r0),rfl,trivial⟩),(by omega),((hs6.pq [0,2] r0).cast (lc r0 (lc (own_eq (g:=I) r0 e4 r0 e3) r0)))⟩,?_⟩
  show (splitB 46 s).length-(k+1)<(splitB 46 s).length-k
  omega
 refine ex (tE (tE (bE (nN (sq (sr (tm (.slice Ag5 (((quadD s).take k).length) cg5) r0 (cS hs3 r0 (sQuadText _ _ (hs3.sl0 1 r0)) (fun w7 hs7=>?_)))))))))
 refine tm (Str s) r0 (qt r0 (nes r0 r0) (tm (.bool (decide (quadQ ((quadD s).take k)≠s))) r0 (spd 28 r0 (fun h2=>?_) (fun h2=>?_))))
 ·refine gt5 r0 (gt5 r0 (qt r0 (pt (v:=.bool true) r0 r0) (nn (cdt r0 (sr (bsk hs7 sl24 [] [] trivial r0 (fun b3 w8 hs8=>?_)))))))
  refine tA (sb b3 (([]:List Int).length) 0) r0 (tA Z6 r0 (nn (rt (tR (fret (.tmp (.tmp .nil)) r0 ?_)))))
  have e5:quadFrom s=(([]:List Int),false):=by((try rw[quadD_all (k:=k) (by omega)]at*); exact quad_s2 (fun hq=>absurd hq.1 ‹_›))
  rw[e5]
  exact⟨(Z8 b3),0,rfl,(hs8.pk [2] r0)⟩
 refine qh r0 (mv (v:=Str s) r0) (qh r0 (eqs r0 r0) (qt r0 (pf (v:=.bool (decide (s=[]))) r0 r0) (nn (cdd r0 (fun h3=>?_) (fun h3=>?_)))))
 ·refine sr (bsk hs7 sl24 [] [] trivial r0 (fun b4 w9 hs9=>?_))
  refine tA (sb b4 (([]:List Int).length) 0) r0 (tA Z6 r0 (nn (rt (tR (fret (.tmp (.tmp .nil)) r0 ?_)))))
  have e6:quadFrom s=(([]:List Int),false):=by((try rw[quadD_all (k:=k) (by omega)]at*); exact quad_s2 (fun hq=>absurd ‹_› hq.2))
  rw[e6]
  exact⟨(Z8 b4),0,rfl,(hs9.pk [2] r0)⟩
 refine sk (nN (sr (tm (.slice Ag5 (((quadD s).take k).length) cg5) r0 (tA (.slice Ag5 (((quadD s).take k).length) cg5) r0 (tA Z35 r0 (nl (nN (rt (fret (.tmp (.tmp .nil)) r0 ?_)))))))))
 have e7:quadFrom s=((quadD s).take k,true):=by((try rw[quadD_all (k:=k) (by omega)]at*); exact quad_s1 ‹_› ‹_›)
 rw[e7]
 exact⟨Ag5,cg5,rfl,(hs7.pk [1] r0)⟩
theorem sL3Of (s:List UInt8) (n:Int) (w:World) (hs_n:s.length≤1099511627776):Does Tryz.prog 39 [Str s,I n] w (fun v w'=>∃ Aqr:Option Addr,∃ cqr:Nat,v=.agg #[.int .i64 ((addrOf s n).1),.slice Aqr ((addrOf s n).2.1).length cqr,Str ((addrOf s n).2.2.1),.int .i64 ((addrOf s n).2.2.2)]∧SH w w' [] [.own Aqr (((addrOf s n).2.1).length) cqr 3 1 (((addrOf s n).2.1).map I)]):=by
 refine fE (N:=20) Tryz.func39 r0 (by kernel_rfl) r0 ?_
 have hs0:=SH.refl w []
 refine sr (al (cs:=Z17) hs0 tz54 r0 trivial r0 (fun b1 w1 hs1=>?_))
 refine nx (tm (Str s) r0 (cS2 hs1 r0 (sQuadFrom _ _ (by omega)) (fun A1 c1 w2 hs2=>?_)))
 refine tm (.tuple #[.slice A1 (((quadFrom s).1).length) c1,.bool ((quadFrom s).2)]) r0 (qt r0 (xt 0 r0 r0) (qt r0 (xt 1 r0 r0) (tA (.slice A1 (((quadFrom s).1).length) c1) r0 (tA (.bool ((quadFrom s).2)) r0 (nn (sq (sr (tm (.bool ((quadFrom s).2)) r0 (nn (cd r0 (fun h1=>?_) (fun h1=>?_)))))))))))
 ·refine sr (tm (.slice A1 (((quadFrom s).1).length) c1) r0 (tm (I n) r0 (qt r0 (bdv (v:=.agg #[I 1,.slice A1 (((quadFrom s).1).length) c1,Str [],I n]) [(0,I 1),(1,.slice A1 (((quadFrom s).1).length) c1),(3,I n)] r0 (fun _=>by kernel_rfl)) (sG [I 1,.slice A1 (((quadFrom s).1).length) c1,Str [],I n] hs2 0 r0 ag54 (fun w3 hs3=>?_)))))
  refine nn (rt (tR (fret (resC hs3 1 r0 r0 ag54 r0 .nil) r0 ?_)))
  have e1:1=(addrOf s n).1:=by simp[addrOf,h1]
  have e2:(quadFrom s).1=(addrOf s n).2.1:=by simp[addrOf,h1]
  have e3:=congrArg List.length e2
  have e4:[]=(addrOf s n).2.2.1:=by simp[addrOf,h1]
  have e5:n=(addrOf s n).2.2.2:=by simp[addrOf,h1]
  exact⟨A1,c1,(aggv (lc (congrArg (Value.int .i64) e1) (lc (slv r0 e3 r0) (lc (congrArg (Str) e4) (lc (congrArg (Value.int .i64) e5) r0))))),((hs3.pq [0] r0).cast (lc (own_eq (g:=I) r0 e3 r0 e2) r0))⟩
 refine sk (nN (sr (bsk hs2 sl24 [] [] trivial r0 (fun b2 w4 hs4=>?_))))
 refine tm (Str s) r0 (tm (I n) r0 (qt r0 (bdv (v:=.agg #[I 3,(Z56 b2),Str s,I n]) [(0,I 3),(1,sb b2 (([]:List Int).length) 0),(2,Str s),(3,I n)] r0 (fun _=>by kernel_rfl)) (sG [I 3,(Z56 b2),Str s,I n] hs4 0 r0 ag54 (fun w5 hs5=>?_))))
 refine nn (rt (fret (resC hs5 2 r0 r0 ag54 r0 .nil) r0 ?_))
 have e6:3=(addrOf s n).1:=by simp[addrOf,h1]
 have e7:([]:List Int)=(addrOf s n).2.1:=by simp[addrOf,h1]
 have e8:=congrArg List.length e7
 have e9:s=(addrOf s n).2.2.1:=by simp[addrOf,h1]
 have e10:n=(addrOf s n).2.2.2:=by simp[addrOf,h1]
 exact⟨(Z8 b2),0,(aggv (lc (congrArg (Value.int .i64) e6) (lc (slv r0 e8 r0) (lc (congrArg (Str) e9) (lc (congrArg (Value.int .i64) e10) r0))))),((hs5.pq [1] r0).cast (lc (own_eq (g:=I) r0 e8 r0 e7) r0))⟩
set_option maxHeartbeats 8000000 in
theorem sAddressFrom (s:List UInt8) (w:World) (hs_n:s.length≤1099511627776):Does Tryz.prog 17 [Str s] w (fun v w'=>∃ Aqr:Option Addr,∃ cqr:Nat,v=.tuple #[.agg #[.int .i64 ((addrFrom s).1.1),.slice Aqr ((addrFrom s).1.2.1).length cqr,Str ((addrFrom s).1.2.2.1),.int .i64 ((addrFrom s).1.2.2.2)],.bool ((addrFrom s).2)]∧SH w w' [] [.own Aqr (((addrFrom s).1.2.1).length) cqr 3 1 (((addrFrom s).1.2.1).map I)]):=by
 refine fE (N:=31) Tryz.func17 r0 (by kernel_rfl) r0 ?_
 have hs0:=SH.refl w []
 refine sr (al (cs:=Z17) hs0 tz54 r0 trivial r0 (fun b1 w1 hs1=>?_))
 refine tA Z6 r0 (nx (tm (Str s) r0 (cL r0 (l2Cut _ (58:UInt8) _ (by omega)) ?_)))
 rintro _ w2 ⟨A1,c1,rfl,hs2'⟩
 have hs2:=hs1.call0 hs2'
 clear hs2'
 refine tA (.slice A1 ((splitB (58:UInt8) s).length) c1) r0 (nn (sq (sr (tm (.slice A1 ((splitB (58:UInt8) s).length) c1) r0 (qt r0 (lnA sl51 r0) (qt r0 (nei r0 r0) (nn (cdd r0 (fun h1=>?_) (fun h1=>?_)))))))))
 ·refine sr (qt r0 (bdv (v:=.agg #[I 0,ns,Str [],I 0]) [] r0 (fun _=>by kernel_rfl)) (sG Z17 hs2 0 r0 ag54 (fun w3 hs3=>?_)))
  refine tA Z6 r0 (nn (rt (tR (fret (resC hs3 1 r0 r0 ag54 r0 (.tmp .nil)) r0 ?_))))
  have hs4:=hs3.nl [Z0] r0
  have e1:addrFrom s=((0,([]:List Int),[],0),false):=by exact addr_s0 ‹_›
  rw[e1]
  exact⟨none,0,rfl,(hs4.pk [2] r0)⟩
 refine sk (nN (sq ?_))
 obtain ⟨b2,rfl⟩:=own_form hs2 1 r0 (by omega)
 refine raJ (fun w'=>∃ L,SH w w' [] L∧(.blk b1 54 Z17)∈L∧(.own (Z8 b2) ((splitB (58:UInt8) s).length) c1 9 1 ((splitB (58:UInt8) s).map Str))∈L∧True) (fun f w'=>∃ (b8':Nat) (Aq7':Option Addr) (cq7':Nat),Hz f [(0,Str s),(2,pB b1),(5,pB b8')]∧SH w w' [] [.blk b1 54 Z17,.own (Z8 b2) ((splitB (58:UInt8) s).length) c1 9 1 ((splitB (58:UInt8) s).map Str),(Z67 Aq7' s cq7'),.blk b8' 54 (Z13 s Aq7' cq7')]) mixed ?_ ?_
 ·refine dG 1 10 511 (fun f w'=>∃ (b8':Nat) (Aq7':Option Addr) (cq7':Nat),Hz f [(0,Str s),(2,pB b1),(5,pB b8'),(19,.agg #[(Z146 s),(Z153 Aq7' s cq7'),(Z139 s),(Z142 s)])]∧SH w w' [] [.blk b1 54 Z17,.own (Z8 b2) ((splitB (58:UInt8) s).length) c1 9 1 ((splitB (58:UInt8) s).map Str),(Z67 Aq7' s cq7'),.blk b8' 54 Z17]) ?_ (fun D_4_0=>?_)
  ·rintro f w4 ⟨b8',Aq7',cq7',⟨g1,rfl⟩,hs5⟩
   refine aO 9 r0 (sG (Z13 s Aq7' cq7') hs5 3 r0 ag54 (fun w5 hs6=>?_))
   refine nk ⟨_,hs6,memi 0 r0,memi 1 r0,trivial⟩ (ad (by kernel_rfl) ?_)
   exact⟨b8',Aq7',cq7',(zR r0),hs6⟩
  refine dG 2 10 255 (fun f w'=>∃ (Aq7':Option Addr) (cq7':Nat),Hz f [(0,Str s),(2,pB b1),(19,.agg #[(Z146 s),(Z153 Aq7' s cq7'),(Z139 s),(Z142 s)])]∧SH w w' [] [.blk b1 54 Z17,.own (Z8 b2) ((splitB (58:UInt8) s).length) c1 9 1 ((splitB (58:UInt8) s).map Str),(Z67 Aq7' s cq7')]) ?_ (fun D_4_1=>?_)
  ·rintro f w6 ⟨Aq7',cq7',⟨g2,rfl⟩,hs7⟩
   refine aO 8 r0 (al (cs:=Z17) hs7 tz54 r0 trivial r0 (fun b8' w7 hs8=>?_))
   exact nk ⟨_,hs8,memi 0 r0,memi 1 r0,trivial⟩ (alc D_4_0 ⟨b8',Aq7',cq7',(zR r0),hs8⟩)
  refine dG 2 10 383 (fun f w'=>∃ (b8':Nat),Hz f [(0,Str s),(2,pB b1),(5,pB b8'),(14,Str ((splitB (58:UInt8) s).getD 0 [])),(18,I (numD ((splitB (58:UInt8) s).getD 1 [])))]∧SH w w' [] [.blk b1 54 Z17,.own (Z8 b2) ((splitB (58:UInt8) s).length) c1 9 1 ((splitB (58:UInt8) s).map Str),.blk b8' 54 Z17]) ?_ (fun D_4_2=>?_)
  ·rintro f w8 ⟨b8',⟨g3,rfl⟩,hs9⟩
   refine aO 7 r0 (cL r0 (sL3Of ((splitB (58:UInt8) s).getD 0 []) (numD ((splitB (58:UInt8) s).getD 1 [])) _ (by(have hs0:=splitB_getD 58 s 0; have hs1:=splitB_getD 58 s 1; have hs2:=addrOf_len ((splitB 58 s).getD 0 []) (numD ((splitB 58 s).getD 1 [])); omega))) ?_)
   rintro _ w9 ⟨Aq7',cq7',rfl,hs10⟩
   replace hs10:=hs9.call0 hs10
   exact nk ⟨_,hs10,memi 0 r0,memi 1 r0,trivial⟩ (alc D_4_0 ⟨b8',Aq7',cq7',(zR r0),(hs10.pk [0,1,3,2] r0)⟩)
  refine dG 3 10 127 (fun f w'=>Hz f [(0,Str s),(2,pB b1),(14,Str ((splitB (58:UInt8) s).getD 0 [])),(18,I (numD ((splitB (58:UInt8) s).getD 1 [])))]∧SH w w' [] [.blk b1 54 Z17,.own (Z8 b2) ((splitB (58:UInt8) s).length) c1 9 1 ((splitB (58:UInt8) s).map Str)]) ?_ (fun D_4_3=>?_)
  ·rintro f w10 ⟨⟨g4,rfl⟩,hs11⟩
   refine aaL [7,8] (fa_cons ?_ (fa_one ?_))
   ·refine one_ r0 (cL r0 (sL3Of ((splitB (58:UInt8) s).getD 0 []) (numD ((splitB (58:UInt8) s).getD 1 [])) _ (by(have hs0:=splitB_getD 58 s 0; have hs1:=splitB_getD 58 s 1; have hs2:=addrOf_len ((splitB 58 s).getD 0 []) (numD ((splitB 58 s).getD 1 [])); omega))) ?_)
    rintro _ w11 ⟨Aq7',cq7',rfl,hs12⟩
    replace hs12:=hs11.call0 hs12
    exact nk ⟨_,hs12,memi 0 r0,memi 1 r0,trivial⟩ (alc D_4_1 ⟨Aq7',cq7',(zR r0),hs12⟩)
   refine one_ r0 (al (cs:=Z17) hs11 tz54 r0 trivial r0 (fun b8' w12 hs13=>?_))
   exact nk ⟨_,hs13,memi 0 r0,memi 1 r0,trivial⟩ (alc D_4_2 ⟨b8',(zR r0),hs13⟩)
  refine dG 3 10 319 (fun f w'=>∃ (b8':Nat),Hz f [(0,Str s),(2,pB b1),(5,pB b8'),(14,Str ((splitB (58:UInt8) s).getD 0 [])),(17,Str ((splitB (58:UInt8) s).getD 1 []))]∧SH w w' [] [.blk b1 54 Z17,.own (Z8 b2) ((splitB (58:UInt8) s).length) c1 9 1 ((splitB (58:UInt8) s).map Str),.blk b8' 54 Z17]) ?_ (fun D_4_4=>?_)
  ·rintro f w13 ⟨b8',⟨g5,rfl⟩,hs14⟩
   refine aO 6 r0 (cS hs14 r0 (sL2Number ((splitB (58:UInt8) s).getD 1 []) _ (by(have hs0:=splitB_getD 58 s 0; have hs1:=splitB_getD 58 s 1; have hs2:=addrOf_len ((splitB 58 s).getD 0 []) (numD ((splitB 58 s).getD 1 [])); omega))) (fun w14 hs15=>?_))
   exact nk ⟨_,hs15,memi 0 r0,memi 1 r0,trivial⟩ (alc D_4_2 ⟨b8',(zR r0),hs15⟩)
  refine dG 4 10 63 (fun f w'=>Hz f [(0,Str s),(2,pB b1),(14,Str ((splitB (58:UInt8) s).getD 0 [])),(17,Str ((splitB (58:UInt8) s).getD 1 []))]∧SH w w' [] [.blk b1 54 Z17,.own (Z8 b2) ((splitB (58:UInt8) s).length) c1 9 1 ((splitB (58:UInt8) s).map Str)]) ?_ (fun D_4_5=>?_)
  ·rintro f w15 ⟨⟨g6,rfl⟩,hs16⟩
   refine aaL [6,8] (fa_cons ?_ (fa_one ?_))
   ·refine one_ r0 (cS hs16 r0 (sL2Number ((splitB (58:UInt8) s).getD 1 []) _ (by(have hs0:=splitB_getD 58 s 0; have hs1:=splitB_getD 58 s 1; have hs2:=addrOf_len ((splitB 58 s).getD 0 []) (numD ((splitB 58 s).getD 1 [])); omega))) (fun w16 hs17=>?_))
    exact nk ⟨_,hs17,memi 0 r0,memi 1 r0,trivial⟩ (alc D_4_3 ⟨(zR r0),hs17⟩)
   refine one_ r0 (al (cs:=Z17) hs16 tz54 r0 trivial r0 (fun b8' w17 hs18=>?_))
   exact nk ⟨_,hs18,memi 0 r0,memi 1 r0,trivial⟩ (alc D_4_4 ⟨b8',(zR r0),hs18⟩)
  have hs19:=hs2.drew
  exact tk (fuel:=4) (is:=[0,1,2,3,4,5]) (.cons r0 (.cons r0 (.cons r0 (.cons r0 (.cons r0 (.cons r0 (.nil))))))) (by kernel_rfl) (by kernel_rfl) ⟨_,hs19,memi 0 r0,memi 1 r0,trivial⟩ (yA r0 (mv (v:=sb b2 ((splitB (58:UInt8) s).length) c1) r0) (yA r0 (ixo 0 sl51 r0 r0 (by omega)) (yB r0 (fun ⟨Lq,hsq,mh0,mh1,_⟩=>ldo1m (g:=Str) (ys:=splitB (58:UInt8) s) (o:=0) [] hsq mh1 r0 (by omega) one9) (yA r0 (mv (v:=sb b2 ((splitB (58:UInt8) s).length) c1) r0) (yA r0 (ixo 1 sl51 r0 r0 (by omega)) (yB r0 (fun ⟨Lq,hsq,mh0,mh1,_⟩=>ldo1m (g:=Str) (ys:=splitB (58:UInt8) s) (o:=1) [] hsq mh1 r0 (by omega) one9) (.nil (alc D_4_5 ⟨(zR r0),hs19⟩))))))))
 rintro f w18 ⟨b8',Aq7',cq7',⟨g7,rfl⟩,hs20⟩
 refine nN (sq (sr (qt r0 (lG (Z13 s Aq7' cq7') hs20 3 r0 ag54) (cS hs20 r0 (sAddressValid ((addrOf ((splitB (58:UInt8) s).getD 0 []) (numD ((splitB (58:UInt8) s).getD 1 []))).1) ((addrOf ((splitB (58:UInt8) s).getD 0 []) (numD ((splitB (58:UInt8) s).getD 1 []))).2.1) ((addrOf ((splitB (58:UInt8) s).getD 0 []) (numD ((splitB (58:UInt8) s).getD 1 []))).2.2.1) ((addrOf ((splitB (58:UInt8) s).getD 0 []) (numD ((splitB (58:UInt8) s).getD 1 []))).2.2.2) _ (hs20.sl0 2 r0) (by(have hs0:=splitB_getD 58 s 0; have hs1:=splitB_getD 58 s 1; have hs2:=addrOf_len ((splitB 58 s).getD 0 []) (numD ((splitB 58 s).getD 1 [])); omega))) (fun w19 hs21=>?_)))))
 refine qt r0 (nt r0) (tm (.bool (!(addrOk ((addrOf ((splitB (58:UInt8) s).getD 0 []) (numD ((splitB (58:UInt8) s).getD 1 []))).1) ((addrOf ((splitB (58:UInt8) s).getD 0 []) (numD ((splitB (58:UInt8) s).getD 1 []))).2.1) ((addrOf ((splitB (58:UInt8) s).getD 0 []) (numD ((splitB (58:UInt8) s).getD 1 []))).2.2.1) ((addrOf ((splitB (58:UInt8) s).getD 0 []) (numD ((splitB (58:UInt8) s).getD 1 []))).2.2.2)))) r0 (spl 23 r0 (fun h2=>?_) (fun h2=>?_)))
 ·have h3:=nbF h2
  refine gt5 r0 (gt5 r0 (gt5 r0 (gt5 r0 (qt r0 (pt (v:=.bool true) r0 r0) (nn (cdt r0 (sr (qt r0 (bdv (v:=.agg #[I 0,ns,Str [],I 0]) [] r0 (fun _=>by kernel_rfl)) (sG Z17 hs21 0 r0 ag54 (fun w20 hs22=>?_))))))))))
  refine tA Z6 r0 (nn ?_)
  have hs23:=hs22.pq [3] r0
  refine rt (tR (fret (resC hs23 0 r0 r0 ag54 r0 (.tmp .nil)) r0 ?_))
  have hs24:=hs23.nl [Z0] r0
  have e2:addrFrom s=((0,([]:List Int),[],0),false):=by exact addr_s1 ‹_›
  rw[e2]
  exact⟨none,0,rfl,(hs24.pk [1] r0)⟩
 have h4:=nbT h2
 refine qh r0 (lG (Z13 s Aq7' cq7') hs21 3 r0 ag54) (cl ⟨_,rfl,rfl⟩ r0 (sAddressText ((addrOf ((splitB (58:UInt8) s).getD 0 []) (numD ((splitB (58:UInt8) s).getD 1 []))).1) ((addrOf ((splitB (58:UInt8) s).getD 0 []) (numD ((splitB (58:UInt8) s).getD 1 []))).2.1) ((addrOf ((splitB (58:UInt8) s).getD 0 []) (numD ((splitB (58:UInt8) s).getD 1 []))).2.2.1) ((addrOf ((splitB (58:UInt8) s).getD 0 []) (numD ((splitB (58:UInt8) s).getD 1 []))).2.2.2) _ (hs21.sl0 2 r0) (by(have hs0:=splitB_getD 58 s 0; have hs1:=splitB_getD 58 s 1; have hs2:=addrOf_len ((splitB 58 s).getD 0 []) (numD ((splitB 58 s).getD 1 [])); omega))) ?_)
 rintro _ w21 ⟨rfl,hs25⟩
 replace hs25:=hs21.call0 hs25
 refine qh r0 (mv (v:=Str s) r0) (qh r0 (nes r0 r0) (qt r0 (pf (v:=.bool (decide (addrT ((addrOf ((splitB (58:UInt8) s).getD 0 []) (numD ((splitB (58:UInt8) s).getD 1 []))).1) ((addrOf ((splitB (58:UInt8) s).getD 0 []) (numD ((splitB (58:UInt8) s).getD 1 []))).2.1) ((addrOf ((splitB (58:UInt8) s).getD 0 []) (numD ((splitB (58:UInt8) s).getD 1 []))).2.2.1) ((addrOf ((splitB (58:UInt8) s).getD 0 []) (numD ((splitB (58:UInt8) s).getD 1 []))).2.2.2)≠s))) r0 r0) (nn (cdd r0 (fun h5=>?_) (fun h5=>?_)))))
 ·refine sr (qt r0 (bdv (v:=.agg #[I 0,ns,Str [],I 0]) [] r0 (fun _=>by kernel_rfl)) (sG Z17 hs25 0 r0 ag54 (fun w22 hs26=>?_)))
  refine tA Z6 r0 (nn ?_)
  have hs27:=hs26.pq [3] r0
  refine rt (tR (fret (resC hs27 0 r0 r0 ag54 r0 (.tmp .nil)) r0 ?_))
  have hs28:=hs27.nl [Z0] r0
  have e3:addrFrom s=((0,([]:List Int),[],0),false):=by exact addr_s2 ‹_›
  rw[e3]
  exact⟨none,0,rfl,(hs28.pk [1] r0)⟩
 refine sk (nN (sr (qt r0 (lG (Z13 s Aq7' cq7') hs25 3 r0 ag54) (sG (Z13 s Aq7' cq7') hs25 0 r0 ag54 (fun w23 hs29=>?_)))))
 refine tA Z35 r0 (nn ?_)
 have hs30:=hs29.pq [1,3] r0
 refine rt (fret (resC hs30 1 r0 r0 ag54 r0 (.tmp .nil)) r0 ?_)
 have e4:addrFrom s=(((addrOf ((splitB (58:UInt8) s).getD 0 []) (numD ((splitB (58:UInt8) s).getD 1 []))).1,(addrOf ((splitB (58:UInt8) s).getD 0 []) (numD ((splitB (58:UInt8) s).getD 1 []))).2.1,(addrOf ((splitB (58:UInt8) s).getD 0 []) (numD ((splitB (58:UInt8) s).getD 1 []))).2.2.1,(addrOf ((splitB (58:UInt8) s).getD 0 []) (numD ((splitB (58:UInt8) s).getD 1 []))).2.2.2),true):=by exact addr_sy ‹_› ‹_› ‹_›
 rw[e4]
 exact⟨Aq7',cq7',rfl,(hs30.pk [0] r0)⟩
theorem slIndexFuncL (p:Lg→Bool) {Azs:Option Addr} {czs:Nat} (zs:List (List UInt8×List UInt8)) (kf:FuncId) (w:World) (hzs:Sl w [] 2 Azs zs.length czs (zs.flatMap gLogin)) (hzs_e: ∀ u∈zs,u.1.length≤9223372036854775807∧u.2.length≤9223372036854775807) (hf: ∀ (x:Lg) (w:World) (_:x.1.length≤9223372036854775807∧x.2.length≤9223372036854775807),Does Tryz.prog kf [.agg #[Str x.1,Str x.2]] w (fun v w'=>v=.bool (p x)∧SH w w' [] [])):Does Tryz.prog 105 [.slice Azs zs.length czs,.func (.func kf) #[] #[]] w (fun v w'=>v=.int .i64 (idxP p zs)∧SH w w' [] []):=by
 refine fE (N:=19) Tryz.func105 r0 (by kernel_rfl) r0 ?_
 have hs0:=SH.refl w []
 have hzs_m:zs.length≤9223372036854775807:=Nat.le_trans hzs.cap hzs.capMax
 refine sr (tA (I 0) r0 (nn (sq (sr (tm (Z87 Azs zs czs) r0 (qt r0 (lnA sl25 r0) (tm (I 0) r0 (nn (bl (lp (σ:=Nat) (fun(k:Nat) f w'=>Has f [(0,.slice Azs zs.length czs),(1,.func (.func kf) #[] #[]),(7,I (zs.length:Int)),(8,I (k:Int))]∧(k≤zs.length)∧(∀ j,j<k→p (zs.getD j login0)=false)∧SH w w' [] []) (fun k=>zs.length-k) 0 ⟨(hA r0),(by simp),(by intro j hj; omega),hs0⟩ ?_))))))))))
 rintro k f w1 ⟨hf,hk,hn,hs1⟩
 obtain ⟨g1,rfl⟩:=has_upd hf
 clear hf
 refine sr (qt r0 (lss r0 r0) (nn (sq (cdd r0 (fun h1=>?_) (fun h1=>?_)))))
 ·refine sk (nN (sq (bl (sr (tm (I (k:Int)) r0 (tA (I (k:Int)) r0 (nx (tm (.func (.func kf) #[] #[]) r0 (tm (Z87 Azs zs czs) r0 (tm (I (k:Int)) r0 (ixwf (g:=gLogin) (zs:=zs) (fun _=>rfl) login0 k sl25 r0 r0 hzs (by omega) (by omega) trivial r0 (fun a1 ha1=>?_))))))))))))
  refine qt r0 (ldag (us:=(Z115 zs k)) hs1 ha1 (fun _ h=>h) r0 r0 ag31) (clv (k:=kf) trivial r0 r0 (hf (zs.getD k login0) _ (hzs_e _ (getD_mem' (by omega)))) ?_)
  rintro _ w2 ⟨rfl,hs2⟩
  replace hs2:=hs1.call0 hs2
  refine nn (cd r0 (fun h2=>?_) (fun h2=>?_))
  ·exact sr (tm (I (k:Int)) r0 (tA (I (k:Int)) r0 (nn (rt (bR (tR (tR (bR (tR (fI r0 (idxP_eq (d:=login0) (by omega) hn h2) hs2))))))))))
  refine sk (bN (nN (rg (qt r0 (add r0 r0 (by exact⟨by omega,by omega⟩)) (tm (I ((k:Int)+1)) r0 (nn ?_))))))
  refine⟨(k+1),⟨(hA r0),(by omega),(by intro j hj; rcases Nat.lt_succ_iff_lt_or_eq.1 hj with h | h; exact hn j h; subst h; exact h2),hs2⟩,?_⟩
  omega
 refine ex (tE (tE (bE (nN (sr (tA (I (-1)) r0 (nn (rt (fT (I (-1)) r0 ?_)))))))))
 have e2:(-1)=idxP p zs:=by exact idxP_none (d:=login0) (fun j hj=>hn j (by omega))
 exact⟨(congrArg (Value.int .i64) e2),hs1⟩
theorem slContainsFuncL (p:Lg→Bool) {Azs:Option Addr} {czs:Nat} (zs:List (List UInt8×List UInt8)) (kf:FuncId) (w:World) (hzs:Sl w [] 2 Azs zs.length czs (zs.flatMap gLogin)) (hzs_e: ∀ u∈zs,u.1.length≤9223372036854775807∧u.2.length≤9223372036854775807) (hf: ∀ (x:Lg) (w:World) (_:x.1.length≤9223372036854775807∧x.2.length≤9223372036854775807),Does Tryz.prog kf [.agg #[Str x.1,Str x.2]] w (fun v w'=>v=.bool (p x)∧SH w w' [] [])):Does Tryz.prog 61 [.slice Azs zs.length czs,.func (.func kf) #[] #[]] w (fun v w'=>v=.bool (zs.any p)∧SH w w' [] []):=by
 refine fE (N:=9) Tryz.func61 r0 (by kernel_rfl) r0 ?_
 have hs0:=SH.refl w []
 have hzs_m:zs.length≤9223372036854775807:=Nat.le_trans hzs.cap hzs.capMax
 refine sr (tA Z6 r0 (nx (tm (Z87 Azs zs czs) r0 (tm (.func (.func kf) #[] #[]) r0 (cS hs0 r0 (slIndexFuncL _ _ _ _ (hzs.up0 hs0) hzs_e hf) (fun w1 hs1=>?_))))))
 refine qt r0 (geq r0 r0) (tA (.bool (decide ((0:Int)≤(idxP p zs)))) r0 (nn (rt (fT (.bool (decide ((0:Int)≤(idxP p zs)))) r0 ?_))))
 have e1:(decide ((0:Int)≤(idxP p zs)))=zs.any p:=by exact idxP_any p zs
 exact⟨(congrArg (Value.bool) e1),hs1⟩
theorem iTV1 (m:Int) (w:World):Does Tryz.prog 60 [I m] w (fun v w'=>v=.bool (decide (m≠0∧m≠2))∧SH w w' [] []):=by
 refine fE (N:=9) Tryz.func60 r0 (by kernel_rfl) r0 ?_
 have hs0:=SH.refl w []
 refine sr (tA Z6 r0 (nx (tm (I m) r0 (qt r0 (nei r0 r0) (tm (.bool (decide (m≠0))) r0 (spd 5 r0 (fun h1=>?_) (fun h1=>?_)))))))
 ·refine qh r0 (mv (v:=I m) r0) (qh r0 (nei r0 r0) (qt r0 (pt (v:=.bool (decide (m≠2))) r0 r0) (tA (.bool (decide (m≠2))) r0 (nn (rt (fT (.bool (decide (m≠2))) r0 ?_))))))
  have e1:(decide (m≠2))=(decide (m≠0∧m≠2)):=by simp[h1]
  exact⟨(congrArg (Value.bool) e1),hs0⟩
 refine gf5 r0 (gf5 r0 (qt r0 (pf (v:=.bool false) r0 r0) (tA Z6 r0 (nn (rt (fT Z6 r0 ?_))))))
 have e2:false=(decide (m≠0∧m≠2)):=by simp[h1]
 exact⟨(congrArg (Value.bool) e2),hs0⟩
theorem iTV2 (lu:List UInt8) (lw:List UInt8) (w:World) (hlu_n:lu.length≤9223372036854775807) (hlw_n:lw.length≤9223372036854775807):Does Tryz.prog 62 [.agg #[Str lu,Str lw]] w (fun v w'=>v=.bool (!loginOk lu lw)∧SH w w' [] []):=by
 refine fE (N:=6) Tryz.func62 r0 (by kernel_rfl) r0 ?_
 have hs0:=SH.refl w []
 refine sr (bx (v:=.agg #[Str lu,Str lw]) (cs:=[Str lu,Str lw]) hs0 r0 r0 trivial r0 (fun b1 w1 hs1=>?_))
 refine tA Z6 r0 (nx (qt r0 (lG [Str lu,Str lw] hs1 0 r0 ag31) (cS hs1 r0 (iIsLogin _ _ _ (by omega) (by omega)) (fun w2 hs2=>?_))))
 refine qt r0 (nt r0) (tA (.bool (!(loginOk lu lw))) r0 (nn (rt (fT (.bool (!(loginOk lu lw))) r0 ?_))))
 have e1:(!(loginOk lu lw))=!loginOk lu lw:=by rfl
 exact⟨(congrArg (Value.bool) e1),(hs2.pk [] r0)⟩
theorem iTalkValid (sx:Int) {Awt:Option Addr} {cwt:Nat} (wt:List Int) {Alg:Option Addr} {clg:Nat} (lg:List (List UInt8×List UInt8)) (to:List UInt8) (w:World) (hwt:Sl w [] 1 Awt wt.length cwt (wt.map I)) (hlg:Sl w [] 2 Alg lg.length clg (lg.flatMap gLogin)) (hlg_e: ∀ u∈lg,u.1.length≤9223372036854775807∧u.2.length≤9223372036854775807) (hto_n:to.length≤1099511627776) (hGp:VarP Tryz.prog w [] "internal/strconv.uint64pow10" isPow) (hEr:VarP Tryz.prog w [] "strconv.ErrRange" isIfc) (hEs:VarP Tryz.prog w [] "strconv.ErrSyntax" isIfc):Does Tryz.prog 26 [.agg #[I sx,.slice Awt wt.length cwt,.slice Alg lg.length clg,Str to]] w (fun v w'=>v=.bool (talkOk sx wt lg to)∧SH w w' [] []):=by
 refine fE (N:=51) Tryz.func26 r0 (by kernel_rfl) r0 ?_
 have hs0:=SH.refl w []
 have hwt_m:wt.length≤9223372036854775807:=Nat.le_trans hwt.cap hwt.capMax
 have hlg_m:lg.length≤9223372036854775807:=Nat.le_trans hlg.cap hlg.capMax
 refine sr (bx (v:=.agg #[I sx,(Z4 Awt wt cwt),(Z19 Alg lg clg),Str to]) (cs:=[I sx,(Z4 Awt wt cwt),(Z19 Alg lg clg),Str to]) hs0 r0 r0 trivial r0 (fun b1 w1 hs1=>?_))
 refine tA Z6 r0 (nn (sq (sr (qt r0 (fa 0 fo27_0 r0) (qt r0 (lD (I sx) hs1 0 r0 one3) (cS hs1 r0 (iWithin _ 0 4 _) (fun w2 hs2=>?_)))))))
 refine qt r0 (nd r0) (tm (.bool (decide (¬ (0≤sx∧sx≤4)))) r0 (spd 9 r0 (fun h1=>?_) (fun h1=>?_)))
 ·exact gt5 r0 (gt5 r0 (gt5 r0 (gt5 r0 (qt r0 (pt (v:=.bool true) r0 r0) (tm Z35 r0 (gt5 r0 (gt5 r0 (gt5 r0 (gt5 r0 (qt r0 (pt (v:=.bool true) r0 r0) (nn (cdt r0 (sr (tA Z6 r0 (nn (rt (tR (fB r0 (talk_no1 ‹_›) (hs2.pk [] r0)))))))))))))))))))
 refine qh r0 (fa 1 fo27_1 r0) (qh r0 (lD (Z14 Awt wt cwt) hs2 0 r0 one24) (cl ⟨_,rfl,rfl⟩ r0 (iAreMethods _ _ (hwt.up0 hs2)) ?_))
 rintro _ w3 ⟨rfl,hs3⟩
 replace hs3:=hs2.call0 hs3
 refine qh r0 (nt r0) (qt r0 (pf (v:=.bool (!(methOk wt))) r0 r0) (tm (.bool (!(methOk wt))) r0 (spl 15 r0 (fun h2=>?_) (fun h2=>?_))))
 ·have h3:=nbF h2
  exact gt5 r0 (gt5 r0 (gt5 r0 (gt5 r0 (qt r0 (pt (v:=.bool true) r0 r0) (nn (cdt r0 (sr (tA Z6 r0 (nn (rt (tR (fB r0 (talk_no2 ‹_›) (hs3.pk [] r0)))))))))))))
 have h4:=nbT h2
 refine qh r0 (fa 2 fo27_2 r0) (qh r0 (lD (Z87 Alg lg clg) hs3 0 r0 one25) (qh r0 (lnA sl25 r0) (qh r0 (gtr r0 r0) (qt r0 (pf (v:=.bool (decide ((4:Int)<(lg.length:Int)))) r0 r0) (nn (cdd r0 (fun h5=>?_) (fun h5=>?_)))))))
 ·exact sr (tA Z6 r0 (nn (rt (tR (fB r0 (talk_no3 ‹_›) (hs3.pk [] r0))))))
 refine sk (nN (sq (sr (qt r0 (fa 1 fo27_1 r0) (qt r0 (lD (Z14 Awt wt cwt) hs3 0 r0 one24) (cS hs3 r0 (slContainsFunc (fun m=>(decide (m≠0∧m≠2))) _ 60 _ (hwt.up0 hs3) (fun x w=>iTV1 x w)) (fun w4 hs4=>?_)))))))
 refine tm (.bool (wt.any (fun m=>(decide (m≠0∧m≠2))))) r0 (spl 24 r0 (fun h6=>?_) (fun h6=>?_))
 ·exact gt5 r0 (gt5 r0 (gt5 r0 (qt r0 (pt (v:=.bool true) r0 r0) (nn (cdt r0 (sq (rg (tA Z6 r0 (nn (rt (tR (fB r0 (talk_no4 ‹_›) (hs4.pk [] r0)))))))))))))
 refine qh r0 (fa 2 fo27_2 r0) (qh r0 (lD (Z87 Alg lg clg) hs4 0 r0 one25) (cl ⟨_,rfl,rfl⟩ r0 (slContainsFuncL (fun x=>(!loginOk x.1 x.2)) _ 62 _ (hlg.up0 hs4) hlg_e (fun x w hx=>iTV2 (lu:=x.1) (lw:=x.2) w hx.1 hx.2)) ?_))
 rintro _ w5 ⟨rfl,hs5⟩
 replace hs5:=hs4.call0 hs5
 refine qt r0 (pf (v:=.bool (lg.any (fun x=>(!loginOk x.1 x.2)))) r0 r0) (nn (cd r0 (fun h7=>?_) (fun h7=>?_)))
 ·exact sr (tA Z6 r0 (nn (rt (tR (fB r0 (talk_no5 ‹_›) (hs5.pk [] r0))))))
 refine sk (nN (sq (sr (qt r0 (fa 0 fo27_0 r0) (qt r0 (lD (I sx) hs5 0 r0 one3) (qt r0 (eqi r0 r0) (tm (Z88 sx) r0 (spd 32 r0 (fun h8=>?_) (fun h8=>?_)))))))))
 ·refine qh r0 (fa 1 fo27_1 r0) (qh r0 (lD (Z14 Awt wt cwt) hs5 0 r0 one24) (cl ⟨_,rfl,rfl⟩ r0 (slContains _ 2 _ (hwt.up0 hs5)) ?_))
  rintro _ w6 ⟨rfl,hs6⟩
  replace hs6:=hs5.call0 hs6
  refine qh r0 (nd r0) (qt r0 (pt (v:=.bool (decide (¬ (2∈wt)))) r0 r0) (nn (cdd r0 (fun h9=>?_) (fun h9=>?_))))
  ·exact sr (tA Z6 r0 (nn (rt (tR (fB r0 (talk_no6 ‹_› ‹_›) (hs6.pk [] r0))))))
  refine sk (nN (sq (sr (qt r0 (fa 0 fo27_0 r0) (qt r0 (lD (I sx) hs6 0 r0 one3) (qt r0 (eqi r0 r0) (nn (cdd r0 (fun h10=>?_) (fun h10=>?_)))))))))
  ·refine sr (qt r0 (fa 3 fo27_3 r0) (qt r0 (lD (Str to) hs6 0 r0 one9) (cS2 hs6 r0 (iAddressFrom _ _ (by omega) (hGp.up0 hs6) (hEr.up0 hs6) (hEs.up0 hs6)) (fun Aq1 cq1 w7 hs7=>?_))))
   refine tm (.tuple #[.agg #[(Z132 to),(Z96 Aq1 to cq1),(Z109 to),(Z118 to)],.bool ((addrFrom to).2)]) r0 (qt r0 (xt 0 r0 r0) (qt r0 (xt 1 r0 r0) (al (cs:=Z17) hs7 tz54 r0 trivial r0 (fun b2 w8 hs8=>?_))))
   refine sG (Z54 to Aq1 cq1) hs8 2 r0 ag54 (fun w9 hs9=>?_)
   exact tA (Z99 to) r0 (nx (tm (Z99 to) r0 (tA (Z99 to) r0 (nl (nN (rt (tR (fB r0 (talk_y3 (by exact Decidable.not_not.1 ‹_›) ‹_› ‹_› ‹_› ‹_› (by intro q; exact Decidable.not_not.1 ‹_›) ‹_›) (hs9.pk [] r0)))))))))
  refine sk (nN (sr (qt r0 (fa 3 fo27_3 r0) (qt r0 (lD (Str to) hs6 0 r0 one9) (qt r0 (eqs r0 r0) (tA (Z107 to) r0 (nn (rt (fT (Z107 to) r0 ?_)))))))))
  have e8:(decide (to=[]))=talkOk sx wt lg to:=by exact talk_yn (by exact Decidable.not_not.1 ‹_›) ‹_› ‹_› ‹_› ‹_› (by intro q; exact Decidable.not_not.1 ‹_›) ‹_›
  exact⟨(congrArg (Value.bool) e8),(hs6.pk [] r0)⟩
 refine gf5 r0 (gf5 r0 (gf5 r0 (gf5 r0 (qt r0 (pf (v:=.bool false) r0 r0) (nn (cdf r0 (sk (nN (sq (sr (qt r0 (fa 0 fo27_0 r0) (qt r0 (lD (I sx) hs5 0 r0 one3) (qt r0 (eqi r0 r0) (nn (cdd r0 (fun h11=>?_) (fun h11=>?_))))))))))))))))
 ·refine sr (qt r0 (fa 3 fo27_3 r0) (qt r0 (lD (Str to) hs5 0 r0 one9) (cS2 hs5 r0 (iAddressFrom _ _ (by omega) (hGp.up0 hs5) (hEr.up0 hs5) (hEs.up0 hs5)) (fun Aq2 cq2 w10 hs10=>?_))))
  refine tm (.tuple #[.agg #[(Z132 to),(Z96 Aq2 to cq2),(Z109 to),(Z118 to)],.bool ((addrFrom to).2)]) r0 (qt r0 (xt 0 r0 r0) (qt r0 (xt 1 r0 r0) (al (cs:=Z17) hs10 tz54 r0 trivial r0 (fun b3 w11 hs11=>?_))))
  refine sG (Z54 to Aq2 cq2) hs11 2 r0 ag54 (fun w12 hs12=>?_)
  exact tA (Z99 to) r0 (nx (tm (Z99 to) r0 (tA (Z99 to) r0 (nl (nN (rt (tR (fB r0 (talk_y3 (by exact Decidable.not_not.1 ‹_›) ‹_› ‹_› ‹_› ‹_› (by intro q; exact absurd q ‹_›) ‹_›) (hs12.pk [] r0)))))))))
 refine sk (nN (sr (qt r0 (fa 3 fo27_3 r0) (qt r0 (lD (Str to) hs5 0 r0 one9) (qt r0 (eqs r0 r0) (tA (Z107 to) r0 (nn (rt (fT (Z107 to) r0 ?_)))))))))
 have e10:(decide (to=[]))=talkOk sx wt lg to:=by exact talk_yn (by exact Decidable.not_not.1 ‹_›) ‹_› ‹_› ‹_› ‹_› (by intro q; exact absurd q ‹_›) ‹_›
 exact⟨(congrArg (Value.bool) e10),(hs5.pk [] r0)⟩
theorem sL23Ok {Awt:Option Addr} {cwt:Nat} (wt:List Int) {Alg:Option Addr} {clg:Nat} (lg:List (List UInt8×List UInt8)) (w:World) (hwt:Sl w [] 1 Awt wt.length cwt (wt.map I)) (hlg:Sl w [] 2 Alg lg.length clg (lg.flatMap gLogin)) (hlg_e: ∀ u∈lg,u.1.length≤9223372036854775807∧u.2.length≤9223372036854775807):Does Tryz.prog 15 [.slice Awt wt.length cwt,.slice Alg lg.length clg] w (fun v w'=>v=.bool (wlOk wt lg)∧SH w w' [] []):=by
 refine fE (N:=44) Tryz.func15 r0 (by kernel_rfl) r0 ?_
 have hs0:=SH.refl w []
 have hwt_m:wt.length≤9223372036854775807:=Nat.le_trans hwt.cap hwt.capMax
 have hlg_m:lg.length≤9223372036854775807:=Nat.le_trans hlg.cap hlg.capMax
 refine sr (tA Z6 r0 (nn (sq (sr (tA (I 0) r0 (nn (bl (lp (σ:=Nat) (fun(j:Nat) f w'=>Hz f [(0,.slice Awt wt.length cwt),(1,.slice Alg lg.length clg),(5,I (j:Int))]∧(j≤wt.length)∧((wt.take j).all (fun m=>decide (m=0∨m=2))=true)∧SH w w' [] []) (fun j=>wt.length-j) 0 ⟨(zR r0),(by simp),(by simp),hs0⟩ ?_))))))))
 rintro j f w1 ⟨⟨g1,rfl⟩,hj,ha,hs1⟩
 refine sq (sr (tm (I (j:Int)) r0 (tm (Z14 Awt wt cwt) r0 (qt r0 (lnA sl24 r0) (qt r0 (lss r0 r0) (nl (nN (cdd r0 (fun h1=>?_) (fun h1=>?_)))))))))
 ·refine sk (nN (sq (bl (sr (tm (Z14 Awt wt cwt) r0 (tm (I (j:Int)) r0 (ixw1 j sl24 r0 r0 hwt (by omega) (getm I 0 (by omega)) trivial r0 (fun a1 ha1=>?_))))))))
  refine qt r0 (lda hs1 ha1 (fun _ h=>h) r0 r0 one3) (qt r0 (nei r0 r0) (tm (.bool (decide ((wt.getD j 0)≠0))) r0 (spd 18 r0 (fun h2=>?_) (fun h2=>?_))))
  ·refine qh r0 (mv (v:=.slice Awt wt.length cwt) r0) (qh r0 (mv (v:=I (j:Int)) r0) (ixw1 j sl24 r0 r0 hwt (by omega) (getm I 0 (by omega)) ⟨_,rfl,rfl⟩ r0 (fun a2 ha2=>?_)))
   refine qh r0 (lda hs1 ha2 (fun _ h=>h) r0 r0 one3) (qh r0 (nei r0 r0) (qt r0 (pt (v:=.bool (decide ((wt.getD j 0)≠2))) r0 r0) (nn (cdd r0 (fun h3=>?_) (fun h3=>?_)))))
   ·exact sr (tA Z6 r0 (nn (rt (bR (tR (tR (bR (tR (fB r0 (wl_bad1 (k:=j) (by omega) ⟨by assumption,by assumption⟩) hs1)))))))))
   refine sk (bN (nN (rg (tm (I (j:Int)) r0 (qt r0 (add r0 r0 (by(exact⟨by omega,by omega⟩))) (tA (I ((j:Int)+1)) r0 (nl (nN ?_))))))))
   refine⟨(j+1),⟨(zR r0),(by omega),(all_step (d:=0) (by omega) ha (by simp only[decide_eq_true_eq]; omega)),hs1⟩,?_⟩
   omega
  refine gf5 r0 (gf5 r0 (gf5 r0 (gf5 r0 (gf5 r0 (qt r0 (pf (v:=.bool false) r0 r0) (nn (cdf r0 (sk (bN (nN (rg (tm (I (j:Int)) r0 (qt r0 (add r0 r0 (by(exact⟨by omega,by omega⟩))) (tA (I ((j:Int)+1)) r0 (nn ?_)))))))))))))))
  refine⟨(j+1),⟨(zR r0),(by omega),(all_step (d:=0) (by omega) ha (by simp only[decide_eq_true_eq]; omega)),hs1⟩,?_⟩
  omega
 refine ex (tE (tE (bE (nN (sq (sr (tA (I 0) r0 (nn (bl ?_)))))))))
 refine lp (σ:=Nat) (fun(k:Nat) f w'=>Hz f [(0,.slice Awt wt.length cwt),(1,.slice Alg lg.length clg),(6,I (k:Int))]∧(k≤lg.length)∧((lg.take k).all lgOk=true)∧SH w w' [] []) (fun k=>lg.length-k) 0 ⟨(zR r0),(by simp),(by simp),hs1⟩ ?_
 rintro k f w2 ⟨⟨g2,rfl⟩,hk,hb,hs2⟩
 refine sq (sr (tm (I (k:Int)) r0 (tm (Z87 Alg lg clg) r0 (qt r0 (lnA sl25 r0) (qt r0 (lss r0 r0) (nl (nN (cdd r0 (fun h4=>?_) (fun h4=>?_)))))))))
 ·refine sk (nN (sq (bl (sr (tm (Z87 Alg lg clg) r0 (tm (I (k:Int)) r0 (ixwf (g:=gLogin) (zs:=lg) (fun _=>rfl) login0 k sl25 r0 r0 hlg (by omega) (by omega) trivial r0 (fun a3 ha3=>?_))))))))
  refine qt r0 (ldag (us:=(Z115 lg k)) hs2 ha3 (fun _ h=>h) r0 r0 ag31) (cS hs2 r0 (sL11Ok _ _ _ (by(have hre:=hlg_e _ (getD_mem' (d:=login0) (show k<lg.length by omega)); omega)) (by(have hre:=hlg_e _ (getD_mem' (d:=login0) (show k<lg.length by omega)); omega))) (fun w3 hs3=>?_))
  refine qt r0 (nt r0) (nn (cd r0 (fun h5=>?_) (fun h5=>?_)))
  ·have h6:=nbF h5
   exact sr (tA Z6 r0 (nn (rt (bR (tR (tR (bR (tR (fB r0 (wl_bad2 (k:=k) (by omega) ‹_›) hs3)))))))))
  have h7:=nbT h5
  refine sk (bN (nN (rg (tm (I (k:Int)) r0 (qt r0 (add r0 r0 (by(exact⟨by omega,by omega⟩))) (tA (I ((k:Int)+1)) r0 (nl (nN ?_))))))))
  refine⟨(k+1),⟨(zR r0),(by omega),(all_step (d:=login0) (by omega) hb ‹_›),hs3⟩,?_⟩
  omega
 refine ex (tE (tE (bE (nN (sr (tm (Z14 Awt wt cwt) r0 (cS hs2 r0 (sL5Ok _ _ (hwt.up0 hs2)) (fun w4 hs4=>?_))))))))
 refine tm (.bool (methOk wt)) r0 (spl 39 r0 (fun h8=>?_) (fun h8=>?_))
 ·exact qh r0 (mv (v:=.slice Alg lg.length clg) r0) (qh r0 (lnA sl25 r0) (qh r0 (leq r0 r0) (qt r0 (pt (v:=.bool (decide ((lg.length:Int)≤4))) r0 r0) (tA (.bool (decide ((lg.length:Int)≤4))) r0 (nn (rt (fB r0 (by(rw[← wl_end (j:=j) (k:=k) (by omega) (by omega) ha hb]; simp[h1,h4,h8]; try omega)) hs4)))))))
 exact gf5 r0 (gf5 r0 (gf5 r0 (qt r0 (pf (v:=.bool false) r0 r0) (tA Z6 r0 (nn (rt (fB r0 (by(rw[← wl_end (j:=j) (k:=k) (by omega) (by omega) ha hb]; simp[h1,h4,h8]; try omega)) hs4)))))))
theorem sTalkValid (sx:Int) {Awt:Option Addr} {cwt:Nat} (wt:List Int) {Alg:Option Addr} {clg:Nat} (lg:List (List UInt8×List UInt8)) (to:List UInt8) (w:World) (hwt:Sl w [] 1 Awt wt.length cwt (wt.map I)) (hlg:Sl w [] 2 Alg lg.length clg (lg.flatMap gLogin)) (hlg_e: ∀ u∈lg,u.1.length≤9223372036854775807∧u.2.length≤9223372036854775807) (hto_n:to.length≤1099511627776):Does Tryz.prog 100 [.agg #[I sx,.slice Awt wt.length cwt,.slice Alg lg.length clg,Str to]] w (fun v w'=>v=.bool (talkOk sx wt lg to)∧SH w w' [] []):=by
 refine fE (N:=45) Tryz.func100 r0 (by kernel_rfl) r0 ?_
 have hs0:=SH.refl w []
 have hwt_m:wt.length≤9223372036854775807:=Nat.le_trans hwt.cap hwt.capMax
 have hlg_m:lg.length≤9223372036854775807:=Nat.le_trans hlg.cap hlg.capMax
 refine sr (bx (v:=.agg #[I sx,(Z4 Awt wt cwt),(Z19 Alg lg clg),Str to]) (cs:=[I sx,(Z4 Awt wt cwt),(Z19 Alg lg clg),Str to]) hs0 r0 r0 trivial r0 (fun b1 w1 hs1=>?_))
 refine tA Z6 r0 (nx (qt r0 (fa 3 fo27_3 r0) (qt r0 (lD (Str to) hs1 0 r0 one9) (cS2 hs1 r0 (sAddressFrom _ _ (by omega)) (fun Aq1 cq1 w2 hs2=>?_)))))
 refine tm (.tuple #[.agg #[(Z132 to),(Z96 Aq1 to cq1),(Z109 to),(Z118 to)],.bool ((addrFrom to).2)]) r0 (qt r0 (xt 0 r0 r0) (qt r0 (xt 1 r0 r0) (al (cs:=Z17) hs2 tz54 r0 trivial r0 (fun b2 w3 hs3=>?_))))
 refine sG (Z54 to Aq1 cq1) hs3 2 r0 ag54 (fun w4 hs4=>?_)
 refine tA (Z99 to) r0 (nn (sq (sr (qt r0 (fa 1 fo27_1 r0) (qt r0 (lD (Z14 Awt wt cwt) hs4 0 r0 one24) (qt r0 (fa 2 fo27_2 r0) (qt r0 (lD (Z87 Alg lg clg) hs4 0 r0 one25) (cS hs4 r0 (sL23Ok _ _ _ (hwt.up0 hs4) (hlg.up0 hs4) hlg_e) (fun w5 hs5=>?_)))))))))
 refine qt r0 (nt r0) (tm (.bool (!(wlOk wt lg))) r0 (spl 17 r0 (fun h1=>?_) (fun h1=>?_)))
 ·have h2:=nbF h1
  exact gt5 r0 (gt5 r0 (gt5 r0 (gt5 r0 (qt r0 (pt (v:=.bool true) r0 r0) (nn (cdt r0 (sr (tA Z6 r0 (nn (rt (tR (fB r0 (ts_no1 ‹_›) (hs5.pk [] r0)))))))))))))
 have h3:=nbT h1
 refine qh r0 (fa 0 fo27_0 r0) (qh r0 (lD (I sx) hs5 0 r0 one3) (cl ⟨_,rfl,rfl⟩ r0 (sIn _ 0 4 _) ?_))
 rintro _ w6 ⟨rfl,hs6⟩
 replace hs6:=hs5.call0 hs6
 refine qh r0 (nd r0) (qt r0 (pf (v:=.bool (decide (¬ (0≤sx∧sx≤4)))) r0 r0) (nn (cdd r0 (fun h4=>?_) (fun h4=>?_))))
 ·exact sr (tA Z6 r0 (nn (rt (tR (fB r0 (talk_no1 ‹_›) (hs6.pk [] r0))))))
 refine sk (nN (sq (sr (qt r0 (fa 0 fo27_0 r0) (qt r0 (lD (I sx) hs6 0 r0 one3) (qt r0 (eqi r0 r0) (tm (Z88 sx) r0 (spd 26 r0 (fun h5=>?_) (fun h5=>?_)))))))))
 ·refine qh r0 (fa 1 fo27_1 r0) (qh r0 (lD (Z14 Awt wt cwt) hs6 0 r0 one24) (cl ⟨_,rfl,rfl⟩ r0 (l5Has _ 2 _ (hwt.up0 hs6)) ?_))
  rintro _ w7 ⟨rfl,hs7⟩
  replace hs7:=hs6.call0 hs7
  refine qh r0 (nd r0) (qt r0 (pt (v:=.bool (decide (¬ (2∈wt)))) r0 r0) (nn (cdd r0 (fun h6=>?_) (fun h6=>?_))))
  ·exact sr (tA Z6 r0 (nn (rt (tR (fB r0 (talk_no6 ‹_› ‹_›) (hs7.pk [] r0))))))
  refine sk (nN (sr (qt r0 (fa 0 fo27_0 r0) (qt r0 (lD (I sx) hs7 0 r0 one3) (qt r0 (eqi r0 r0) (tm (Z99 to) r0 (qt r0 (eqb (a:=(decide (sx=3))) (b:=((addrFrom to).2)) tb4 r0 r0) (tm (.bool (decide ((decide (sx=3))=((addrFrom to).2)))) r0 (spd 37 r0 (fun h7=>?_) (fun h7=>?_))))))))))
  ·refine qh r0 (mv (v:=.bool ((addrFrom to).2)) r0) (qh r0 (mv (v:=.bool ((addrFrom to).2)) r0) (spl 39 r0 (fun h8=>?_) (fun h8=>?_)))
   ·refine gt5 r0 (gt5 r0 (gt5 r0 (qh r0 (pt (v:=.bool true) r0 r0) (qt r0 (pt (v:=.bool true) r0 r0) (tA Z35 r0 (nn (rt (fT Z35 r0 ?_))))))))
    have e4:true=talkOk sx wt lg to:=by exact ts_y1 ‹_› (by exact Decidable.not_not.1 ‹_›) (by intro q; exact Decidable.not_not.1 ‹_›) ‹_› ‹_›
    exact⟨(congrArg (Value.bool) e4),(hs7.pk [] r0)⟩
   refine qh r0 (fa 3 fo27_3 r0) (qh r0 (lD (Str to) hs7 0 r0 one9) (qh r0 (eqs r0 r0) (qh r0 (pf (v:=.bool (decide (to=[]))) r0 r0) (qt r0 (pt (v:=.bool (decide (to=[]))) r0 r0) (tA (Z107 to) r0 (nn (rt (fT (Z107 to) r0 ?_))))))))
   have e5:(decide (to=[]))=talkOk sx wt lg to:=by exact ts_y2 ‹_› (by exact Decidable.not_not.1 ‹_›) (by intro q; exact Decidable.not_not.1 ‹_›) ‹_› ‹_›
   exact⟨(congrArg (Value.bool) e5),(hs7.pk [] r0)⟩
  refine gf5 r0 (gf5 r0 (gku r0 r0 r0 r0 r0 (gku r0 r0 r0 r0 r0 (gku r0 r0 r0 r0 r0 (gf5 r0 (qt r0 (pf (v:=.bool false) r0 r0) (tA Z6 r0 (nn (rt (fT Z6 r0 ?_))))))))))
  have e6:false=talkOk sx wt lg to:=by exact ts_no7 ‹_›
  exact⟨(congrArg (Value.bool) e6),(hs7.pk [] r0)⟩
 refine gf5 r0 (gf5 r0 (gf5 r0 (gf5 r0 (qt r0 (pf (v:=.bool false) r0 r0) (nn (cdf r0 (sk (nN (sr (qt r0 (fa 0 fo27_0 r0) (qt r0 (lD (I sx) hs6 0 r0 one3) (qt r0 (eqi r0 r0) (tm (Z99 to) r0 (qt r0 (eqb (a:=(decide (sx=3))) (b:=((addrFrom to).2)) tb4 r0 r0) (tm (.bool (decide ((decide (sx=3))=((addrFrom to).2)))) r0 (spd 37 r0 (fun h9=>?_) (fun h9=>?_)))))))))))))))))
 ·refine qh r0 (mv (v:=.bool ((addrFrom to).2)) r0) (qh r0 (mv (v:=.bool ((addrFrom to).2)) r0) (spl 39 r0 (fun h10=>?_) (fun h10=>?_)))
  ·refine gt5 r0 (gt5 r0 (gt5 r0 (qh r0 (pt (v:=.bool true) r0 r0) (qt r0 (pt (v:=.bool true) r0 r0) (tA Z35 r0 (nn (rt (fT Z35 r0 ?_))))))))
   have e7:true=talkOk sx wt lg to:=by exact ts_y1 ‹_› (by exact Decidable.not_not.1 ‹_›) (by intro q; exact absurd q ‹_›) ‹_› ‹_›
   exact⟨(congrArg (Value.bool) e7),(hs6.pk [] r0)⟩
  refine qh r0 (fa 3 fo27_3 r0) (qh r0 (lD (Str to) hs6 0 r0 one9) (qh r0 (eqs r0 r0) (qh r0 (pf (v:=.bool (decide (to=[]))) r0 r0) (qt r0 (pt (v:=.bool (decide (to=[]))) r0 r0) (tA (Z107 to) r0 (nn (rt (fT (Z107 to) r0 ?_))))))))
  have e8:(decide (to=[]))=talkOk sx wt lg to:=by exact ts_y2 ‹_› (by exact Decidable.not_not.1 ‹_›) (by intro q; exact absurd q ‹_›) ‹_› ‹_›
  exact⟨(congrArg (Value.bool) e8),(hs6.pk [] r0)⟩
 refine gf5 r0 (gf5 r0 (gku r0 r0 r0 r0 r0 (gku r0 r0 r0 r0 r0 (gku r0 r0 r0 r0 r0 (gf5 r0 (qt r0 (pf (v:=.bool false) r0 r0) (tA Z6 r0 (nn (rt (fT Z6 r0 ?_))))))))))
 have e9:false=talkOk sx wt lg to:=by exact ts_no7 ‹_›
 exact⟨(congrArg (Value.bool) e9),(hs6.pk [] r0)⟩
theorem slCloneL {Axs:Option Addr} {cxs:Nat} (xs:List (List UInt8×List UInt8)) (w:World) (hxs:Sl w [] 2 Axs xs.length cxs (xs.flatMap gLogin)) (hxs_e: ∀ u∈xs,u.1.length≤9223372036854775807∧u.2.length≤9223372036854775807) (hxs_n:xs.length≤1099511627776):Does Tryz.prog 56 [.slice Axs xs.length cxs] w (fun v w'=>∃ Ar:Option Addr,∃ cr:Nat,v=.slice Ar xs.length cr∧SH w w' [] [.own Ar xs.length cr 31 2 (xs.flatMap gLogin)]):=by
 refine fE (N:=8) Tryz.func56 r0 (by kernel_rfl) r0 ?_
 have hs0:=SH.refl w []
 have hxs_m:xs.length≤9223372036854775807:=Nat.le_trans hxs.cap hxs.capMax
 refine sr (tA ns r0 (nn (sq (sr (tm (Z87 Axs xs cxs) r0 (qt r0 (slnil (A:=Axs) sl25 r0 r0) (nn (cdd r0 (fun h1=>?_) (fun h1=>?_)))))))))
 ·refine sr (tA ns r0 (nn (rt (tR (fT ns r0 ?_)))))
  have hs1:=hs0.nl [.own none (([]:List (List UInt8×List UInt8)).length) 0 31 2 (([]:List (List UInt8×List UInt8)).flatMap gLogin)] r0
  have e1:([]:List (List UInt8×List UInt8))=xs:=by exact(sl_noneF hxs ‹_›).symm
  have e2:=congrArg List.length e1
  exact⟨none,0,(slv r0 e2 r0),(hs1.cast (lc (own_eqf (g:=gLogin) r0 e2 r0 e1) r0))⟩
 refine sk (nN (sr (bsk hs0 sl25 [] [] trivial r0 (fun b1 w1 hs2=>?_))))
 refine tm (Z87 Axs xs cxs) r0 (apf (g:=gLogin) (ys:=([]:List (List UInt8×List UInt8))) (zs:=xs) hs2 0 r0 sl25 r0 (by decide) r0 r0 (hxs.up0 hs2) (fun _=>rfl) (by unfold maxLen; (simp; omega)) (by(simp; omega)) trivial r0 (fun A1 c1 w2 hs3=>?_))
 refine tA (.slice A1 xs.length c1) r0 (nn (rt (fT (.slice A1 xs.length c1) r0 ?_)))
 exact⟨A1,c1,rfl,hs3⟩
set_option maxHeartbeats 8000000 in
theorem iCloneTalk (sx:Int) {Awt:Option Addr} {cwt:Nat} (wt:List Int) {Alg:Option Addr} {clg:Nat} (lg:List (List UInt8×List UInt8)) (to:List UInt8) (w:World) (hwt:Sl w [] 1 Awt wt.length cwt (wt.map I)) (hwt_n:wt.length≤1099511627776) (hlg:Sl w [] 2 Alg lg.length clg (lg.flatMap gLogin)) (hlg_e: ∀ u∈lg,u.1.length≤9223372036854775807∧u.2.length≤9223372036854775807) (hlg_n:lg.length≤1099511627776):Does Tryz.prog 25 [.agg #[I sx,.slice Awt wt.length cwt,.slice Alg lg.length clg,Str to]] w (fun v w'=>∃ Awr:Option Addr,∃ cwr:Nat,∃ Alr:Option Addr,∃ clr:Nat,v=.agg #[.int .i64 sx,.slice Awr wt.length cwr,.slice Alr lg.length clr,Str to]∧SH w w' [] [.own Awr wt.length cwr 3 1 (wt.map I),.own Alr lg.length clr 31 2 (lg.flatMap gLogin)]):=by
 refine fE (N:=12) Tryz.func25 r0 (by kernel_rfl) r0 ?_
 have hs0:=SH.refl w []
 have hwt_m:wt.length≤9223372036854775807:=Nat.le_trans hwt.cap hwt.capMax
 have hlg_m:lg.length≤9223372036854775807:=Nat.le_trans hlg.cap hlg.capMax
 refine sr (bx (v:=.agg #[I sx,(Z4 Awt wt cwt),(Z19 Alg lg clg),Str to]) (cs:=[I sx,(Z4 Awt wt cwt),(Z19 Alg lg clg),Str to]) hs0 r0 r0 trivial r0 (fun b1 w1 hs1=>?_))
 refine al (cs:=Z31) hs1 tz27 r0 trivial r0 (fun b2 w2 hs2=>?_)
 refine nn (sq ?_)
 refine raJ (fun w'=>∃ L,SH w w' [] L∧(.blk b2 27 Z31)∈L∧True) (fun f w'=>∃ (A2':Option Addr) (c2':Nat) (A5':Option Addr) (c5':Nat),Hz f [(1,pB b1),(2,pB b2)]∧SH w w' [] [.blk b1 27 [I sx,(Z4 A2' wt c2'),(Z19 A5' lg c5'),Str to],.blk b2 27 Z31,(Z32 A2' wt c2'),(Z26 A5' lg c5')]) mixed ?_ ?_
 ·refine dG 1 10 511 (fun f w'=>∃ (A2':Option Addr) (c2':Nat) (A5':Option Addr) (c5':Nat),Hz f [(1,pB b1),(2,pB b2),(8,.slice A5' lg.length c5'),(10,.pointer (some ⟨b1,2,none⟩))]∧SH w w' [] [.blk b1 27 [I sx,(Z4 A2' wt c2'),(Z19 Alg lg clg),Str to],.blk b2 27 Z31,(Z32 A2' wt c2'),(Z26 A5' lg c5')]) ?_ (fun D_1_0=>?_)
  ·rintro f w3 ⟨A2',c2',A5',c5',⟨g1,rfl⟩,hs3⟩
   refine aO 9 r0 (sT (Z87 A5' lg c5') hs3 0 r0 one25 (fun w4 hs4=>?_))
   refine nk (m1 hs4 0 r0) (ad (by kernel_rfl) ?_)
   exact⟨A2',c2',A5',c5',(zR r0),(hs4.pk [3,0,1,2] r0)⟩
  refine dG 3 10 127 (fun f w'=>∃ (A2':Option Addr) (c2':Nat) (A5':Option Addr) (c5':Nat),Hz f [(1,pB b1),(2,pB b2),(5,.slice A2' wt.length c2'),(8,.slice A5' lg.length c5'),(9,.pointer (Z128 b1))]∧SH w w' [] [.blk b1 27 [I sx,(Z4 Awt wt cwt),(Z19 Alg lg clg),Str to],.blk b2 27 Z31,(Z32 A2' wt c2'),(Z26 A5' lg c5')]) ?_ (fun D_1_1=>?_)
  ·rintro f w5 ⟨A2',c2',A5',c5',⟨g2,rfl⟩,hs5⟩
   refine aO 7 r0 (sT (Z14 A2' wt c2') hs5 0 r0 one24 (fun w6 hs6=>?_))
   exact nk (m1 hs6 0 r0) (tk (fuel:=1) (is:=[8]) (.cons r0 (.nil)) (by kernel_rfl) (by kernel_rfl) (m1 hs6 0 r0) (yA r0 (fa 2 fo27_2 r0) (.nil (alc D_1_0 ⟨A2',c2',A5',c5',(zR r0),(hs6.pk [3,0,1,2] r0)⟩))))
  refine dG 4 10 95 (fun f w'=>∃ (A2':Option Addr) (c2':Nat),Hz f [(1,pB b1),(2,pB b2),(5,.slice A2' wt.length c2'),(7,.slice Alg lg.length clg),(9,.pointer (Z128 b1))]∧SH w w' [] [.blk b1 27 [I sx,(Z4 Awt wt cwt),(Z19 Alg lg clg),Str to],.blk b2 27 Z31,(Z32 A2' wt c2')]) ?_ (fun D_1_2=>?_)
  ·rintro f w7 ⟨A2',c2',⟨g3,rfl⟩,hs7⟩
   refine aO 5 r0 (cL r0 (slCloneL _ _ (hlg.up0 hs7) hlg_e (by omega)) ?_)
   rintro _ w8 ⟨A5',c5',rfl,hs8⟩
   replace hs8:=hs7.call0 hs8
   exact nk (m1 hs8 1 r0) (alc D_1_1 ⟨A2',c2',A5',c5',(zR r0),hs8⟩)
  refine dG 6 10 15 (fun f w'=>∃ (A2':Option Addr) (c2':Nat),Hz f [(1,pB b1),(2,pB b2),(5,.slice A2' wt.length c2'),(6,.pointer (some ⟨b1,2,none⟩))]∧SH w w' [] [.blk b1 27 [I sx,(Z4 Awt wt cwt),(Z19 Alg lg clg),Str to],.blk b2 27 Z31,(Z32 A2' wt c2')]) ?_ (fun D_1_3=>?_)
  ·rintro f w9 ⟨A2',c2',⟨g4,rfl⟩,hs9⟩
   exact aO 4 r0 (qt r0 (lD (Z87 Alg lg clg) hs9 0 r0 one25) (nk (m1 hs9 1 r0) (tk (fuel:=4) (is:=[6]) (.cons r0 (.nil)) (by kernel_rfl) (by kernel_rfl) (m1 hs9 1 r0) (yA r0 (fa 1 fo27_1 r0) (.nil (alc D_1_2 ⟨A2',c2',(zR r0),hs9⟩))))))
  refine dG 6 10 27 (fun f w'=>Hz f [(1,pB b1),(2,pB b2),(4,.slice Awt wt.length cwt),(7,.slice Alg lg.length clg)]∧SH w w' [] [.blk b1 27 [I sx,(Z4 Awt wt cwt),(Z19 Alg lg clg),Str to],.blk b2 27 Z31]) ?_ (fun D_1_4=>?_)
  ·rintro f w10 ⟨⟨g5,rfl⟩,hs10⟩
   refine aO 2 r0 (cL r0 (slClone _ _ (hwt.up0 hs10) (by omega)) ?_)
   rintro _ w11 ⟨A2',c2',rfl,hs11⟩
   replace hs11:=hs10.call0 hs11
   exact nk (m1 hs11 1 r0) (tk (fuel:=4) (is:=[6]) (.cons r0 (.nil)) (by kernel_rfl) (by kernel_rfl) (m1 hs11 1 r0) (yA r0 (fa 1 fo27_1 r0) (.nil (alc D_1_2 ⟨A2',c2',(zR r0),hs11⟩))))
  refine dG 7 10 11 (fun f w'=>Hz f [(1,pB b1),(2,pB b2),(4,.slice Awt wt.length cwt),(6,.pointer (some ⟨b1,2,none⟩))]∧SH w w' [] [.blk b1 27 [I sx,(Z4 Awt wt cwt),(Z19 Alg lg clg),Str to],.blk b2 27 Z31]) ?_ (fun D_1_5=>?_)
  ·rintro f w12 ⟨⟨g6,rfl⟩,hs12⟩
   refine aaL [2,4] (fa_cons ?_ (fa_one ?_))
   ·refine one_ r0 (cL r0 (slClone _ _ (hwt.up0 hs12) (by omega)) ?_)
    rintro _ w13 ⟨A2',c2',rfl,hs13⟩
    replace hs13:=hs12.call0 hs13
    exact nk (m1 hs13 1 r0) (alc D_1_3 ⟨A2',c2',(zR r0),hs13⟩)
   exact one_ r0 (qt r0 (lD (Z87 Alg lg clg) hs12 0 r0 one25) (nk (m1 hs12 1 r0) (alc D_1_4 ⟨(zR r0),hs12⟩)))
  refine dG 7 10 25 (fun f w'=>Hz f [(1,pB b1),(2,pB b2),(3,.pointer (Z128 b1)),(7,.slice Alg lg.length clg)]∧SH w w' [] [.blk b1 27 [I sx,(Z4 Awt wt cwt),(Z19 Alg lg clg),Str to],.blk b2 27 Z31]) ?_ (fun D_1_6=>?_)
  ·rintro f w14 ⟨⟨g7,rfl⟩,hs14⟩
   exact aO 1 r0 (qt r0 (lD (Z14 Awt wt cwt) hs14 0 r0 one24) (nk (m1 hs14 1 r0) (alc D_1_4 ⟨(zR r0),hs14⟩)))
  refine dG 8 10 9 (fun f w'=>Hz f [(1,pB b1),(2,pB b2),(3,.pointer (Z128 b1)),(6,.pointer (some ⟨b1,2,none⟩))]∧SH w w' [] [.blk b1 27 [I sx,(Z4 Awt wt cwt),(Z19 Alg lg clg),Str to],.blk b2 27 Z31]) ?_ (fun D_1_7=>?_)
  ·rintro f w15 ⟨⟨g8,rfl⟩,hs15⟩
   refine aaL [1,4] (fa_cons ?_ (fa_one ?_))
   ·exact one_ r0 (qt r0 (lD (Z14 Awt wt cwt) hs15 0 r0 one24) (nk (m1 hs15 1 r0) (alc D_1_5 ⟨(zR r0),hs15⟩)))
   exact one_ r0 (qt r0 (lD (Z87 Alg lg clg) hs15 0 r0 one25) (nk (m1 hs15 1 r0) (alc D_1_6 ⟨(zR r0),hs15⟩)))
  have hs16:=hs2.drew
  exact tk (fuel:=8) (is:=[0,3]) (.cons r0 (.cons r0 (.nil))) (by kernel_rfl) (by kernel_rfl) (m1 hs16 1 r0) (yA r0 (fa 1 fo27_1 r0) (yA r0 (fa 2 fo27_2 r0) (.nil (alc D_1_7 ⟨(zR r0),hs16⟩))))
 rintro f w16 ⟨A2',c2',A5',c5',⟨g9,rfl⟩,hs17⟩
 refine nN (sr (qt r0 (lG [I sx,(Z4 A2' wt c2'),(Z19 A5' lg c5'),Str to] hs17 0 r0 ag27) (sG [I sx,(Z4 A2' wt c2'),(Z19 A5' lg c5'),Str to] hs17 1 r0 ag27 (fun w17 hs18=>?_))))
 refine nn (rt (fret (resC hs18 3 r0 r0 ag27 r0 .nil) r0 ?_))
 exact⟨A2',c2',A5',c5',rfl,(hs18.pk [1,2] r0)⟩
theorem sTalkNew {Awt:Option Addr} {cwt:Nat} (wt:List Int) {Alg:Option Addr} {clg:Nat} (lg:List (List UInt8×List UInt8)) (w:World) (hwt:Sl w [] 1 Awt wt.length cwt (wt.map I)) (hwt_n:wt.length≤1099511627776) (hlg:Sl w [] 2 Alg lg.length clg (lg.flatMap gLogin)) (hlg_e: ∀ u∈lg,u.1.length≤9223372036854775807∧u.2.length≤9223372036854775807) (hlg_n:lg.length≤1099511627776):Does Tryz.prog 6 [.slice Awt wt.length cwt,.slice Alg lg.length clg] w (fun v w'=>∃ Awr:Option Addr,∃ cwr:Nat,∃ Alr:Option Addr,∃ clr:Nat,v=.tuple #[.agg #[.int .i64 ((talkNew wt lg).1.1),.slice Awr ((talkNew wt lg).1.2.1).length cwr,.slice Alr ((talkNew wt lg).1.2.2.1).length clr,Str ((talkNew wt lg).1.2.2.2)],.bool ((talkNew wt lg).2)]∧SH w w' [] [.own Awr (((talkNew wt lg).1.2.1).length) cwr 3 1 (((talkNew wt lg).1.2.1).map I),.own Alr (((talkNew wt lg).1.2.2.1).length) clr 31 2 (((talkNew wt lg).1.2.2.1).flatMap gLogin)]):=by
 refine fE (N:=18) Tryz.func6 r0 (by kernel_rfl) r0 ?_
 have hs0:=SH.refl w []
 have hwt_m:wt.length≤9223372036854775807:=Nat.le_trans hwt.cap hwt.capMax
 have hlg_m:lg.length≤9223372036854775807:=Nat.le_trans hlg.cap hlg.capMax
 refine sr (al (cs:=Z31) hs0 tz27 r0 trivial r0 (fun b1 w1 hs1=>?_))
 refine tA Z6 r0 (nn (sq (sr (tm (Z14 Awt wt cwt) r0 (tm (Z87 Alg lg clg) r0 (cS hs1 r0 (sL23Ok _ _ _ (hwt.up0 hs1) (hlg.up0 hs1) hlg_e) (fun w2 hs2=>?_)))))))
 refine qt r0 (nt r0) (nn (cd r0 (fun h1=>?_) (fun h1=>?_)))
 ·have h2:=nbF h1
  refine sr (qt r0 (bdv (v:=.agg #[I 0,ns,ns,Str []]) [] r0 (fun _=>by kernel_rfl)) (sG Z31 hs2 0 r0 ag27 (fun w3 hs3=>?_)))
  refine tA Z6 r0 (nn (rt (tR (fret (resC hs3 0 r0 r0 ag27 r0 (.tmp .nil)) r0 ?_))))
  have hs4:=hs3.nl [Z0] r0
  have hs5:=hs4.nl [.own none (([]:List (List UInt8×List UInt8)).length) 0 31 2 (([]:List (List UInt8×List UInt8)).flatMap gLogin)] r0
  have e1:talkNew wt lg=((0,([]:List Int),([]:List (List UInt8×List UInt8)),[]),false):=by simp[talkNew,h2]
  rw[e1]
  exact⟨none,0,none,0,rfl,(hs5.pk [1,2] r0)⟩
 have h3:=nbT h1
 refine sk (nN (sr (bsk hs2 sl24 [] [] trivial r0 (fun b2 w4 hs6=>?_))))
 refine tm (Z14 Awt wt cwt) r0 (apm (g:=I) (ys:=([]:List Int)) (zs:=wt) hs6 1 r0 sl24 r0 r0 r0 (hwt.up0 hs6) (fun _=>rfl) (by unfold maxLen; (simp; omega)) (by(simp; omega)) trivial r0 (fun A1 c1 w5 hs7=>?_))
 refine bsk hs7 sl25 [] [] trivial r0 (fun b3 w6 hs8=>?_)
 refine tm (Z87 Alg lg clg) r0 (apf (g:=gLogin) (ys:=([]:List (List UInt8×List UInt8))) (zs:=lg) hs8 2 r0 sl25 r0 (by decide) r0 r0 (hlg.up0 hs8) (fun _=>rfl) (by unfold maxLen; (simp; omega)) (by(simp; omega)) trivial r0 (fun A2 c2 w7 hs9=>?_))
 refine qt r0 (bdv (v:=.agg #[I 0,.slice A1 wt.length c1,.slice A2 lg.length c2,Str []]) [(1,.slice A1 wt.length c1),(2,.slice A2 lg.length c2)] r0 (fun _=>by kernel_rfl)) (sG [I 0,.slice A1 wt.length c1,.slice A2 lg.length c2,Str []] hs9 0 r0 ag27 (fun w8 hs10=>?_))
 refine tA Z35 r0 (nn (rt (fret (resC hs10 2 r0 r0 ag27 r0 (.tmp .nil)) r0 ?_)))
 have e2:talkNew wt lg=((0,wt,lg,[]),true):=by simp[talkNew,h3]
 rw[e2]
 exact⟨A1,c1,A2,c2,rfl,(hs10.pk [0,1] r0)⟩
set_option maxHeartbeats 8000000 in
theorem sL23Next (sx:Int) {Awt:Option Addr} {cwt:Nat} (wt:List Int) {Alg:Option Addr} {clg:Nat} (lg:List (List UInt8×List UInt8)) (to:List UInt8) (nst:Int) (w:World) (hwt:Sl w [] 1 Awt wt.length cwt (wt.map I)) (hwt_n:wt.length≤1099511627776) (hlg:Sl w [] 2 Alg lg.length clg (lg.flatMap gLogin)) (hlg_e: ∀ u∈lg,u.1.length≤9223372036854775807∧u.2.length≤9223372036854775807) (hlg_n:lg.length≤1099511627776):Does Tryz.prog 148 [.agg #[I sx,.slice Awt wt.length cwt,.slice Alg lg.length clg,Str to],I nst] w (fun v w'=>∃ Awr:Option Addr,∃ cwr:Nat,∃ Alr:Option Addr,∃ clr:Nat,v=.agg #[.int .i64 nst,.slice Awr wt.length cwr,.slice Alr lg.length clr,Str []]∧SH w w' [] [.own Awr wt.length cwr 3 1 (wt.map I),.own Alr lg.length clr 31 2 (lg.flatMap gLogin)]):=by
 refine fE (N:=15) Tryz.func148 r0 (by kernel_rfl) r0 ?_
 have hs0:=SH.refl w []
 have hwt_m:wt.length≤9223372036854775807:=Nat.le_trans hwt.cap hwt.capMax
 have hlg_m:lg.length≤9223372036854775807:=Nat.le_trans hlg.cap hlg.capMax
 refine sr (bx (v:=.agg #[I sx,(Z4 Awt wt cwt),(Z19 Alg lg clg),Str to]) (cs:=[I sx,(Z4 Awt wt cwt),(Z19 Alg lg clg),Str to]) hs0 r0 r0 trivial r0 (fun b1 w1 hs1=>?_))
 refine al (cs:=Z31) hs1 tz27 r0 trivial r0 (fun b2 w2 hs2=>?_)
 refine nn (sq ?_)
 refine raJ (fun w'=>∃ L,SH w w' [] L∧(.blk b1 27 [I sx,(Z4 Awt wt cwt),(Z19 Alg lg clg),Str to])∈L∧True) (fun f w'=>∃ (A4':Option Addr) (c4':Nat) (A8':Option Addr) (c8':Nat),Hz f [(4,pB b2)]∧SH w w' [] [.blk b1 27 [I sx,(Z4 Awt wt cwt),(Z19 Alg lg clg),Str to],.blk b2 27 [I nst,(Z4 A4' wt c4'),(Z19 A8' lg c8'),Str []],(Z32 A4' wt c4'),(Z26 A8' lg c8')]) mixed ?_ ?_
 ·refine dG 1 11 1023 (fun f w'=>∃ (A4':Option Addr) (c4':Nat) (A8':Option Addr) (c8':Nat),Hz f [(4,pB b2),(14,.agg #[I nst,(Z4 A4' wt c4'),(Z19 A8' lg c8'),Str []])]∧SH w w' [] [.blk b1 27 [I sx,(Z4 Awt wt cwt),(Z19 Alg lg clg),Str to],.blk b2 27 Z31,(Z32 A4' wt c4'),(Z26 A8' lg c8')]) ?_ (fun D_1_0=>?_)
  ·rintro f w3 ⟨A4',c4',A8',c8',⟨g1,rfl⟩,hs3⟩
   refine aO 10 r0 (sG [I nst,(Z4 A4' wt c4'),(Z19 A8' lg c8'),Str []] hs3 1 r0 ag27 (fun w4 hs4=>?_))
   refine nk (m1 hs4 0 r0) (ad (by kernel_rfl) ?_)
   exact⟨A4',c4',A8',c8',(zR r0),(hs4.pk [0,3,1,2] r0)⟩
  refine dG 3 11 255 (fun f w'=>∃ (b5':Nat) (A4':Option Addr) (c4':Nat),Hz f [(4,pB b2),(5,I nst),(9,.slice A4' wt.length c4'),(10,sb b5' (([]:List (List UInt8×List UInt8)).length) 0),(12,.slice Alg lg.length clg)]∧SH w w' [] [.blk b1 27 [I sx,(Z4 Awt wt cwt),(Z19 Alg lg clg),Str to],.blk b2 27 Z31,(Z32 A4' wt c4'),.own (Z8 b5') (([]:List (List UInt8×List UInt8)).length) 0 31 2 (([]:List (List UInt8×List UInt8)).flatMap gLogin)]) ?_ (fun D_1_1=>?_)
  ·rintro f w5 ⟨b5',A4',c4',⟨g2,rfl⟩,hs5⟩
   refine aO 8 r0 (apf (g:=gLogin) (ys:=([]:List (List UInt8×List UInt8))) (zs:=lg) hs5 3 r0 sl25 r0 (by decide) r0 r0 (hlg.up0 hs5) (fun _=>rfl) (by unfold maxLen; (simp; omega)) (by(simp; omega)) trivial r0 (fun A8' c8' w6 hs6=>?_))
   exact nk (m1 hs6 0 r0) (tk (fuel:=1) (is:=[9]) (.cons r0 (.nil)) (by kernel_rfl) (by kernel_rfl) (m1 hs6 0 r0) (yA r0 (bdv (v:=.agg #[I nst,(Z4 A4' wt c4'),(Z19 A8' lg c8'),Str []]) [(0,I nst),(1,.slice A4' wt.length c4'),(2,.slice A8' lg.length c8')] r0 (fun _=>by kernel_rfl)) (.nil (alc D_1_0 ⟨A4',c4',A8',c8',(zR r0),hs6⟩))))
  refine dG 4 11 223 (fun f w'=>∃ (A4':Option Addr) (c4':Nat),Hz f [(4,pB b2),(5,I nst),(9,.slice A4' wt.length c4'),(12,.slice Alg lg.length clg)]∧SH w w' [] [.blk b1 27 [I sx,(Z4 Awt wt cwt),(Z19 Alg lg clg),Str to],.blk b2 27 Z31,(Z32 A4' wt c4')]) ?_ (fun D_1_2=>?_)
  ·rintro f w7 ⟨A4',c4',⟨g3,rfl⟩,hs7⟩
   refine aO 5 r0 (bsk hs7 sl25 [] [] trivial r0 (fun b5' w8 hs8=>?_))
   exact nk (m1 hs8 0 r0) (alc D_1_1 ⟨b5',A4',c4',(zR r0),hs8⟩)
  refine dG 4 11 239 (fun f w'=>∃ (b1' b5':Nat),Hz f [(4,pB b2),(5,I nst),(6,sb b1' (([]:List Int).length) 0),(8,.slice Awt wt.length cwt),(10,sb b5' (([]:List (List UInt8×List UInt8)).length) 0),(12,.slice Alg lg.length clg)]∧SH w w' [] [.blk b1 27 [I sx,(Z4 Awt wt cwt),(Z19 Alg lg clg),Str to],.blk b2 27 Z31,(Z72 b1'),.own (Z8 b5') (([]:List (List UInt8×List UInt8)).length) 0 31 2 (([]:List (List UInt8×List UInt8)).flatMap gLogin)]) ?_ (fun D_1_3=>?_)
  ·rintro f w9 ⟨b1',b5',⟨g4,rfl⟩,hs9⟩
   refine aO 4 r0 (apm (g:=I) (ys:=([]:List Int)) (zs:=wt) hs9 2 r0 sl24 r0 r0 r0 (hwt.up0 hs9) (fun _=>rfl) (by unfold maxLen; (simp; omega)) (by(simp; omega)) trivial r0 (fun A4' c4' w10 hs10=>?_))
   exact nk (m1 hs10 0 r0) (alc D_1_1 ⟨b5',A4',c4',(zR r0),(hs10.pk [0,1,3,2] r0)⟩)
  refine dG 5 11 207 (fun f w'=>∃ (b1':Nat),Hz f [(4,pB b2),(5,I nst),(6,sb b1' (([]:List Int).length) 0),(8,.slice Awt wt.length cwt),(12,.slice Alg lg.length clg)]∧SH w w' [] [.blk b1 27 [I sx,(Z4 Awt wt cwt),(Z19 Alg lg clg),Str to],.blk b2 27 Z31,(Z72 b1')]) ?_ (fun D_1_4=>?_)
  ·rintro f w11 ⟨b1',⟨g5,rfl⟩,hs11⟩
   refine aaL [4,5] (fa_cons ?_ (fa_one ?_))
   ·refine one_ r0 (apm (g:=I) (ys:=([]:List Int)) (zs:=wt) hs11 2 r0 sl24 r0 r0 r0 (hwt.up0 hs11) (fun _=>rfl) (by unfold maxLen; (simp; omega)) (by(simp; omega)) trivial r0 (fun A4' c4' w12 hs12=>?_))
    exact nk (m1 hs12 0 r0) (alc D_1_2 ⟨A4',c4',(zR r0),hs12⟩)
   refine one_ r0 (bsk hs11 sl25 [] [] trivial r0 (fun b5' w13 hs13=>?_))
   exact nk (m1 hs13 0 r0) (alc D_1_3 ⟨b1',b5',(zR r0),hs13⟩)
  refine dG 5 11 237 (fun f w'=>∃ (b5':Nat),Hz f [(4,pB b2),(5,I nst),(8,.slice Awt wt.length cwt),(10,sb b5' (([]:List (List UInt8×List UInt8)).length) 0),(12,.slice Alg lg.length clg)]∧SH w w' [] [.blk b1 27 [I sx,(Z4 Awt wt cwt),(Z19 Alg lg clg),Str to],.blk b2 27 Z31,.own (Z8 b5') (([]:List (List UInt8×List UInt8)).length) 0 31 2 (([]:List (List UInt8×List UInt8)).flatMap gLogin)]) ?_ (fun D_1_5=>?_)
  ·rintro f w14 ⟨b5',⟨g6,rfl⟩,hs14⟩
   refine aO 1 r0 (bsk hs14 sl24 [] [] trivial r0 (fun b1' w15 hs15=>?_))
   exact nk (m1 hs15 0 r0) (alc D_1_3 ⟨b1',b5',(zR r0),(hs15.pk [0,1,3,2] r0)⟩)
  refine dG 6 11 205 (fun f w'=>Hz f [(4,pB b2),(5,I nst),(8,.slice Awt wt.length cwt),(12,.slice Alg lg.length clg)]∧SH w w' [] [.blk b1 27 [I sx,(Z4 Awt wt cwt),(Z19 Alg lg clg),Str to],.blk b2 27 Z31]) ?_ (fun D_1_6=>?_)
  ·rintro f w16 ⟨⟨g7,rfl⟩,hs16⟩
   refine aaL [1,5] (fa_cons ?_ (fa_one ?_))
   ·refine one_ r0 (bsk hs16 sl24 [] [] trivial r0 (fun b1' w17 hs17=>?_))
    exact nk (m1 hs17 0 r0) (alc D_1_4 ⟨b1',(zR r0),hs17⟩)
   refine one_ r0 (bsk hs16 sl25 [] [] trivial r0 (fun b5' w18 hs18=>?_))
   exact nk (m1 hs18 0 r0) (alc D_1_5 ⟨b5',(zR r0),hs18⟩)
  have hs19:=hs2.drew
  exact tk (fuel:=6) (is:=[0,2,3,6,7]) (.cons r0 (.cons r0 (.cons r0 (.cons r0 (.cons r0 (.nil)))))) (by kernel_rfl) (by kernel_rfl) (m1 hs19 0 r0) (yA r0 (mv (v:=I nst) r0) (yA r0 (fa 1 fo27_1 r0) (yB r0 (fun ⟨Lq,hsq,mh0,_⟩=>lM (Z14 Awt wt cwt) hsq mh0 r0 one24) (yA r0 (fa 2 fo27_2 r0) (yB r0 (fun ⟨Lq,hsq,mh0,_⟩=>lM (Z87 Alg lg clg) hsq mh0 r0 one25) (.nil (alc D_1_6 ⟨(zR r0),hs19⟩)))))))
 rintro f w19 ⟨A4',c4',A8',c8',⟨g8,rfl⟩,hs20⟩
 refine nN (rt (fret (resC hs20 1 r0 r0 ag27 r0 .nil) r0 ?_))
 exact⟨A4',c4',A8',c8',rfl,(hs20.pk [2,3] r0)⟩
theorem tkHello {tb:Nat} {Awt:Option Addr} {cwt:Nat} {Alg:Option Addr} {clg:Nat} (sx:Int) (wt:List Int) (lg:List Lg) (to:List UInt8) {Abs:Option Addr} {cbs:Nat} (bs:List Int) (w:World) (htk:w.heap[tb]?=some (.cells [.int .i64 sx,.slice Awt wt.length cwt,.slice Alg lg.length clg,Str to].toArray 27 (0,0))) (hwt:Sl w [tb] 1 Awt wt.length cwt (wt.map I)) (hlg:Sl w [tb] 2 Alg lg.length clg (lg.flatMap gLogin)) (hlg_e: ∀ u∈lg,u.1.length≤9223372036854775807∧u.2.length≤9223372036854775807) (hbs:Sl w [tb] 1 Abs bs.length cbs (bs.map I)) (hst:sx=4) (hto:to=[]):Does Tryz.prog 132 [pB tb,.slice Abs bs.length cbs] w (fun v w'=>∃ Ar:Option Addr,∃ cr:Nat,v=.slice Ar ((sayHello wt bs).2).length cr∧SH w w' [tb] [.blk tb 27 [I ((sayHello wt bs).1),.slice Awt wt.length cwt,.slice Alg lg.length clg,Str to],.own Ar (((sayHello wt bs).2).length) cr 3 1 (((sayHello wt bs).2).map I)]):=by
 refine fE (N:=48) Tryz.func132 r0 (by kernel_rfl) r0 ?_
 have hwt_m:wt.length≤9223372036854775807:=Nat.le_trans hwt.cap hwt.capMax
 have hlg_m:lg.length≤9223372036854775807:=Nat.le_trans hlg.cap hlg.capMax
 have hs0:=SH.entry1 htk
 have hbs_m:bs.length≤9223372036854775807:=Nat.le_trans hbs.cap hbs.capMax
 refine sr (tA ns r0 (nx (tm (Z14 Abs bs cbs) r0 (cS2 hs0 r0 (iHelloFrom _ _ (hbs.up hs0 (fun _ h=>h) (by simp))) (fun A1 c1 w1 hs1=>?_)))))
 refine tm (.tuple #[.slice A1 (((helloFrom bs).1).length) c1,I ((helloFrom bs).2.1),.bool ((helloFrom bs).2.2)]) r0 (qt r0 (xt 0 r0 r0) (qt r0 (xt 1 r0 r0) (qt r0 (xt 2 r0 r0) (tA (.slice A1 (((helloFrom bs).1).length) c1) r0 (tA (I ((helloFrom bs).2.1)) r0 (tA (Z95 bs) r0 (nl (nN (sq (sr (tm (Z95 bs) r0 (qt r0 (nt r0) (tm (.bool (!((helloFrom bs).2.2))) r0 (spl 19 r0 (fun h1=>?_) (fun h1=>?_)))))))))))))))
 ·have h2:=nbF h1
  refine gt5 r0 (gt5 r0 (gt5 r0 (gt5 r0 (qt r0 (pt (v:=.bool true) r0 r0) (nn (cdt r0 (sr (tA ns r0 (nn (rt (tR (fT ns r0 ?_))))))))))))
  have hs2:=hs1.nl [Z0] r0
  have e1:([]:List Int)=(sayHello wt bs).2:=by(rw[sayH_no1 ‹_›]; done)
  have e2:=congrArg List.length e1
  have e3:sx=(sayHello wt bs).1:=by(rw[sayH_no1 ‹_›]) <;> (exact hst)
  exact⟨none,0,(slv r0 e2 r0),((hs2.pq [0,2] r0).cast (lc (congrArg (It.blk tb 27) (lc (congrArg (Value.int .i64) e3) (lc r0 (lc r0 (lc r0 r0))))) (lc (own_eq (g:=I) r0 e2 r0 e1) r0)))⟩
 have h3:=nbT h1
 refine qh r0 (mv (v:=I ((helloFrom bs).2.1)) r0) (qh r0 (mv (v:=.slice Abs bs.length cbs) r0) (qh r0 (lnA sl24 r0) (qh r0 (lss r0 r0) (qt r0 (pf (v:=.bool (decide (((helloFrom bs).2.1)<(bs.length:Int)))) r0 r0) (nn (cdd r0 (fun h4=>?_) (fun h4=>?_)))))))
 ·refine sr (tA ns r0 (nn (rt (tR (fT ns r0 ?_)))))
  have hs3:=hs1.nl [Z0] r0
  have e4:([]:List Int)=(sayHello wt bs).2:=by(rw[sayH_no2 ‹_›]; done)
  have e5:=congrArg List.length e4
  have e6:sx=(sayHello wt bs).1:=by(rw[sayH_no2 ‹_›]) <;> (exact hst)
  exact⟨none,0,(slv r0 e5 r0),((hs3.pq [0,2] r0).cast (lc (congrArg (It.blk tb 27) (lc (congrArg (Value.int .i64) e6) (lc r0 (lc r0 (lc r0 r0))))) (lc (own_eq (g:=I) r0 e5 r0 e4) r0)))⟩
 refine sk (nN (sr (tm (pB tb) r0 (tn r0 (qt r0 (fa 1 fo27_1 r0) (qt r0 (lD (Z14 Awt wt cwt) hs1 0 r0 one24) (tm (.slice A1 (((helloFrom bs).1).length) c1) r0 (cS hs1 r0 (iHelloPick _ _ _ (hwt.up hs1 (fun _ h=>h) (by simp)) (hs1.sl0 1 r0)) (fun w2 hs4=>?_)))))))))
 refine tA (I (Z38 wt bs)) r0 (nn (sq (sr (tm (I (Z38 wt bs)) r0 (nl (nN (bl (sr (qt r0 (eqi r0 r0) (tA (.bool (decide ((Z38 wt bs)=0))) r0 (nn (cdd r0 (fun h5=>?_) (fun h5=>?_)))))))))))))
 ·refine rg (tm (pB tb) r0 (tn r0 (qt r0 (fa 0 fo27_0 r0) (sT (I 2) hs4 0 r0 one3 (fun w3 hs5=>?_)))))
  refine nl (bN (nN (sr (tm (I (Z38 wt bs)) r0 (cS2 hs5 r0 (iPickBytes _ _ (by exact pick_bd _ _)) (fun A2 c2 w4 hs6=>?_))))))
  refine tm (.tuple #[.slice A2 ([5,(Z38 wt bs)].length) c2,.bool true]) r0 (qt r0 (xt 0 r0 r0) (qt r0 (xt 1 r0 r0) (tA (.slice A2 ([5,(Z38 wt bs)].length) c2) r0 (tA Z35 r0 (nn (sq (rg (tm (.slice A2 ([5,(Z38 wt bs)].length) c2) r0 (tA (.slice A2 ([5,(Z38 wt bs)].length) c2) r0 (nn (rt (fT (.slice A2 ([5,(Z38 wt bs)].length) c2) r0 ?_))))))))))))
  have e7:[5,(Z38 wt bs)]=(sayHello wt bs).2:=by(rw[sayH_y ‹_› ‹_›]; done)
  have e8:=congrArg List.length e7
  have e9:2=(sayHello wt bs).1:=by(rw[sayH_y ‹_› ‹_›]) <;> ((simp[h3,h4,h5]; done))
  exact⟨A2,c2,(slv r0 e8 r0),((hs6.pq [1,2] r0).cast (lc (congrArg (It.blk tb 27) (lc (congrArg (Value.int .i64) e9) (lc r0 (lc r0 (lc r0 r0))))) (lc (own_eq (g:=I) r0 e8 r0 e7) r0)))⟩
 refine sr (qt r0 (eqi r0 r0) (tA (.bool (decide ((Z38 wt bs)=2))) r0 (nn (cdd r0 (fun h6=>?_) (fun h6=>?_)))))
 ·refine rg (tm (pB tb) r0 (tn r0 (qt r0 (fa 0 fo27_0 r0) (sT (I 1) hs4 0 r0 one3 (fun w5 hs7=>?_)))))
  refine nl (bN (nN (sr (tm (I (Z38 wt bs)) r0 (cS2 hs7 r0 (iPickBytes _ _ (by exact pick_bd _ _)) (fun A3 c3 w6 hs8=>?_))))))
  refine tm (.tuple #[.slice A3 ([5,(Z38 wt bs)].length) c3,.bool true]) r0 (qt r0 (xt 0 r0 r0) (qt r0 (xt 1 r0 r0) (tA (.slice A3 ([5,(Z38 wt bs)].length) c3) r0 (tA Z35 r0 (nn (sq (rg (tm (.slice A3 ([5,(Z38 wt bs)].length) c3) r0 (tA (.slice A3 ([5,(Z38 wt bs)].length) c3) r0 (nn (rt (fT (.slice A3 ([5,(Z38 wt bs)].length) c3) r0 ?_))))))))))))
  have e10:[5,(Z38 wt bs)]=(sayHello wt bs).2:=by(rw[sayH_y ‹_› ‹_›]; done)
  have e11:=congrArg List.length e10
  have e12:1=(sayHello wt bs).1:=by(rw[sayH_y ‹_› ‹_›]) <;> ((simp[h3,h4,h5,h6]; done))
  exact⟨A3,c3,(slv r0 e11 r0),((hs8.pq [1,2] r0).cast (lc (congrArg (It.blk tb 27) (lc (congrArg (Value.int .i64) e12) (lc r0 (lc r0 (lc r0 r0))))) (lc (own_eq (g:=I) r0 e11 r0 e10) r0)))⟩
 refine sk (bN (nN (sr (tm (I (Z38 wt bs)) r0 (cS2 hs4 r0 (iPickBytes _ _ (by exact pick_bd _ _)) (fun A4 c4 w7 hs9=>?_))))))
 refine tm (.tuple #[.slice A4 ([5,(Z38 wt bs)].length) c4,.bool true]) r0 (qt r0 (xt 0 r0 r0) (qt r0 (xt 1 r0 r0) (tA (.slice A4 ([5,(Z38 wt bs)].length) c4) r0 (tA Z35 r0 (nn (sq (rg (tm (.slice A4 ([5,(Z38 wt bs)].length) c4) r0 (tA (.slice A4 ([5,(Z38 wt bs)].length) c4) r0 (nn (rt (fT (.slice A4 ([5,(Z38 wt bs)].length) c4) r0 ?_))))))))))))
 have e13:[5,(Z38 wt bs)]=(sayHello wt bs).2:=by(rw[sayH_y ‹_› ‹_›]; done)
 have e14:=congrArg List.length e13
 have e15:sx=(sayHello wt bs).1:=by(rw[sayH_y ‹_› ‹_›]) <;> ((simp[h3,h4,h5,h6,hst]; done))
 exact⟨A4,c4,(slv r0 e14 r0),((hs9.pq [0,2] r0).cast (lc (congrArg (It.blk tb 27) (lc (congrArg (Value.int .i64) e15) (lc r0 (lc r0 (lc r0 r0))))) (lc (own_eq (g:=I) r0 e14 r0 e13) r0)))⟩
set_option maxHeartbeats 8000000 in
theorem tkLogin {tb:Nat} {Awt:Option Addr} {cwt:Nat} {Alg:Option Addr} {clg:Nat} (sx:Int) (wt:List Int) (lg:List Lg) (to:List UInt8) {Abs:Option Addr} {cbs:Nat} (bs:List Int) (w:World) (htk:w.heap[tb]?=some (.cells [.int .i64 sx,.slice Awt wt.length cwt,.slice Alg lg.length clg,Str to].toArray 27 (0,0))) (hwt:Sl w [tb] 1 Awt wt.length cwt (wt.map I)) (hlg:Sl w [tb] 2 Alg lg.length clg (lg.flatMap gLogin)) (hlg_e: ∀ u∈lg,u.1.length≤9223372036854775807∧u.2.length≤9223372036854775807) (hbs:Sl w [tb] 1 Abs bs.length cbs (bs.map I)) (hst:sx=4) (hto:to=[]):Does Tryz.prog 133 [pB tb,.slice Abs bs.length cbs] w (fun v w'=>∃ Ar:Option Addr,∃ cr:Nat,v=.slice Ar ((sayLogin lg bs).2).length cr∧SH w w' [tb] [.blk tb 27 [I ((sayLogin lg bs).1),.slice Awt wt.length cwt,.slice Alg lg.length clg,Str to],.own Ar (((sayLogin lg bs).2).length) cr 3 1 (((sayLogin lg bs).2).map I)]):=by
 refine fE (N:=35) Tryz.func133 r0 (by kernel_rfl) r0 ?_
 have hwt_m:wt.length≤9223372036854775807:=Nat.le_trans hwt.cap hwt.capMax
 have hlg_m:lg.length≤9223372036854775807:=Nat.le_trans hlg.cap hlg.capMax
 have hs0:=SH.entry1 htk
 have hbs_m:bs.length≤9223372036854775807:=Nat.le_trans hbs.cap hbs.capMax
 refine sr (tA ns r0 (nx (tm (Z14 Abs bs cbs) r0 (cS hs0 r0 (iLoginFrom _ _ (hbs.up hs0 (fun _ h=>h) (by simp))) (fun w1 hs1=>?_)))))
 refine tm (.tuple #[.agg #[Str ((loginFrom bs).1.1),Str ((loginFrom bs).1.2)],I ((loginFrom bs).2.1),.bool ((loginFrom bs).2.2)]) r0 (qt r0 (xt 0 r0 r0) (qt r0 (xt 1 r0 r0) (qt r0 (xt 2 r0 r0) (al (cs:=Z65) hs1 tz31 r0 trivial r0 (fun b1 w2 hs2=>?_)))))
 refine sG (Z74 bs) hs2 1 r0 ag31 (fun w3 hs3=>?_)
 refine tA (I ((loginFrom bs).2.1)) r0 (tA (.bool ((loginFrom bs).2.2)) r0 (nn (sq (sr (tm (.bool ((loginFrom bs).2.2)) r0 (qt r0 (nt r0) (tm (.bool (!((loginFrom bs).2.2))) r0 (spl 17 r0 (fun h1=>?_) (fun h1=>?_)))))))))
 ·have h2:=nbF h1
  refine gt5 r0 (gt5 r0 (gt5 r0 (gt5 r0 (qt r0 (pt (v:=.bool true) r0 r0) (nn (cdt r0 (sr (tA ns r0 (nn (rt (tR (fT ns r0 ?_))))))))))))
  have hs4:=hs3.nl [Z0] r0
  have e1:([]:List Int)=(sayLogin lg bs).2:=by(rw[sayL_no1 ‹_›]; done)
  have e2:=congrArg List.length e1
  have e3:sx=(sayLogin lg bs).1:=by(rw[sayL_no1 ‹_›]) <;> (exact hst)
  exact⟨none,0,(slv r0 e2 r0),((hs4.pq [0,2] r0).cast (lc (congrArg (It.blk tb 27) (lc (congrArg (Value.int .i64) e3) (lc r0 (lc r0 (lc r0 r0))))) (lc (own_eq (g:=I) r0 e2 r0 e1) r0)))⟩
 have h3:=nbT h1
 refine qh r0 (mv (v:=I ((loginFrom bs).2.1)) r0) (qh r0 (mv (v:=.slice Abs bs.length cbs) r0) (qh r0 (lnA sl24 r0) (qh r0 (lss r0 r0) (qt r0 (pf (v:=.bool (decide (((loginFrom bs).2.1)<(bs.length:Int)))) r0 r0) (nn (cdd r0 (fun h4=>?_) (fun h4=>?_)))))))
 ·refine sr (tA ns r0 (nn (rt (tR (fT ns r0 ?_)))))
  have hs5:=hs3.nl [Z0] r0
  have e4:([]:List Int)=(sayLogin lg bs).2:=by(rw[sayL_no2 ‹_›]; done)
  have e5:=congrArg List.length e4
  have e6:sx=(sayLogin lg bs).1:=by(rw[sayL_no2 ‹_›]) <;> (exact hst)
  exact⟨none,0,(slv r0 e5 r0),((hs5.pq [0,2] r0).cast (lc (congrArg (It.blk tb 27) (lc (congrArg (Value.int .i64) e6) (lc r0 (lc r0 (lc r0 r0))))) (lc (own_eq (g:=I) r0 e5 r0 e4) r0)))⟩
 refine sk (nN (sq (rq (fun w'=>SH w w' [tb] [.blk tb 27 [I sx,(Z4 Awt wt cwt),(Z19 Alg lg clg),Str to],.blk b1 31 (Z74 bs)]) mixed (by kernel_rfl) hs3.drew (qA r0 (mv (v:=pB tb) r0) (qA r0 (nc r0) (qA r0 (fa 2 fo27_2 r0) (qB r0 (fun hsq=>lD (Z87 Alg lg clg) hsq 0 r0 one25) (qB r0 (fun hsq=>lG (Z74 bs) hsq 1 r0 ag31) (qc (.bool (Z64 lg bs)) trivial r0 (fun wq hsq=>(iLoginFits _ _ _ _ (hlg.up hsq (fun _ h=>h) (by simp)) hlg_e (by(have hlk:=loginOk_fit (loginFrom_ok (by assumption:(loginFrom bs).2.2=true)).2.1; omega)) (by(have hlk:=loginOk_fit (loginFrom_ok (by assumption:(loginFrom bs).2.2=true)).2.1; omega))).mono (fun v w' h=>⟨h.1,by simpa using hsq.call0 h.2⟩)) (qA r0 (asg (v:=.bool (Z64 lg bs)) r0) (qn (fun w4 hs6=>?_))))))))))))
 refine nN (sq (sr (tm (.bool (Z64 lg bs)) r0 (nn (cd r0 (fun h5=>?_) (fun h5=>?_))))))
 ·refine rg (tm (pB tb) r0 (tn r0 (qt r0 (fa 0 fo27_0 r0) (sT (I 2) hs6 0 r0 one3 (fun w5 hs7=>?_)))))
  refine nx (tm (.bool (Z64 lg bs)) r0 (cS2 hs7 r0 (iLoginReply _ _) (fun A1 c1 w6 hs8=>?_)))
  refine tA (.slice A1 ((lrB (Z64 lg bs)).length) c1) r0 (nn (rt (fT (.slice A1 ((lrB (Z64 lg bs)).length) c1) r0 ?_)))
  have e7:lrB (Z64 lg bs)=(sayLogin lg bs).2:=by(rw[sayL_y ‹_› ‹_›]; done)
  have e8:=congrArg List.length e7
  have e9:2=(sayLogin lg bs).1:=by(rw[sayL_y ‹_› ‹_›]) <;> ((simp[h3,h4,h5]; done))
  exact⟨A1,c1,(slv r0 e8 r0),((hs8.pq [1,2] r0).cast (lc (congrArg (It.blk tb 27) (lc (congrArg (Value.int .i64) e9) (lc r0 (lc r0 (lc r0 r0))))) (lc (own_eq (g:=I) r0 e8 r0 e7) r0)))⟩
 refine sk (nN (sr (tm (.bool (Z64 lg bs)) r0 (cS2 hs6 r0 (iLoginReply _ _) (fun A2 c2 w7 hs9=>?_)))))
 refine tA (.slice A2 ((lrB (Z64 lg bs)).length) c2) r0 (nn (rt (fT (.slice A2 ((lrB (Z64 lg bs)).length) c2) r0 ?_)))
 have e10:lrB (Z64 lg bs)=(sayLogin lg bs).2:=by(rw[sayL_y ‹_› ‹_›]; done)
 have e11:=congrArg List.length e10
 have e12:sx=(sayLogin lg bs).1:=by(rw[sayL_y ‹_› ‹_›]) <;> ((simp[h3,h4,h5,hst]; done))
 exact⟨A2,c2,(slv r0 e11 r0),((hs9.pq [0,2] r0).cast (lc (congrArg (It.blk tb 27) (lc (congrArg (Value.int .i64) e12) (lc r0 (lc r0 (lc r0 r0))))) (lc (own_eq (g:=I) r0 e11 r0 e10) r0)))⟩
theorem tkRequest {tb:Nat} {Awt:Option Addr} {cwt:Nat} {Alg:Option Addr} {clg:Nat} (sx:Int) (wt:List Int) (lg:List Lg) (to:List UInt8) {Abs:Option Addr} {cbs:Nat} (bs:List Int) (w:World) (htk:w.heap[tb]?=some (.cells [.int .i64 sx,.slice Awt wt.length cwt,.slice Alg lg.length clg,Str to].toArray 27 (0,0))) (hwt:Sl w [tb] 1 Awt wt.length cwt (wt.map I)) (hlg:Sl w [tb] 2 Alg lg.length clg (lg.flatMap gLogin)) (hlg_e: ∀ u∈lg,u.1.length≤9223372036854775807∧u.2.length≤9223372036854775807) (hbs:Sl w [tb] 1 Abs bs.length cbs (bs.map I)) (hst:sx=4) (hto:to=[]) (hGp:VarP Tryz.prog w [tb] "internal/strconv.uint64pow10" isPow):Does Tryz.prog 134 [pB tb,.slice Abs bs.length cbs] w (fun v w'=>∃ Ar:Option Addr,∃ cr:Nat,v=.slice Ar ((sayReq bs).2.2).length cr∧SH w w' [tb] [.blk tb 27 [I ((sayReq bs).1),.slice Awt wt.length cwt,.slice Alg lg.length clg,Str ((sayReq bs).2.1)],.own Ar (((sayReq bs).2.2).length) cr 3 1 (((sayReq bs).2.2).map I)]):=by
 refine fE (N:=45) Tryz.func134 r0 (by kernel_rfl) r0 ?_
 have hwt_m:wt.length≤9223372036854775807:=Nat.le_trans hwt.cap hwt.capMax
 have hlg_m:lg.length≤9223372036854775807:=Nat.le_trans hlg.cap hlg.capMax
 have hs0:=SH.entry1 htk
 have hbs_m:bs.length≤9223372036854775807:=Nat.le_trans hbs.cap hbs.capMax
 refine sr (tA ns r0 (nx (tm (Z14 Abs bs cbs) r0 (cS2 hs0 r0 (iRequestFrom _ _ (hbs.up hs0 (fun _ h=>h) (by simp))) (fun Aq1 cq1 w1 hs1=>?_)))))
 refine tm (.tuple #[.agg #[I ((reqFrom bs).1.1),I ((reqFrom bs).1.2.1),.slice Aq1 (((reqFrom bs).1.2.2.1).length) cq1,Str ((reqFrom bs).1.2.2.2.1),I ((reqFrom bs).1.2.2.2.2)],I ((reqFrom bs).2.1),.bool ((reqFrom bs).2.2)]) r0 (qt r0 (xt 0 r0 r0) (qt r0 (xt 1 r0 r0) (qt r0 (xt 2 r0 r0) (al (cs:=Z103) hs1 tz64 r0 trivial r0 (fun b1 w2 hs2=>?_)))))
 refine sG (Z66 bs Aq1 cq1) hs2 2 r0 ag64 (fun w3 hs3=>?_)
 refine tA (I ((reqFrom bs).2.1)) r0 (tA (.bool ((reqFrom bs).2.2)) r0 (nn (sq (sr (tm (.bool ((reqFrom bs).2.2)) r0 (qt r0 (nt r0) (tm (.bool (!((reqFrom bs).2.2))) r0 (spl 19 r0 (fun h1=>?_) (fun h1=>?_)))))))))
 ·have h2:=nbF h1
  refine gt5 r0 (gt5 r0 (gt5 r0 (gt5 r0 (qt r0 (pt (v:=.bool true) r0 r0) (nn (cdt r0 (sr (tA ns r0 (nn (rt (tR (fT ns r0 ?_))))))))))))
  have hs4:=hs3.nl [Z0] r0
  have e1:([]:List Int)=(sayReq bs).2.2:=by(rw[sayR_no1 ‹_›]; done)
  have e2:=congrArg List.length e1
  have e3:sx=(sayReq bs).1:=by(rw[sayR_no1 ‹_›]) <;> (exact hst)
  have e4:to=(sayReq bs).2.1:=by(rw[sayR_no1 ‹_›]) <;> (exact hto)
  exact⟨none,0,(slv r0 e2 r0),((hs4.pq [0,3] r0).cast (lc (congrArg (It.blk tb 27) (lc (congrArg (Value.int .i64) e3) (lc r0 (lc r0 (lc (congrArg Str e4) r0))))) (lc (own_eq (g:=I) r0 e2 r0 e1) r0)))⟩
 have h3:=nbT h1
 refine qh r0 (mv (v:=I ((reqFrom bs).2.1)) r0) (qh r0 (mv (v:=.slice Abs bs.length cbs) r0) (qh r0 (lnA sl24 r0) (qh r0 (lss r0 r0) (qt r0 (pf (v:=.bool (decide (((reqFrom bs).2.1)<(bs.length:Int)))) r0 r0) (nn (cdd r0 (fun h4=>?_) (fun h4=>?_)))))))
 ·refine sr (tA ns r0 (nn (rt (tR (fT ns r0 ?_)))))
  have hs5:=hs3.nl [Z0] r0
  have e5:([]:List Int)=(sayReq bs).2.2:=by(rw[sayR_no2 ‹_›]; done)
  have e6:=congrArg List.length e5
  have e7:sx=(sayReq bs).1:=by(rw[sayR_no2 ‹_›]) <;> (exact hst)
  have e8:to=(sayReq bs).2.1:=by(rw[sayR_no2 ‹_›]) <;> (exact hto)
  exact⟨none,0,(slv r0 e6 r0),((hs5.pq [0,3] r0).cast (lc (congrArg (It.blk tb 27) (lc (congrArg (Value.int .i64) e7) (lc r0 (lc r0 (lc (congrArg Str e8) r0))))) (lc (own_eq (g:=I) r0 e6 r0 e5) r0)))⟩
 refine sk (nN (sr (tA (I 7) r0 (nn (sq (sr (qt r0 (fa 0 fo64_0 r0) (qt r0 (lD (I ((reqFrom bs).1.1)) hs3 2 r0 one3) (qt r0 (eqi r0 r0) (nn (cdd r0 (fun h5=>?_) (fun h5=>?_))))))))))))
 ·refine sr (tA (I 0) r0 (nx (tm (pB tb) r0 (tn r0 (qt r0 (fa 0 fo27_0 r0) (sT (I 3) hs3 0 r0 one3 (fun w4 hs6=>?_)))))))
  refine nn (rg (tm (pB tb) r0 (qt r0 (fa 1 fo64_1 r0) (qt r0 (lG (Z52 bs Aq1 cq1) hs6 1 r0 ag54) (cS hs6 r0 (iAddressText _ _ _ _ _ (hs6.sl0 0 r0) (by(have hrn:=reqFrom_nm bs; omega)) (by exact(reqFrom_ok ‹_›).1) (hGp.up hs6 (fun _ h=>h) (by simp))) (fun w5 hs7=>?_))))))
  refine tn r0 (qt r0 (fa 3 fo27_3 r0) (sT (Str (hostT ((reqFrom bs).1.2.1) ((reqFrom bs).1.2.2.1) ((reqFrom bs).1.2.2.2.1)++[58]++Lib.itoa ((reqFrom bs).1.2.2.2.2))) hs7 2 r0 one9 (fun w6 hs8=>?_)))
  refine nx (tm (I 0) r0 (qt r0 (fa 1 fo64_1 r0) (qt r0 (lG (Z52 bs Aq1 cq1) hs8 1 r0 ag54) (cS2 hs8 r0 (iReplyBytes 0 _ _ _ _ _ (hs8.sl0 0 r0) (by(have hrn:=reqFrom_nm bs; omega))) (fun A1 c1 w7 hs9=>?_)))))
  refine tm (.tuple #[.slice A1 (((Z15 bs).1).length) c1,.bool ((Z15 bs).2)]) r0 (qt r0 (xt 0 r0 r0) (qt r0 (xt 1 r0 r0) (tA (.slice A1 (((Z15 bs).1).length) c1) r0 (tA (.bool ((Z15 bs).2)) r0 (nn ?_)))))
  have hs10:=hs9.pq [2,3] r0
  refine sr (tm (.slice A1 (((Z15 bs).1).length) c1) r0 (tA (.slice A1 (((Z15 bs).1).length) c1) r0 (nn (rt (fT (.slice A1 (((Z15 bs).1).length) c1) r0 ?_)))))
  have e9:(Z15 bs).1=(sayReq bs).2.2:=by(rw[sayR_c ‹_› (reqFrom_n ‹_› ‹_›) ‹_›]; done)
  have e10:=congrArg List.length e9
  have e11:3=(sayReq bs).1:=by(rw[sayR_c ‹_› (reqFrom_n ‹_› ‹_›) ‹_›]) <;> (first | done | exact hst | exact hto | exact addrT_y (reqFrom_ok ‹_›).1)
  have e12:hostT ((reqFrom bs).1.2.1) ((reqFrom bs).1.2.2.1) ((reqFrom bs).1.2.2.2.1)++[58]++Lib.itoa ((reqFrom bs).1.2.2.2.2)=(sayReq bs).2.1:=by(rw[sayR_c ‹_› (reqFrom_n ‹_› ‹_›) ‹_›]) <;> (exact addrT_y (reqFrom_ok ‹_›).1)
  exact⟨A1,c1,(slv r0 e10 r0),(hs10.cast (lc (congrArg (It.blk tb 27) (lc (congrArg (Value.int .i64) e11) (lc r0 (lc r0 (lc (congrArg Str e12) r0))))) (lc (own_eq (g:=I) r0 e10 r0 e9) r0)))⟩
 refine sk (nN (sr (tm (I 7) r0 (qt r0 (fa 1 fo64_1 r0) (qt r0 (lG (Z52 bs Aq1 cq1) hs3 2 r0 ag54) (cS2 hs3 r0 (iReplyBytes 7 _ _ _ _ _ (hs3.sl0 1 r0) (by(have hrn:=reqFrom_nm bs; omega))) (fun A2 c2 w8 hs11=>?_)))))))
 refine tm (.tuple #[.slice A2 (((Z18 bs).1).length) c2,.bool ((Z18 bs).2)]) r0 (qt r0 (xt 0 r0 r0) (qt r0 (xt 1 r0 r0) (tA (.slice A2 (((Z18 bs).1).length) c2) r0 (tA (.bool ((Z18 bs).2)) r0 (nn ?_)))))
 have hs12:=hs11.pq [0,3] r0
 refine sr (tm (.slice A2 (((Z18 bs).1).length) c2) r0 (tA (.slice A2 (((Z18 bs).1).length) c2) r0 (nn (rt (fT (.slice A2 (((Z18 bs).1).length) c2) r0 ?_)))))
 have e13:(Z18 bs).1=(sayReq bs).2.2:=by(rw[sayR_n ‹_› (reqFrom_n ‹_› ‹_›) ‹_›]; done)
 have e14:=congrArg List.length e13
 have e15:sx=(sayReq bs).1:=by(rw[sayR_n ‹_› (reqFrom_n ‹_› ‹_›) ‹_›]) <;> (exact hst)
 have e16:to=(sayReq bs).2.1:=by(rw[sayR_n ‹_› (reqFrom_n ‹_› ‹_›) ‹_›]) <;> (exact hto)
 exact⟨A2,c2,(slv r0 e14 r0),(hs12.cast (lc (congrArg (It.blk tb 27) (lc (congrArg (Value.int .i64) e15) (lc r0 (lc r0 (lc (congrArg Str e16) r0))))) (lc (own_eq (g:=I) r0 e14 r0 e13) r0)))⟩
theorem iTalkSay (sx:Int) {Awt:Option Addr} {cwt:Nat} (wt:List Int) {Alg:Option Addr} {clg:Nat} (lg:List (List UInt8×List UInt8)) (to:List UInt8) {Abs:Option Addr} {cbs:Nat} (bs:List Int) (w:World) (hwt:Sl w [] 1 Awt wt.length cwt (wt.map I)) (hlg:Sl w [] 2 Alg lg.length clg (lg.flatMap gLogin)) (hlg_e: ∀ u∈lg,u.1.length≤9223372036854775807∧u.2.length≤9223372036854775807) (hto_n:to.length≤1099511627776) (hbs:Sl w [] 1 Abs bs.length cbs (bs.map I)) (hGp:VarP Tryz.prog w [] "internal/strconv.uint64pow10" isPow) (hEr:VarP Tryz.prog w [] "strconv.ErrRange" isIfc) (hEs:VarP Tryz.prog w [] "strconv.ErrSyntax" isIfc):Does Tryz.prog 78 [.agg #[I sx,.slice Awt wt.length cwt,.slice Alg lg.length clg,Str to],.slice Abs bs.length cbs] w (fun v w'=>∃ Awr:Option Addr,∃ cwr:Nat,∃ Alr:Option Addr,∃ clr:Nat,∃ Ayr:Option Addr,∃ cyr:Nat,v=.tuple #[.agg #[.int .i64 ((talkSay sx wt lg to bs).1.1),.slice Awr ((talkSay sx wt lg to bs).1.2.1).length cwr,.slice Alr ((talkSay sx wt lg to bs).1.2.2.1).length clr,Str ((talkSay sx wt lg to bs).1.2.2.2)],.slice Ayr ((talkSay sx wt lg to bs).2.1).length cyr,.bool ((talkSay sx wt lg to bs).2.2)]∧SH w w' [] [.own Awr (((talkSay sx wt lg to bs).1.2.1).length) cwr 3 1 (((talkSay sx wt lg to bs).1.2.1).map I),.own Alr (((talkSay sx wt lg to bs).1.2.2.1).length) clr 31 2 (((talkSay sx wt lg to bs).1.2.2.1).flatMap gLogin),.own Ayr (((talkSay sx wt lg to bs).2.1).length) cyr 3 1 (((talkSay sx wt lg to bs).2.1).map I)]):=by
 refine fE (N:=44) Tryz.func78 r0 (by kernel_rfl) r0 ?_
 have hs0:SH w w [] []:=SH.refl w []
 have hwt_m:wt.length≤9223372036854775807:=Nat.le_trans hwt.cap hwt.capMax
 have hlg_m:lg.length≤9223372036854775807:=Nat.le_trans hlg.cap hlg.capMax
 have hbs_m:bs.length≤9223372036854775807:=Nat.le_trans hbs.cap hbs.capMax
 refine sr (bx (v:=.agg #[I sx,(Z4 Awt wt cwt),(Z19 Alg lg clg),Str to]) (cs:=[I sx,(Z4 Awt wt cwt),(Z19 Alg lg clg),Str to]) hs0 r0 r0 trivial r0 (fun b1 w1 hs1=>?_))
 refine al (cs:=Z31) hs1 tz27 r0 trivial r0 (fun b2 w2 hs2=>?_)
 refine tA ns r0 (tA Z6 r0 (nn (sq (sr (qt r0 (lG [I sx,(Z4 Awt wt cwt),(Z19 Alg lg clg),Str to] hs2 0 r0 ag27) (cS hs2 r0 (iTalkValid _ _ _ _ _ (hwt.up0 hs2) (hlg.up0 hs2) hlg_e (by omega) (hGp.up0 hs2) (hEr.up0 hs2) (hEs.up0 hs2)) (fun w3 hs3=>?_)))))))
 refine qt r0 (nt r0) (tm (.bool (!(talkOk sx wt lg to))) r0 (spl 13 r0 (fun h1=>?_) (fun h1=>?_)))
 ·have h2:=nbF h1
  refine gt5 r0 (gt5 r0 (gt5 r0 (qt r0 (pt (v:=.bool true) r0 r0) (tm Z35 r0 (gt5 r0 (gt5 r0 (gt5 r0 (qt r0 (pt (v:=.bool true) r0 r0) (nn (cdt r0 (sr (qt r0 (bdv (v:=.agg #[I 0,ns,ns,Str []]) [] r0 (fun _=>by kernel_rfl)) (sG Z31 hs3 1 r0 ag27 (fun w4 hs4=>?_))))))))))))))
  refine tA ns r0 (tA Z6 r0 (nn (rt (tR (fret (resC hs4 1 r0 r0 ag27 r0 (.tmp (.tmp .nil))) r0 ?_)))))
  have hs5:=hs4.nl [Z0] r0
  have hs6:SH w w4 [] [.blk b1 27 [I sx,(Z4 Awt wt cwt),(Z19 Alg lg clg),Str to],.blk b2 27 Z31,Z0,.own none (([]:List (List UInt8×List UInt8)).length) 0 31 2 (([]:List (List UInt8×List UInt8)).flatMap gLogin)]:=SH.nils (by intro i hi; simp at hi; subst hi; exact nilItemF) hs5
  have hs7:=hs6.nl [Z0] r0
  have e1:talkSay sx wt lg to bs=((0,([]:List Int),([]:List (List UInt8×List UInt8)),[]),([]:List Int),false):=by exact talkSay_no (.inl ‹_›)
  rw[e1]
  exact⟨none,0,none,0,none,0,rfl,(hs7.pk [2,3,4] r0)⟩
 have h3:=nbT h1
 refine qh r0 (mv (v:=.slice Abs bs.length cbs) r0) (cl ⟨_,rfl,rfl⟩ r0 (iBytesValid _ _ (hbs.up0 hs3)) ?_)
 rintro _ w5 ⟨rfl,hs8⟩
 replace hs8:=hs3.call0 hs8
 refine qh r0 (nt r0) (qt r0 (pf (v:=.bool (!(isBytes bs))) r0 r0) (tm (Z106 bs) r0 (spl 18 r0 (fun h4=>?_) (fun h4=>?_))))
 ·have h5:=nbF h4
  refine gt5 r0 (gt5 r0 (gt5 r0 (qt r0 (pt (v:=.bool true) r0 r0) (nn (cdt r0 (sq (rg (qt r0 (bdv (v:=.agg #[I 0,ns,ns,Str []]) [] r0 (fun _=>by kernel_rfl)) (sG Z31 hs8 1 r0 ag27 (fun w6 hs9=>?_))))))))))
  refine tA ns r0 (tA Z6 r0 (nn (rt (tR (fret (resC hs9 1 r0 r0 ag27 r0 (.tmp (.tmp .nil))) r0 ?_)))))
  have hs10:=hs9.nl [Z0] r0
  have hs11:=hs10.nl [.own none (([]:List (List UInt8×List UInt8)).length) 0 31 2 (([]:List (List UInt8×List UInt8)).flatMap gLogin)] r0
  have hs12:SH w w6 [] [.blk b1 27 [I sx,(Z4 Awt wt cwt),(Z19 Alg lg clg),Str to],.blk b2 27 Z31,Z0,.own none (([]:List (List UInt8×List UInt8)).length) 0 31 2 (([]:List (List UInt8×List UInt8)).flatMap gLogin),Z0]:=SH.nils (by intro i hi; simp at hi; subst hi; exact nilItem) hs11
  have e2:talkSay sx wt lg to bs=((0,([]:List Int),([]:List (List UInt8×List UInt8)),[]),([]:List Int),false):=by exact talkSay_no (.inr (.inl ‹_›))
  rw[e2]
  exact⟨none,0,none,0,none,0,rfl,(hs12.pk [2,3,4] r0)⟩
 have h6:=nbT h4
 refine qh r0 (fa 0 fo27_0 r0) (qh r0 (lD (I sx) hs8 0 r0 one3) (qh r0 (geq r0 r0) (qt r0 (pf (v:=.bool (decide ((3:Int)≤sx))) r0 r0) (nn (cdd r0 (fun h7=>?_) (fun h7=>?_))))))
 ·refine sr (qt r0 (bdv (v:=.agg #[I 0,ns,ns,Str []]) [] r0 (fun _=>by kernel_rfl)) (sG Z31 hs8 1 r0 ag27 (fun w7 hs13=>?_)))
  refine tA ns r0 (tA Z6 r0 (nn (rt (tR (fret (resC hs13 1 r0 r0 ag27 r0 (.tmp (.tmp .nil))) r0 ?_)))))
  have hs14:=hs13.nl [Z0] r0
  have hs15:=hs14.nl [.own none (([]:List (List UInt8×List UInt8)).length) 0 31 2 (([]:List (List UInt8×List UInt8)).flatMap gLogin)] r0
  have hs16:=hs15.nl [Z0] r0
  have e3:talkSay sx wt lg to bs=((0,([]:List Int),([]:List (List UInt8×List UInt8)),[]),([]:List Int),false):=by exact talkSay_no (.inr (.inr ‹_›))
  rw[e3]
  exact⟨none,0,none,0,none,0,rfl,(hs16.pk [2,3,4] r0)⟩
 refine sk (nN (sr (qt r0 (fa 0 fo27_0 r0) (qt r0 (lD (I sx) hs8 0 r0 one3) (tA (I sx) r0 (nl ?_))))))
 have htp:=talkOk_parts (by assumption:talkOk sx wt lg to=true)
 have hmw:=methOk_len htp.2.1
 refine nN (sr (qt r0 (lG [I sx,(Z4 Awt wt cwt),(Z19 Alg lg clg),Str to] hs8 0 r0 ag27) (cL r0 (iCloneTalk _ _ _ _ _ (hwt.up0 hs8) (by omega) (hlg.up0 hs8) hlg_e (by omega)) ?_)))
 rintro _ w8 ⟨Aw1,cw1,Al1,cl1,rfl,hs17⟩
 replace hs17:=hs8.call0 hs17
 refine al (cs:=Z31) hs17 tz27 r0 trivial r0 (fun b3 w9 (hs18:SH w w9 [] [.blk b1 27 [I sx,(Z4 Awt wt cwt),(Z19 Alg lg clg),Str to],.blk b2 27 Z31,(Z32 Aw1 wt cw1),(Z26 Al1 lg cl1),.blk b3 27 Z31])=>?_)
 refine sG [I sx,(Z4 Aw1 wt cw1),(Z19 Al1 lg cl1),Str to] hs18 4 r0 ag27 (fun w10 hs19=>?_)
 refine nx (qt r0 (fa 0 fo27_0 r0) (sT (I 4) hs19 4 r0 one3 (fun w11 hs20=>?_)))
 refine nx (tA ns r0 (nn (sq (sr (tm (I sx) r0 (nn (bl (sr (qt r0 (eqi r0 r0) (tA (.bool (decide (sx=0))) r0 (nn (cdd r0 (fun h8=>?_) (fun h8=>?_)))))))))))))
 ·refine rg (tm (Z14 Abs bs cbs) r0 (cL r0 (tkHello 4 _ _ _ _ _ (blk_heap hs20 4 r0) (hs20.sl 2 r0 (by intro k hk; simp at hk; subst hk; exact⟨_,memi 3 r0,rfl⟩)) (hs20.sl 3 r0 (by intro k hk; simp at hk; subst hk; exact⟨_,memi 3 r0,rfl⟩)) (by(assumption)) (hbs.up hs20 (by simp) (fun k h=>.inr (hs20.lo1 4 r0 k h))) (by rfl) (by exact htp.2.2.2.2.2.2.2 (by omega))) ?_))
  rintro _ w12 ⟨A1,c1,rfl,hs21⟩
  replace hs21:=hs20.cK [4] [0,1,2,3] hs21 r0
  refine tA (.slice A1 (((sayHello wt bs).2).length) c1) r0 (nl (bN (nN (sr (qt r0 (lG [I ((sayHello wt bs).1),(Z4 Aw1 wt cw1),(Z19 Al1 lg cl1),Str to] hs21 4 r0 ag27) (tm (.slice A1 (((sayHello wt bs).2).length) c1) r0 (sG [I ((sayHello wt bs).1),(Z4 Aw1 wt cw1),(Z19 Al1 lg cl1),Str to] hs21 1 r0 ag27 (fun w13 hs22=>?_))))))))
  refine tA (.slice A1 (((sayHello wt bs).2).length) c1) r0 (tA Z35 r0 (nn ?_))
  have hs23:=hs22.pq [1,2,4,5] r0
  refine rt (fret (resC hs23 3 r0 r0 ag27 r0 (.tmp (.tmp .nil))) r0 ?_)
  have e4:talkSay sx wt lg to bs=(((sayHello wt bs).1,wt,lg,to),(sayHello wt bs).2,true):=by exact talkSay_0 ‹_› ‹_› ‹_›
  rw[e4]
  exact⟨Aw1,cw1,Al1,cl1,A1,c1,rfl,(hs23.pk [0,1,2] r0)⟩
 refine sr (qt r0 (eqi r0 r0) (tA (Z88 sx) r0 (nn (cdd r0 (fun h9=>?_) (fun h9=>?_)))))
 ·refine rg (tm (Z14 Abs bs cbs) r0 (cL r0 (tkLogin 4 _ _ _ _ _ (blk_heap hs20 4 r0) (hs20.sl 2 r0 (by intro k hk; simp at hk; subst hk; exact⟨_,memi 3 r0,rfl⟩)) (hs20.sl 3 r0 (by intro k hk; simp at hk; subst hk; exact⟨_,memi 3 r0,rfl⟩)) (by(assumption)) (hbs.up hs20 (by simp) (fun k h=>.inr (hs20.lo1 4 r0 k h))) (by rfl) (by exact htp.2.2.2.2.2.2.2 (by omega))) ?_))
  rintro _ w14 ⟨A2,c2,rfl,hs24⟩
  replace hs24:SH w w14 [] [.blk b1 27 [I sx,(Z4 Awt wt cwt),(Z19 Alg lg clg),Str to],.blk b2 27 Z31,(Z32 Aw1 wt cw1),(Z26 Al1 lg cl1),.blk b3 27 [I ((sayLogin lg bs).1),(Z4 Aw1 wt cw1),(Z19 Al1 lg cl1),Str to],.own A2 (((sayLogin lg bs).2).length) c2 3 1 (((sayLogin lg bs).2).map I)]:=SH.callK (K:=[.blk b3 27 [I 4,(Z4 Aw1 wt cw1),(Z19 Al1 lg cl1),Str to]]) (R:=[.blk b1 27 [I sx,(Z4 Awt wt cwt),(Z19 Alg lg clg),Str to],.blk b2 27 Z31,(Z32 Aw1 wt cw1),(Z26 Al1 lg cl1)]) (hs20.pk [4,0,1,2,3] r0) hs24 r0
  refine tA (.slice A2 (((sayLogin lg bs).2).length) c2) r0 (nl (bN (nN (sr (qt r0 (lG [I ((sayLogin lg bs).1),(Z4 Aw1 wt cw1),(Z19 Al1 lg cl1),Str to] hs24 4 r0 ag27) (tm (.slice A2 (((sayLogin lg bs).2).length) c2) r0 (sG [I ((sayLogin lg bs).1),(Z4 Aw1 wt cw1),(Z19 Al1 lg cl1),Str to] hs24 1 r0 ag27 (fun w15 hs25=>?_))))))))
  refine tA (.slice A2 (((sayLogin lg bs).2).length) c2) r0 (tA Z35 r0 (nn ?_))
  have hs26:=hs25.pq [1,2,4,5] r0
  refine rt (fret (resC hs26 3 r0 r0 ag27 r0 (.tmp (.tmp .nil))) r0 ?_)
  have e5:talkSay sx wt lg to bs=(((sayLogin lg bs).1,wt,lg,to),(sayLogin lg bs).2,true):=by exact talkSay_1 ‹_› ‹_› ‹_›
  rw[e5]
  exact⟨Aw1,cw1,Al1,cl1,A2,c2,rfl,(hs26.pk [0,1,2] r0)⟩
 refine sr (qt r0 (eqi r0 r0) (tA (.bool (decide (sx=2))) r0 (nn (cdd r0 (fun h10=>?_) (fun h10=>?_)))))
 ·refine rg (tm (Z14 Abs bs cbs) r0 (cL r0 (tkRequest 4 _ _ _ _ _ (blk_heap hs20 4 r0) (hs20.sl 2 r0 (by intro k hk; simp at hk; subst hk; exact⟨_,memi 3 r0,rfl⟩)) (hs20.sl 3 r0 (by intro k hk; simp at hk; subst hk; exact⟨_,memi 3 r0,rfl⟩)) (by(assumption)) (hbs.up hs20 (by simp) (fun k h=>.inr (hs20.lo1 4 r0 k h))) (by rfl) (by exact htp.2.2.2.2.2.2.2 (by omega)) (hGp.up hs20 (by simp) (fun k h=>.inr (hs20.lo1 4 r0 k h)))) ?_))
  rintro _ w16 ⟨A3,c3,rfl,hs27⟩
  replace hs27:=hs20.cK [4] [0,1,2,3] hs27 r0
  refine tA (.slice A3 (((sayReq bs).2.2).length) c3) r0 (nl (bN (nN (sr (qt r0 (lG [I ((sayReq bs).1),(Z4 Aw1 wt cw1),(Z19 Al1 lg cl1),Str ((sayReq bs).2.1)] hs27 4 r0 ag27) (tm (.slice A3 (((sayReq bs).2.2).length) c3) r0 (sG [I ((sayReq bs).1),(Z4 Aw1 wt cw1),(Z19 Al1 lg cl1),Str ((sayReq bs).2.1)] hs27 1 r0 ag27 (fun w17 hs28=>?_))))))))
  refine tA (.slice A3 (((sayReq bs).2.2).length) c3) r0 (tA Z35 r0 (nn ?_))
  have hs29:=hs28.pq [1,2,4,5] r0
  refine rt (fret (resC hs29 3 r0 r0 ag27 r0 (.tmp (.tmp .nil))) r0 ?_)
  have e6:talkSay sx wt lg to bs=(((sayReq bs).1,wt,lg,(sayReq bs).2.1),(sayReq bs).2.2,true):=by exact talkSay_2 ‹_› ‹_› ‹_›
  rw[e6]
  exact⟨Aw1,cw1,Al1,cl1,A3,c3,rfl,(hs29.pk [0,1,2] r0)⟩
 refine sk (bN (nN (sr (qt r0 (lG [I 4,(Z4 Aw1 wt cw1),(Z19 Al1 lg cl1),Str to] hs20 4 r0 ag27) (tm ns r0 (sG [I 4,(Z4 Aw1 wt cw1),(Z19 Al1 lg cl1),Str to] hs20 1 r0 ag27 (fun w18 (hs30:SH w w18 [] [.blk b1 27 [I sx,(Z4 Awt wt cwt),(Z19 Alg lg clg),Str to],(Z32 Aw1 wt cw1),(Z26 Al1 lg cl1),.blk b3 27 [I 4,(Z4 Aw1 wt cw1),(Z19 Al1 lg cl1),Str to],.blk b2 27 [I 4,(Z4 Aw1 wt cw1),(Z19 Al1 lg cl1),Str to]])=>?_)))))))
 refine tA ns r0 (tA Z35 r0 (nn ?_))
 have hs31:=hs30.pq [1,2,4] r0
 refine rt (fret (resC hs31 2 r0 r0 ag27 r0 (.tmp (.tmp .nil))) r0 ?_)
 have hs32:=hs31.nl [Z0] r0
 have e7:talkSay sx wt lg to bs=((4,wt,lg,to),([]:List Int),true):=by(exfalso; have htp:=talkOk_parts (by assumption:talkOk sx wt lg to=true); have hmw:=methOk_len htp.2.1; omega)
 rw[e7]
 exact⟨Aw1,cw1,Al1,cl1,none,0,rfl,(hs32.pk [0,1,3] r0)⟩
theorem sL23Hello (sx:Int) {Awt:Option Addr} {cwt:Nat} (wt:List Int) {Alg:Option Addr} {clg:Nat} (lg:List (List UInt8×List UInt8)) (to:List UInt8) {Abs:Option Addr} {cbs:Nat} (bs:List Int) (w:World) (hwt:Sl w [] 1 Awt wt.length cwt (wt.map I)) (hwt_n:wt.length≤1099511627776) (hlg:Sl w [] 2 Alg lg.length clg (lg.flatMap gLogin)) (hlg_e: ∀ u∈lg,u.1.length≤9223372036854775807∧u.2.length≤9223372036854775807) (hlg_n:lg.length≤1099511627776) (hbs:Sl w [] 1 Abs bs.length cbs (bs.map I)):Does Tryz.prog 101 [.agg #[I sx,.slice Awt wt.length cwt,.slice Alg lg.length clg,Str to],.slice Abs bs.length cbs] w (fun v w'=>∃ Awr:Option Addr,∃ cwr:Nat,∃ Alr:Option Addr,∃ clr:Nat,∃ Ayr:Option Addr,∃ cyr:Nat,v=.tuple #[.agg #[.int .i64 ((sayHello wt bs).1),.slice Awr wt.length cwr,.slice Alr lg.length clr,Str []],.slice Ayr ((sayHello wt bs).2).length cyr]∧SH w w' [] [.own Awr wt.length cwr 3 1 (wt.map I),.own Alr lg.length clr 31 2 (lg.flatMap gLogin),.own Ayr (((sayHello wt bs).2).length) cyr 3 1 (((sayHello wt bs).2).map I)]):=by
 refine fE (N:=52) Tryz.func101 r0 (by kernel_rfl) r0 ?_
 have hs0:=SH.refl w []
 have hwt_m:wt.length≤9223372036854775807:=Nat.le_trans hwt.cap hwt.capMax
 have hlg_m:lg.length≤9223372036854775807:=Nat.le_trans hlg.cap hlg.capMax
 have hbs_m:bs.length≤9223372036854775807:=Nat.le_trans hbs.cap hbs.capMax
 refine sr (bx (v:=.agg #[I sx,(Z4 Awt wt cwt),(Z19 Alg lg clg),Str to]) (cs:=[I sx,(Z4 Awt wt cwt),(Z19 Alg lg clg),Str to]) hs0 r0 r0 trivial r0 (fun b1 w1 hs1=>?_))
 refine al (cs:=Z31) hs1 tz27 r0 trivial r0 (fun b2 w2 hs2=>?_)
 refine tA ns r0 (nx (tm (Z14 Abs bs cbs) r0 (cS2 hs2 r0 (sHelloFrom _ _ (hbs.up0 hs2)) (fun A1 c1 w3 hs3=>?_))))
 refine tm (.tuple #[.slice A1 (((helloFrom bs).1).length) c1,I ((helloFrom bs).2.1),.bool ((helloFrom bs).2.2)]) r0 (qt r0 (xt 0 r0 r0) (qt r0 (xt 1 r0 r0) (qt r0 (xt 2 r0 r0) (tA (.slice A1 (((helloFrom bs).1).length) c1) r0 (tA (I ((helloFrom bs).2.1)) r0 (tA (Z95 bs) r0 (nl (nN (sq (sr (tm (Z95 bs) r0 (qt r0 (nt r0) (tm (.bool (!((helloFrom bs).2.2))) r0 (spl 20 r0 (fun h1=>?_) (fun h1=>?_)))))))))))))))
 ·have h2:=nbF h1
  refine gt5 r0 (gt5 r0 (gt5 r0 (gt5 r0 (qt r0 (pt (v:=.bool true) r0 r0) (nn (cdt r0 (sr (qt r0 (lG [I sx,(Z4 Awt wt cwt),(Z19 Alg lg clg),Str to] hs3 0 r0 ag27) (cL r0 (sL23Next _ _ _ _ 4 _ (hwt.up0 hs3) (by omega) (hlg.up0 hs3) hlg_e (by omega)) ?_)))))))))
  rintro _ w4 ⟨Aw1,cw1,Al1,cl1,rfl,hs4⟩
  replace hs4:=hs3.call0 hs4
  refine bsk hs4 sl24 [] [] trivial r0 (fun b3 w5 hs5=>?_)
  refine sG [I 4,(Z4 Aw1 wt cw1),(Z19 Al1 lg cl1),Str []] hs5 1 r0 ag27 (fun w6 hs6=>?_)
  refine tA (sb b3 (([]:List Int).length) 0) r0 (nn ?_)
  have hs7:=hs6.pq [2,3,4,5] r0
  refine rt (tR (fret (resC hs7 3 r0 r0 ag27 r0 (.tmp .nil)) r0 ?_))
  have e1:4=(sayHello wt bs).1:=by(rw[sayH_no1 ‹_›]; done)
  have e2:([]:List Int)=(sayHello wt bs).2:=by(rw[sayH_no1 ‹_›]; done)
  have e3:=congrArg List.length e2
  exact⟨Aw1,cw1,Al1,cl1,(Z8 b3),0,(tup2 (aggv (lc (congrArg (Value.int .i64) e1) (lc r0 (lc r0 (lc r0 r0))))) (slv r0 e3 r0)),((hs7.pq [0,1,2] r0).cast (lc r0 (lc r0 (lc (own_eq (g:=I) r0 e3 r0 e2) r0))))⟩
 have h3:=nbT h1
 refine qh r0 (mv (v:=I ((helloFrom bs).2.1)) r0) (qh r0 (mv (v:=.slice Abs bs.length cbs) r0) (qh r0 (lnA sl24 r0) (qh r0 (nei r0 r0) (qt r0 (pf (v:=.bool (decide (((helloFrom bs).2.1)≠(bs.length:Int)))) r0 r0) (nn (cdd r0 (fun h4=>?_) (fun h4=>?_)))))))
 ·refine sr (qt r0 (lG [I sx,(Z4 Awt wt cwt),(Z19 Alg lg clg),Str to] hs3 0 r0 ag27) (cL r0 (sL23Next _ _ _ _ 4 _ (hwt.up0 hs3) (by omega) (hlg.up0 hs3) hlg_e (by omega)) ?_))
  rintro _ w7 ⟨Aw2,cw2,Al2,cl2,rfl,hs8⟩
  replace hs8:=hs3.call0 hs8
  refine bsk hs8 sl24 [] [] trivial r0 (fun b4 w8 hs9=>?_)
  refine sG [I 4,(Z4 Aw2 wt cw2),(Z19 Al2 lg cl2),Str []] hs9 1 r0 ag27 (fun w9 hs10=>?_)
  refine tA (sb b4 (([]:List Int).length) 0) r0 (nn ?_)
  have hs11:=hs10.pq [2,3,4,5] r0
  refine rt (tR (fret (resC hs11 3 r0 r0 ag27 r0 (.tmp .nil)) r0 ?_))
  have e4:4=(sayHello wt bs).1:=by(rw[sayH_no3 ‹_›]; done)
  have e5:([]:List Int)=(sayHello wt bs).2:=by(rw[sayH_no3 ‹_›]; done)
  have e6:=congrArg List.length e5
  exact⟨Aw2,cw2,Al2,cl2,(Z8 b4),0,(tup2 (aggv (lc (congrArg (Value.int .i64) e4) (lc r0 (lc r0 (lc r0 r0))))) (slv r0 e6 r0)),((hs11.pq [0,1,2] r0).cast (lc r0 (lc r0 (lc (own_eq (g:=I) r0 e6 r0 e5) r0))))⟩
 refine sk (nN (sr (qt r0 (fa 1 fo27_1 r0) (qt r0 (lD (Z14 Awt wt cwt) hs3 0 r0 one24) (tm (.slice A1 (((helloFrom bs).1).length) c1) r0 (cS hs3 r0 (sHelloPick _ _ _ (hwt.up0 hs3) (hs3.sl0 2 r0)) (fun w10 hs12=>?_)))))))
 refine tA (I (Z38 wt bs)) r0 (nx (tm (I (Z38 wt bs)) r0 (cS2 hs12 r0 (sPickBytes _ _ (by exact pick_bd _ _)) (fun A2 c2 w11 hs13=>?_))))
 refine tm (.tuple #[.slice A2 ([5,(Z38 wt bs)].length) c2,.bool true]) r0 (qt r0 (xt 0 r0 r0) (qt r0 (xt 1 r0 r0) (tA (.slice A2 ([5,(Z38 wt bs)].length) c2) r0 (tA Z35 r0 (nn (sq (sr (tm (I (Z38 wt bs)) r0 (nn (bl (sr (qt r0 (eqi r0 r0) (tA (.bool (decide ((Z38 wt bs)=0))) r0 (nn (cdd r0 (fun h5=>?_) (fun h5=>?_))))))))))))))))
 ·refine sr (qt r0 (lG [I sx,(Z4 Awt wt cwt),(Z19 Alg lg clg),Str to] hs13 0 r0 ag27) (cL r0 (sL23Next _ _ _ _ 2 _ (hwt.up0 hs13) (by omega) (hlg.up0 hs13) hlg_e (by omega)) ?_))
  rintro _ w12 ⟨Aw3,cw3,Al3,cl3,rfl,hs14⟩
  replace hs14:=hs13.call0 hs14
  refine tm (.slice A2 ([5,(Z38 wt bs)].length) c2) r0 (sG [I 2,(Z4 Aw3 wt cw3),(Z19 Al3 lg cl3),Str []] hs14 1 r0 ag27 (fun w13 hs15=>?_))
  refine tA (.slice A2 ([5,(Z38 wt bs)].length) c2) r0 (nn ?_)
  have hs16:=hs15.pq [2,3,4,5] r0
  refine rt (bR (tR (fret (resC hs16 3 r0 r0 ag27 r0 (.tmp .nil)) r0 ?_)))
  have e7:2=(sayHello wt bs).1:=by(rw[sayH_y2 ‹_› ‹_›]; simp[h3,h4,h5]; done)
  have e8:[5,(Z38 wt bs)]=(sayHello wt bs).2:=by(rw[sayH_y2 ‹_› ‹_›]; done)
  have e9:=congrArg List.length e8
  exact⟨Aw3,cw3,Al3,cl3,A2,c2,(tup2 (aggv (lc (congrArg (Value.int .i64) e7) (lc r0 (lc r0 (lc r0 r0))))) (slv r0 e9 r0)),((hs16.pq [1,2,0] r0).cast (lc r0 (lc r0 (lc (own_eq (g:=I) r0 e9 r0 e8) r0))))⟩
 refine sr (qt r0 (eqi r0 r0) (tA (.bool (decide ((Z38 wt bs)=2))) r0 (nn (cdd r0 (fun h6=>?_) (fun h6=>?_)))))
 ·refine sr (qt r0 (lG [I sx,(Z4 Awt wt cwt),(Z19 Alg lg clg),Str to] hs13 0 r0 ag27) (cL r0 (sL23Next _ _ _ _ 1 _ (hwt.up0 hs13) (by omega) (hlg.up0 hs13) hlg_e (by omega)) ?_))
  rintro _ w14 ⟨Aw4,cw4,Al4,cl4,rfl,hs17⟩
  replace hs17:=hs13.call0 hs17
  refine tm (.slice A2 ([5,(Z38 wt bs)].length) c2) r0 (sG [I 1,(Z4 Aw4 wt cw4),(Z19 Al4 lg cl4),Str []] hs17 1 r0 ag27 (fun w15 hs18=>?_))
  refine tA (.slice A2 ([5,(Z38 wt bs)].length) c2) r0 (nn ?_)
  have hs19:=hs18.pq [2,3,4,5] r0
  refine rt (bR (tR (fret (resC hs19 3 r0 r0 ag27 r0 (.tmp .nil)) r0 ?_)))
  have e10:1=(sayHello wt bs).1:=by(rw[sayH_y2 ‹_› ‹_›]; simp[h3,h4,h5,h6]; done)
  have e11:[5,(Z38 wt bs)]=(sayHello wt bs).2:=by(rw[sayH_y2 ‹_› ‹_›]; done)
  have e12:=congrArg List.length e11
  exact⟨Aw4,cw4,Al4,cl4,A2,c2,(tup2 (aggv (lc (congrArg (Value.int .i64) e10) (lc r0 (lc r0 (lc r0 r0))))) (slv r0 e12 r0)),((hs19.pq [1,2,0] r0).cast (lc r0 (lc r0 (lc (own_eq (g:=I) r0 e12 r0 e11) r0))))⟩
 refine sk (bN (nN (sr (qt r0 (lG [I sx,(Z4 Awt wt cwt),(Z19 Alg lg clg),Str to] hs13 0 r0 ag27) (cL r0 (sL23Next _ _ _ _ 4 _ (hwt.up0 hs13) (by omega) (hlg.up0 hs13) hlg_e (by omega)) ?_)))))
 rintro _ w16 ⟨Aw5,cw5,Al5,cl5,rfl,hs20⟩
 replace hs20:=hs13.call0 hs20
 refine tm (.slice A2 ([5,(Z38 wt bs)].length) c2) r0 (sG [I 4,(Z4 Aw5 wt cw5),(Z19 Al5 lg cl5),Str []] hs20 1 r0 ag27 (fun w17 hs21=>?_))
 refine tA (.slice A2 ([5,(Z38 wt bs)].length) c2) r0 (nn ?_)
 have hs22:=hs21.pq [2,3,4,5] r0
 refine rt (fret (resC hs22 3 r0 r0 ag27 r0 (.tmp .nil)) r0 ?_)
 have e13:4=(sayHello wt bs).1:=by(rw[sayH_y2 ‹_› ‹_›]; simp[h3,h4,h5,h6]; done)
 have e14:[5,(Z38 wt bs)]=(sayHello wt bs).2:=by(rw[sayH_y2 ‹_› ‹_›]; done)
 have e15:=congrArg List.length e14
 exact⟨Aw5,cw5,Al5,cl5,A2,c2,(tup2 (aggv (lc (congrArg (Value.int .i64) e13) (lc r0 (lc r0 (lc r0 r0))))) (slv r0 e15 r0)),((hs22.pq [1,2,0] r0).cast (lc r0 (lc r0 (lc (own_eq (g:=I) r0 e15 r0 e14) r0))))⟩
theorem sL23Login (sx:Int) {Awt:Option Addr} {cwt:Nat} (wt:List Int) {Alg:Option Addr} {clg:Nat} (lg:List (List UInt8×List UInt8)) (to:List UInt8) {Abs:Option Addr} {cbs:Nat} (bs:List Int) (w:World) (hwt:Sl w [] 1 Awt wt.length cwt (wt.map I)) (hwt_n:wt.length≤1099511627776) (hlg:Sl w [] 2 Alg lg.length clg (lg.flatMap gLogin)) (hlg_e: ∀ u∈lg,u.1.length≤9223372036854775807∧u.2.length≤9223372036854775807) (hlg_n:lg.length≤1099511627776) (hbs:Sl w [] 1 Abs bs.length cbs (bs.map I)):Does Tryz.prog 102 [.agg #[I sx,.slice Awt wt.length cwt,.slice Alg lg.length clg,Str to],.slice Abs bs.length cbs] w (fun v w'=>∃ Awr:Option Addr,∃ cwr:Nat,∃ Alr:Option Addr,∃ clr:Nat,∃ Ayr:Option Addr,∃ cyr:Nat,v=.tuple #[.agg #[.int .i64 ((sayLogin lg bs).1),.slice Awr wt.length cwr,.slice Alr lg.length clr,Str []],.slice Ayr ((sayLogin lg bs).2).length cyr]∧SH w w' [] [.own Awr wt.length cwr 3 1 (wt.map I),.own Alr lg.length clr 31 2 (lg.flatMap gLogin),.own Ayr (((sayLogin lg bs).2).length) cyr 3 1 (((sayLogin lg bs).2).map I)]):=by
 refine fE (N:=37) Tryz.func102 r0 (by kernel_rfl) r0 ?_
 have hs0:SH w w [] []:=SH.refl w []
 have hwt_m:wt.length≤9223372036854775807:=Nat.le_trans hwt.cap hwt.capMax
 have hlg_m:lg.length≤9223372036854775807:=Nat.le_trans hlg.cap hlg.capMax
 have hbs_m:bs.length≤9223372036854775807:=Nat.le_trans hbs.cap hbs.capMax
 refine sr (bx (v:=.agg #[I sx,(Z4 Awt wt cwt),(Z19 Alg lg clg),Str to]) (cs:=[I sx,(Z4 Awt wt cwt),(Z19 Alg lg clg),Str to]) hs0 r0 r0 trivial r0 (fun b1 w1 hs1=>?_))
 refine al (cs:=Z31) hs1 tz27 r0 trivial r0 (fun b2 w2 hs2=>?_)
 refine tA ns r0 (nx (tm (Z14 Abs bs cbs) r0 (cS hs2 r0 (sLoginFrom _ _ (hbs.up0 hs2)) (fun w3 hs3=>?_))))
 refine tm (.tuple #[.agg #[Str ((loginFrom bs).1.1),Str ((loginFrom bs).1.2)],I ((loginFrom bs).2.1),.bool ((loginFrom bs).2.2)]) r0 (qt r0 (xt 0 r0 r0) (qt r0 (xt 1 r0 r0) (qt r0 (xt 2 r0 r0) (al (cs:=Z65) hs3 tz31 r0 trivial r0 (fun b3 w4 hs4=>?_)))))
 refine sG (Z74 bs) hs4 2 r0 ag31 (fun w5 hs5=>?_)
 refine tA (I ((loginFrom bs).2.1)) r0 (tA (.bool ((loginFrom bs).2.2)) r0 (nn (sq (sr (tm (.bool ((loginFrom bs).2.2)) r0 (qt r0 (nt r0) (tm (.bool (!((loginFrom bs).2.2))) r0 (spl 17 r0 (fun h1=>?_) (fun h1=>?_)))))))))
 ·have h2:=nbF h1
  refine gt5 r0 (gt5 r0 (gt5 r0 (gt5 r0 (qt r0 (pt (v:=.bool true) r0 r0) (nn (cdt r0 (sr (qt r0 (lG [I sx,(Z4 Awt wt cwt),(Z19 Alg lg clg),Str to] hs5 0 r0 ag27) (cL r0 (sL23Next _ _ _ _ 4 _ (hwt.up0 hs5) (by omega) (hlg.up0 hs5) hlg_e (by omega)) ?_)))))))))
  rintro _ w6 ⟨Aw1,cw1,Al1,cl1,rfl,hs6⟩
  replace hs6:=hs5.call0 hs6
  refine bsk hs6 sl24 [] [] trivial r0 (fun b4 w7 hs7=>?_)
  refine sG [I 4,(Z4 Aw1 wt cw1),(Z19 Al1 lg cl1),Str []] hs7 1 r0 ag27 (fun w8 hs8=>?_)
  refine tA (sb b4 (([]:List Int).length) 0) r0 (nn ?_)
  have hs9:SH w w8 [] [(Z32 Aw1 wt cw1),(Z26 Al1 lg cl1),(Z72 b4),.blk b2 27 [I 4,(Z4 Aw1 wt cw1),(Z19 Al1 lg cl1),Str []]]:=hs8.pk [2,3,4,5] r0
  refine rt (tR (fret (resC hs9 3 r0 r0 ag27 r0 (.tmp .nil)) r0 ?_))
  have e1:4=(sayLogin lg bs).1:=by(rw[sayL_no1 ‹_›]; done)
  have e2:([]:List Int)=(sayLogin lg bs).2:=by(rw[sayL_no1 ‹_›]; done)
  have e3:=congrArg List.length e2
  exact⟨Aw1,cw1,Al1,cl1,(Z8 b4),0,(tup2 (aggv (lc (congrArg (Value.int .i64) e1) (lc r0 (lc r0 (lc r0 r0))))) (slv r0 e3 r0)),((hs9.pq [0,1,2] r0).cast (lc r0 (lc r0 (lc (own_eq (g:=I) r0 e3 r0 e2) r0))))⟩
 have h3:=nbT h1
 refine qh r0 (mv (v:=I ((loginFrom bs).2.1)) r0) (qh r0 (mv (v:=.slice Abs bs.length cbs) r0) (qh r0 (lnA sl24 r0) (qh r0 (nei r0 r0) (qt r0 (pf (v:=.bool (decide (((loginFrom bs).2.1)≠(bs.length:Int)))) r0 r0) (nn (cdd r0 (fun h4=>?_) (fun h4=>?_)))))))
 ·refine sr (qt r0 (lG [I sx,(Z4 Awt wt cwt),(Z19 Alg lg clg),Str to] hs5 0 r0 ag27) (cL r0 (sL23Next _ _ _ _ 4 _ (hwt.up0 hs5) (by omega) (hlg.up0 hs5) hlg_e (by omega)) ?_))
  rintro _ w9 ⟨Aw2,cw2,Al2,cl2,rfl,hs10⟩
  replace hs10:=hs5.call0 hs10
  refine bsk hs10 sl24 [] [] trivial r0 (fun b5 w10 hs11=>?_)
  refine sG [I 4,(Z4 Aw2 wt cw2),(Z19 Al2 lg cl2),Str []] hs11 1 r0 ag27 (fun w11 (hs12:SH w w11 [] [.blk b1 27 [I sx,(Z4 Awt wt cwt),(Z19 Alg lg clg),Str to],.blk b3 31 (Z74 bs),(Z32 Aw2 wt cw2),(Z26 Al2 lg cl2),(Z72 b5),.blk b2 27 [I 4,(Z4 Aw2 wt cw2),(Z19 Al2 lg cl2),Str []]])=>?_)
  refine tA (sb b5 (([]:List Int).length) 0) r0 (nn ?_)
  have hs13:=hs12.pq [2,3,4,5] r0
  refine rt (tR (fret (resC hs13 3 r0 r0 ag27 r0 (.tmp .nil)) r0 ?_))
  have e4:4=(sayLogin lg bs).1:=by(rw[sayL_no3 ‹_›]; done)
  have e5:([]:List Int)=(sayLogin lg bs).2:=by(rw[sayL_no3 ‹_›]; done)
  have e6:=congrArg List.length e5
  exact⟨Aw2,cw2,Al2,cl2,(Z8 b5),0,(tup2 (aggv (lc (congrArg (Value.int .i64) e4) (lc r0 (lc r0 (lc r0 r0))))) (slv r0 e6 r0)),((hs13.pq [0,1,2] r0).cast (lc r0 (lc r0 (lc (own_eq (g:=I) r0 e6 r0 e5) r0))))⟩
 refine sk (nN (sq (sr (qt r0 (fa 2 fo27_2 r0) (qt r0 (lD (Z87 Alg lg clg) hs5 0 r0 one25) (qt r0 (lG (Z74 bs) hs5 2 r0 ag31) (cS hs5 r0 (sLoginFits _ _ _ _ (hlg.up0 hs5) hlg_e (by(have hlk:=loginOk_fit (loginFrom_ok (by assumption:(loginFrom bs).2.2=true)).2.1; omega)) (by(have hlk:=loginOk_fit (loginFrom_ok (by assumption:(loginFrom bs).2.2=true)).2.1; omega))) (fun w12 hs14=>?_))))))))
 refine qt r0 (nt r0) (nn (cd r0 (fun h5=>?_) (fun h5=>?_)))
 ·have h6:=nbF h5
  refine sr (qt r0 (lG [I sx,(Z4 Awt wt cwt),(Z19 Alg lg clg),Str to] hs14 0 r0 ag27) (cL r0 (sL23Next _ _ _ _ 4 _ (hwt.up0 hs14) (by omega) (hlg.up0 hs14) hlg_e (by omega)) ?_))
  rintro _ w13 ⟨Aw3,cw3,Al3,cl3,rfl,hs15⟩
  replace hs15:=hs14.call0 hs15
  refine cS2 hs15 r0 (sLoginReply false _) (fun A1 c1 w14 hs16=>?_)
  refine sG [I 4,(Z4 Aw3 wt cw3),(Z19 Al3 lg cl3),Str []] hs16 1 r0 ag27 (fun w15 hs17=>?_)
  refine tA (.slice A1 ((lrB false).length) c1) r0 (nn ?_)
  have hs18:SH w w15 [] [(Z32 Aw3 wt cw3),(Z26 Al3 lg cl3),.own A1 ((lrB false).length) c1 3 1 ((lrB false).map I),.blk b2 27 [I 4,(Z4 Aw3 wt cw3),(Z19 Al3 lg cl3),Str []]]:=hs17.pk [2,3,4,5] r0
  refine rt (tR (fret (resC hs18 3 r0 r0 ag27 r0 (.tmp .nil)) r0 ?_))
  have e7:4=(sayLogin lg bs).1:=by(rw[sayL_y2 ‹_› ‹_›]; simp[h3,h4,h6]; done)
  have e8:lrB false=(sayLogin lg bs).2:=by(rw[sayL_y2 ‹_› ‹_›]; simp[h3,h4,h6]; done)
  have e9:=congrArg List.length e8
  exact⟨Aw3,cw3,Al3,cl3,A1,c1,(tup2 (aggv (lc (congrArg (Value.int .i64) e7) (lc r0 (lc r0 (lc r0 r0))))) (slv r0 e9 r0)),((hs18.pq [0,1,2] r0).cast (lc r0 (lc r0 (lc (own_eq (g:=I) r0 e9 r0 e8) r0))))⟩
 have h7:=nbT h5
 refine sk (nN (sr (qt r0 (lG [I sx,(Z4 Awt wt cwt),(Z19 Alg lg clg),Str to] hs14 0 r0 ag27) (cL r0 (sL23Next _ _ _ _ 2 _ (hwt.up0 hs14) (by omega) (hlg.up0 hs14) hlg_e (by omega)) ?_))))
 rintro _ w16 ⟨Aw4,cw4,Al4,cl4,rfl,hs19⟩
 replace hs19:=hs14.call0 hs19
 refine cS2 hs19 r0 (sLoginReply true _) (fun A2 c2 w17 hs20=>?_)
 refine sG [I 2,(Z4 Aw4 wt cw4),(Z19 Al4 lg cl4),Str []] hs20 1 r0 ag27 (fun w18 (hs21:SH w w18 [] [.blk b1 27 [I sx,(Z4 Awt wt cwt),(Z19 Alg lg clg),Str to],.blk b3 31 (Z74 bs),(Z32 Aw4 wt cw4),(Z26 Al4 lg cl4),.own A2 ((lrB true).length) c2 3 1 ((lrB true).map I),.blk b2 27 [I 2,(Z4 Aw4 wt cw4),(Z19 Al4 lg cl4),Str []]])=>?_)
 refine tA (.slice A2 ((lrB true).length) c2) r0 (nn ?_)
 have hs22:=hs21.pq [2,3,4,5] r0
 refine rt (fret (resC hs22 3 r0 r0 ag27 r0 (.tmp .nil)) r0 ?_)
 have e10:2=(sayLogin lg bs).1:=by(rw[sayL_y2 ‹_› ‹_›]; simp[h3,h4,h7]; done)
 have e11:lrB true=(sayLogin lg bs).2:=by(rw[sayL_y2 ‹_› ‹_›]; simp[h3,h4,h7]; done)
 have e12:=congrArg List.length e11
 exact⟨Aw4,cw4,Al4,cl4,A2,c2,(tup2 (aggv (lc (congrArg (Value.int .i64) e10) (lc r0 (lc r0 (lc r0 r0))))) (slv r0 e12 r0)),((hs22.pq [0,1,2] r0).cast (lc r0 (lc r0 (lc (own_eq (g:=I) r0 e12 r0 e11) r0))))⟩
theorem sL23Request (sx:Int) {Awt:Option Addr} {cwt:Nat} (wt:List Int) {Alg:Option Addr} {clg:Nat} (lg:List (List UInt8×List UInt8)) (to:List UInt8) {Abs:Option Addr} {cbs:Nat} (bs:List Int) (w:World) (hwt:Sl w [] 1 Awt wt.length cwt (wt.map I)) (hwt_n:wt.length≤1099511627776) (hlg:Sl w [] 2 Alg lg.length clg (lg.flatMap gLogin)) (hlg_e: ∀ u∈lg,u.1.length≤9223372036854775807∧u.2.length≤9223372036854775807) (hlg_n:lg.length≤1099511627776) (hbs:Sl w [] 1 Abs bs.length cbs (bs.map I)):Does Tryz.prog 103 [.agg #[I sx,.slice Awt wt.length cwt,.slice Alg lg.length clg,Str to],.slice Abs bs.length cbs] w (fun v w'=>∃ Awr:Option Addr,∃ cwr:Nat,∃ Alr:Option Addr,∃ clr:Nat,∃ Ayr:Option Addr,∃ cyr:Nat,v=.tuple #[.agg #[.int .i64 ((sayReq bs).1),.slice Awr wt.length cwr,.slice Alr lg.length clr,Str ((sayReq bs).2.1)],.slice Ayr ((sayReq bs).2.2).length cyr]∧SH w w' [] [.own Awr wt.length cwr 3 1 (wt.map I),.own Alr lg.length clr 31 2 (lg.flatMap gLogin),.own Ayr (((sayReq bs).2.2).length) cyr 3 1 (((sayReq bs).2.2).map I)]):=by
 refine fE (N:=57) Tryz.func103 r0 (by kernel_rfl) r0 ?_
 have hs0:SH w w [] []:=SH.refl w []
 have hwt_m:wt.length≤9223372036854775807:=Nat.le_trans hwt.cap hwt.capMax
 have hlg_m:lg.length≤9223372036854775807:=Nat.le_trans hlg.cap hlg.capMax
 have hbs_m:bs.length≤9223372036854775807:=Nat.le_trans hbs.cap hbs.capMax
 refine sr (bx (v:=.agg #[I sx,(Z4 Awt wt cwt),(Z19 Alg lg clg),Str to]) (cs:=[I sx,(Z4 Awt wt cwt),(Z19 Alg lg clg),Str to]) hs0 r0 r0 trivial r0 (fun b1 w1 hs1=>?_))
 refine al (cs:=Z31) hs1 tz27 r0 trivial r0 (fun b2 w2 hs2=>?_)
 refine tA ns r0 (nx (tm (Z14 Abs bs cbs) r0 (cS2 hs2 r0 (sRequestFrom _ _ (hbs.up0 hs2)) (fun Aq1 cq1 w3 hs3=>?_))))
 refine tm (.tuple #[.agg #[I ((reqFrom bs).1.1),I ((reqFrom bs).1.2.1),.slice Aq1 (((reqFrom bs).1.2.2.1).length) cq1,Str ((reqFrom bs).1.2.2.2.1),I ((reqFrom bs).1.2.2.2.2)],I ((reqFrom bs).2.1),.bool ((reqFrom bs).2.2)]) r0 (qt r0 (xt 0 r0 r0) (qt r0 (xt 1 r0 r0) (qt r0 (xt 2 r0 r0) (al (cs:=Z103) hs3 tz64 r0 trivial r0 (fun b3 w4 hs4=>?_)))))
 refine sG (Z66 bs Aq1 cq1) hs4 3 r0 ag64 (fun w5 hs5=>?_)
 refine tA (I ((reqFrom bs).2.1)) r0 (tA (.bool ((reqFrom bs).2.2)) r0 (nn (sq (sr (tm (.bool ((reqFrom bs).2.2)) r0 (qt r0 (nt r0) (tm (.bool (!((reqFrom bs).2.2))) r0 (spl 22 r0 (fun h1=>?_) (fun h1=>?_)))))))))
 ·have h2:=nbF h1
  refine gt5 r0 (gt5 r0 (gt5 r0 (gt5 r0 (qt r0 (pt (v:=.bool true) r0 r0) (nn (cdt r0 (sr (qt r0 (lG [I sx,(Z4 Awt wt cwt),(Z19 Alg lg clg),Str to] hs5 0 r0 ag27) (cL r0 (sL23Next _ _ _ _ 4 _ (hwt.up0 hs5) (by omega) (hlg.up0 hs5) hlg_e (by omega)) ?_)))))))))
  rintro _ w6 ⟨Aw1,cw1,Al1,cl1,rfl,hs6⟩
  replace hs6:=hs5.call0 hs6
  refine bsk hs6 sl24 [] [] trivial r0 (fun b4 w7 hs7=>?_)
  refine sG [I 4,(Z4 Aw1 wt cw1),(Z19 Al1 lg cl1),Str []] hs7 1 r0 ag27 (fun w8 hs8=>?_)
  refine tA (sb b4 (([]:List Int).length) 0) r0 (nn ?_)
  have hs9:SH w w8 [] [(Z32 Aw1 wt cw1),(Z26 Al1 lg cl1),(Z72 b4),.blk b2 27 [I 4,(Z4 Aw1 wt cw1),(Z19 Al1 lg cl1),Str []]]:=hs8.pk [3,4,5,6] r0
  refine rt (tR (fret (resC hs9 3 r0 r0 ag27 r0 (.tmp .nil)) r0 ?_))
  have e1:4=(sayReq bs).1:=by(rw[sayR_no1 ‹_›]; done)
  have e2:[]=(sayReq bs).2.1:=by(rw[sayR_no1 ‹_›]; done)
  have e3:([]:List Int)=(sayReq bs).2.2:=by(rw[sayR_no1 ‹_›]; done)
  have e4:=congrArg List.length e3
  exact⟨Aw1,cw1,Al1,cl1,(Z8 b4),0,(tup2 (aggv (lc (congrArg (Value.int .i64) e1) (lc r0 (lc r0 (lc (congrArg (Str) e2) r0))))) (slv r0 e4 r0)),((hs9.pq [0,1,2] r0).cast (lc r0 (lc r0 (lc (own_eq (g:=I) r0 e4 r0 e3) r0))))⟩
 have h3:=nbT h1
 refine qh r0 (mv (v:=I ((reqFrom bs).2.1)) r0) (qh r0 (mv (v:=.slice Abs bs.length cbs) r0) (qh r0 (lnA sl24 r0) (qh r0 (nei r0 r0) (qt r0 (pf (v:=.bool (decide (((reqFrom bs).2.1)≠(bs.length:Int)))) r0 r0) (nn (cdd r0 (fun h4=>?_) (fun h4=>?_)))))))
 ·refine sr (qt r0 (lG [I sx,(Z4 Awt wt cwt),(Z19 Alg lg clg),Str to] hs5 0 r0 ag27) (cL r0 (sL23Next _ _ _ _ 4 _ (hwt.up0 hs5) (by omega) (hlg.up0 hs5) hlg_e (by omega)) ?_))
  rintro _ w9 ⟨Aw2,cw2,Al2,cl2,rfl,hs10⟩
  replace hs10:=hs5.call0 hs10
  refine bsk hs10 sl24 [] [] trivial r0 (fun b5 w10 hs11=>?_)
  refine sG [I 4,(Z4 Aw2 wt cw2),(Z19 Al2 lg cl2),Str []] hs11 1 r0 ag27 (fun w11 (hs12:SH w w11 [] [.blk b1 27 [I sx,(Z4 Awt wt cwt),(Z19 Alg lg clg),Str to],.own Aq1 (((reqFrom bs).1.2.2.1).length) cq1 3 1 (((reqFrom bs).1.2.2.1).map I),.blk b3 64 (Z66 bs Aq1 cq1),(Z32 Aw2 wt cw2),(Z26 Al2 lg cl2),(Z72 b5),.blk b2 27 [I 4,(Z4 Aw2 wt cw2),(Z19 Al2 lg cl2),Str []]])=>?_)
  refine tA (sb b5 (([]:List Int).length) 0) r0 (nn ?_)
  have hs13:=hs12.pq [3,4,5,6] r0
  refine rt (tR (fret (resC hs13 3 r0 r0 ag27 r0 (.tmp .nil)) r0 ?_))
  have e5:4=(sayReq bs).1:=by(rw[sayR_no3 ‹_›]; done)
  have e6:[]=(sayReq bs).2.1:=by(rw[sayR_no3 ‹_›]; done)
  have e7:([]:List Int)=(sayReq bs).2.2:=by(rw[sayR_no3 ‹_›]; done)
  have e8:=congrArg List.length e7
  exact⟨Aw2,cw2,Al2,cl2,(Z8 b5),0,(tup2 (aggv (lc (congrArg (Value.int .i64) e5) (lc r0 (lc r0 (lc (congrArg (Str) e6) r0))))) (slv r0 e8 r0)),((hs13.pq [0,1,2] r0).cast (lc r0 (lc r0 (lc (own_eq (g:=I) r0 e8 r0 e7) r0))))⟩
 refine sk (nN (sq (sr (qt r0 (fa 0 fo64_0 r0) (qt r0 (lD (I ((reqFrom bs).1.1)) hs5 3 r0 one3) (qt r0 (nei r0 r0) (nn (cdd r0 (fun h5=>?_) (fun h5=>?_)))))))))
 ·refine sr (qt r0 (fa 1 fo64_1 r0) (qt r0 (lG (Z52 bs Aq1 cq1) hs5 3 r0 ag54) (cS2 hs5 r0 (sReplyBytes 7 _ _ _ _ _ (hs5.sl0 2 r0) (by(have hrn:=reqFrom_nm bs; omega))) (fun A1 c1 w12 hs14=>?_))))
  refine tm (.tuple #[.slice A1 (((Z18 bs).1).length) c1,.bool ((Z18 bs).2)]) r0 (qt r0 (xt 0 r0 r0) (qt r0 (xt 1 r0 r0) (tA (.slice A1 (((Z18 bs).1).length) c1) r0 (tA (.bool ((Z18 bs).2)) r0 (nn ?_)))))
  have hs15:SH w w12 [] [.blk b1 27 [I sx,(Z4 Awt wt cwt),(Z19 Alg lg clg),Str to],.blk b2 27 Z31,.own A1 (((Z18 bs).1).length) c1 3 1 (((Z18 bs).1).map I)]:=hs14.pk [0,1,4] r0
  refine sr (qt r0 (lG [I sx,(Z4 Awt wt cwt),(Z19 Alg lg clg),Str to] hs15 0 r0 ag27) (cL r0 (sL23Next _ _ _ _ 4 _ (hwt.up0 hs15) (by omega) (hlg.up0 hs15) hlg_e (by omega)) ?_))
  rintro _ w13 ⟨Aw3,cw3,Al3,cl3,rfl,hs16⟩
  replace hs16:=hs15.call0 hs16
  refine tm (.slice A1 (((Z18 bs).1).length) c1) r0 (sG [I 4,(Z4 Aw3 wt cw3),(Z19 Al3 lg cl3),Str []] hs16 1 r0 ag27 (fun w14 hs17=>?_))
  refine tA (.slice A1 (((Z18 bs).1).length) c1) r0 (nn (rt (tR (fret (resC hs17 4 r0 r0 ag27 r0 (.tmp .nil)) r0 ?_))))
  have e9:4=(sayReq bs).1:=by(rw[sayR_n ‹_› (Decidable.not_not.1 ‹_›) ‹_›]; done)
  have e10:[]=(sayReq bs).2.1:=by(rw[sayR_n ‹_› (Decidable.not_not.1 ‹_›) ‹_›]; done)
  have e11:(Z18 bs).1=(sayReq bs).2.2:=by(rw[sayR_n ‹_› (Decidable.not_not.1 ‹_›) ‹_›]; done)
  have e12:=congrArg List.length e11
  exact⟨Aw3,cw3,Al3,cl3,A1,c1,(tup2 (aggv (lc (congrArg (Value.int .i64) e9) (lc r0 (lc r0 (lc (congrArg (Str) e10) r0))))) (slv r0 e12 r0)),((hs17.pq [2,3,1] r0).cast (lc r0 (lc r0 (lc (own_eq (g:=I) r0 e12 r0 e11) r0))))⟩
 refine sk (nN (sr (qt r0 (fa 1 fo64_1 r0) (qt r0 (lG (Z52 bs Aq1 cq1) hs5 3 r0 ag54) (cS2 hs5 r0 (sReplyBytes 0 _ _ _ _ _ (hs5.sl0 2 r0) (by(have hrn:=reqFrom_nm bs; omega))) (fun A2 c2 w15 hs18=>?_))))))
 refine tm (.tuple #[.slice A2 (((Z15 bs).1).length) c2,.bool ((Z15 bs).2)]) r0 (qt r0 (xt 0 r0 r0) (qt r0 (xt 1 r0 r0) (tA (.slice A2 (((Z15 bs).1).length) c2) r0 (tA (.bool ((Z15 bs).2)) r0 (nn (sq (rg (qt r0 (lG [I sx,(Z4 Awt wt cwt),(Z19 Alg lg clg),Str to] hs18 0 r0 ag27) (cL r0 (sL23Next _ _ _ _ 3 _ (hwt.up0 hs18) (by omega) (hlg.up0 hs18) hlg_e (by omega)) ?_)))))))))
 rintro _ w16 ⟨Aw4,cw4,Al4,cl4,rfl,hs19⟩
 replace hs19:=hs18.call0 hs19
 refine al (cs:=Z31) hs19 tz27 r0 trivial r0 (fun b6 w17 hs20=>?_)
 refine sG [I 3,(Z4 Aw4 wt cw4),(Z19 Al4 lg cl4),Str []] hs20 7 r0 ag27 (fun w18 (hs21:SH w w18 [] [.blk b1 27 [I sx,(Z4 Awt wt cwt),(Z19 Alg lg clg),Str to],.blk b2 27 Z31,.own Aq1 (((reqFrom bs).1.2.2.1).length) cq1 3 1 (((reqFrom bs).1.2.2.1).map I),.blk b3 64 (Z66 bs Aq1 cq1),.own A2 (((Z15 bs).1).length) c2 3 1 (((Z15 bs).1).map I),(Z32 Aw4 wt cw4),(Z26 Al4 lg cl4),.blk b6 27 [I 3,(Z4 Aw4 wt cw4),(Z19 Al4 lg cl4),Str []]])=>?_)
 refine nx (qt r0 (fa 1 fo64_1 r0) (qt r0 (lG (Z52 bs Aq1 cq1) hs21 3 r0 ag54) (cS hs21 r0 (sAddressText _ _ _ _ _ (hs21.sl0 2 r0) (by(have hrn:=reqFrom_nm bs; omega))) (fun w19 hs22=>?_))))
 refine qt r0 (fa 3 fo27_3 r0) (sT (Str (Z73 bs)) hs22 7 r0 one9 (fun w20 hs23=>?_))
 refine nn ?_
 have hs24:SH w w20 [] [.blk b2 27 Z31,.own A2 (((Z15 bs).1).length) c2 3 1 (((Z15 bs).1).map I),(Z32 Aw4 wt cw4),(Z26 Al4 lg cl4),.blk b6 27 [I 3,(Z4 Aw4 wt cw4),(Z19 Al4 lg cl4),Str (Z73 bs)]]:=hs23.pk [1,4,5,6,7] r0
 refine sr (qt r0 (lG [I 3,(Z4 Aw4 wt cw4),(Z19 Al4 lg cl4),Str (Z73 bs)] hs24 4 r0 ag27) (tm (.slice A2 (((Z15 bs).1).length) c2) r0 (sG [I 3,(Z4 Aw4 wt cw4),(Z19 Al4 lg cl4),Str (Z73 bs)] hs24 0 r0 ag27 (fun w21 hs25=>?_))))
 refine tA (.slice A2 (((Z15 bs).1).length) c2) r0 (nn (rt (fret (resC hs25 4 r0 r0 ag27 r0 (.tmp .nil)) r0 ?_)))
 have e13:3=(sayReq bs).1:=by(rw[sayR_c ‹_› (Decidable.not_not.1 ‹_›) (Decidable.not_not.1 ‹_›)]; done)
 have e14:addrT ((reqFrom bs).1.2.1) ((reqFrom bs).1.2.2.1) ((reqFrom bs).1.2.2.2.1) ((reqFrom bs).1.2.2.2.2)=(sayReq bs).2.1:=by(rw[sayR_c ‹_› (Decidable.not_not.1 ‹_›) (Decidable.not_not.1 ‹_›)]; done)
 have e15:(Z15 bs).1=(sayReq bs).2.2:=by(rw[sayR_c ‹_› (Decidable.not_not.1 ‹_›) (Decidable.not_not.1 ‹_›)]; done)
 have e16:=congrArg List.length e15
 exact⟨Aw4,cw4,Al4,cl4,A2,c2,(tup2 (aggv (lc (congrArg (Value.int .i64) e13) (lc r0 (lc r0 (lc (congrArg (Str) e14) r0))))) (slv r0 e16 r0)),((hs25.pq [1,2,0] r0).cast (lc r0 (lc r0 (lc (own_eq (g:=I) r0 e16 r0 e15) r0))))⟩
theorem sTalkSay (sx:Int) {Awt:Option Addr} {cwt:Nat} (wt:List Int) {Alg:Option Addr} {clg:Nat} (lg:List (List UInt8×List UInt8)) (to:List UInt8) {Abs:Option Addr} {cbs:Nat} (bs:List Int) (w:World) (hwt:Sl w [] 1 Awt wt.length cwt (wt.map I)) (hlg:Sl w [] 2 Alg lg.length clg (lg.flatMap gLogin)) (hlg_e: ∀ u∈lg,u.1.length≤9223372036854775807∧u.2.length≤9223372036854775807) (hto_n:to.length≤1099511627776) (hbs:Sl w [] 1 Abs bs.length cbs (bs.map I)):Does Tryz.prog 54 [.agg #[I sx,.slice Awt wt.length cwt,.slice Alg lg.length clg,Str to],.slice Abs bs.length cbs] w (fun v w'=>∃ Awr:Option Addr,∃ cwr:Nat,∃ Alr:Option Addr,∃ clr:Nat,∃ Ayr:Option Addr,∃ cyr:Nat,v=.tuple #[.agg #[.int .i64 ((talkSay sx wt lg to bs).1.1),.slice Awr ((talkSay sx wt lg to bs).1.2.1).length cwr,.slice Alr ((talkSay sx wt lg to bs).1.2.2.1).length clr,Str ((talkSay sx wt lg to bs).1.2.2.2)],.slice Ayr ((talkSay sx wt lg to bs).2.1).length cyr,.bool ((talkSay sx wt lg to bs).2.2)]∧SH w w' [] [.own Awr (((talkSay sx wt lg to bs).1.2.1).length) cwr 3 1 (((talkSay sx wt lg to bs).1.2.1).map I),.own Alr (((talkSay sx wt lg to bs).1.2.2.1).length) clr 31 2 (((talkSay sx wt lg to bs).1.2.2.1).flatMap gLogin),.own Ayr (((talkSay sx wt lg to bs).2.1).length) cyr 3 1 (((talkSay sx wt lg to bs).2.1).map I)]):=by
 refine fE (N:=57) Tryz.func54 r0 (by kernel_rfl) r0 ?_
 have hs0:=SH.refl w []
 have hwt_m:wt.length≤9223372036854775807:=Nat.le_trans hwt.cap hwt.capMax
 have hlg_m:lg.length≤9223372036854775807:=Nat.le_trans hlg.cap hlg.capMax
 have hbs_m:bs.length≤9223372036854775807:=Nat.le_trans hbs.cap hbs.capMax
 refine sr (bx (v:=.agg #[I sx,(Z4 Awt wt cwt),(Z19 Alg lg clg),Str to]) (cs:=[I sx,(Z4 Awt wt cwt),(Z19 Alg lg clg),Str to]) hs0 r0 r0 trivial r0 (fun b1 w1 hs1=>?_))
 refine al (cs:=Z31) hs1 tz27 r0 trivial r0 (fun b2 w2 hs2=>?_)
 refine tA ns r0 (tA Z6 r0 (nn (sq (sr (qt r0 (lG [I sx,(Z4 Awt wt cwt),(Z19 Alg lg clg),Str to] hs2 0 r0 ag27) (cS hs2 r0 (sTalkValid _ _ _ _ _ (hwt.up0 hs2) (hlg.up0 hs2) hlg_e (by omega)) (fun w3 hs3=>?_)))))))
 refine qt r0 (nt r0) (tm (.bool (!(talkOk sx wt lg to))) r0 (spl 16 r0 (fun h1=>?_) (fun h1=>?_)))
 ·have h2:=nbF h1
  refine gt5 r0 (gt5 r0 (gt5 r0 (qt r0 (pt (v:=.bool true) r0 r0) (nn (cdt r0 (sq (rg (qt r0 (bdv (v:=.agg #[I 0,ns,ns,Str []]) [] r0 (fun _=>by kernel_rfl)) (bsk hs3 sl24 [] [] trivial r0 (fun b3 w4 hs4=>?_))))))))))
  refine sG Z31 hs4 1 r0 ag27 (fun w5 hs5=>?_)
  refine tA (sb b3 (([]:List Int).length) 0) r0 (tA Z6 r0 (nn (rt (tR (fret (resC hs5 2 r0 r0 ag27 r0 (.tmp (.tmp .nil))) r0 ?_)))))
  have hs6:=hs5.nl [Z0] r0
  have hs7:=hs6.nl [.own none (([]:List (List UInt8×List UInt8)).length) 0 31 2 (([]:List (List UInt8×List UInt8)).flatMap gLogin)] r0
  have e1:talkSay sx wt lg to bs=((0,([]:List Int),([]:List (List UInt8×List UInt8)),[]),([]:List Int),false):=by exact talkSay_no (.inl ‹_›)
  rw[e1]
  exact⟨none,0,none,0,(Z8 b3),0,rfl,(hs7.pk [3,4,1] r0)⟩
 have h3:=nbT h1
 refine qh r0 (mv (v:=.slice Abs bs.length cbs) r0) (cl ⟨_,rfl,rfl⟩ r0 (sBytesValid _ _ (hbs.up0 hs3)) ?_)
 rintro _ w6 ⟨rfl,hs8⟩
 replace hs8:=hs3.call0 hs8
 refine qh r0 (nt r0) (qt r0 (pf (v:=.bool (!(isBytes bs))) r0 r0) (nn (cd r0 (fun h4=>?_) (fun h4=>?_))))
 ·have h5:=nbF h4
  refine sr (qt r0 (bdv (v:=.agg #[I 0,ns,ns,Str []]) [] r0 (fun _=>by kernel_rfl)) (bsk hs8 sl24 [] [] trivial r0 (fun b4 w7 hs9=>?_)))
  refine sG Z31 hs9 1 r0 ag27 (fun w8 hs10=>?_)
  refine tA (sb b4 (([]:List Int).length) 0) r0 (tA Z6 r0 (nn (rt (tR (fret (resC hs10 2 r0 r0 ag27 r0 (.tmp (.tmp .nil))) r0 ?_)))))
  have hs11:=hs10.nl [Z0] r0
  have hs12:=hs11.nl [.own none (([]:List (List UInt8×List UInt8)).length) 0 31 2 (([]:List (List UInt8×List UInt8)).flatMap gLogin)] r0
  have e2:talkSay sx wt lg to bs=((0,([]:List Int),([]:List (List UInt8×List UInt8)),[]),([]:List Int),false):=by exact talkSay_no (.inr (.inl ‹_›))
  rw[e2]
  exact⟨none,0,none,0,(Z8 b4),0,rfl,(hs12.pk [3,4,1] r0)⟩
 have h6:=nbT h4
 refine sk (nN (sq (sr (qt r0 (fa 0 fo27_0 r0) (qt r0 (lD (I sx) hs8 0 r0 one3) (nl (nN (bl (sr (qt r0 (eqi r0 r0) (tA (.bool (decide (sx=0))) r0 (nn (cdd r0 (fun h7=>?_) (fun h7=>?_))))))))))))))
 ·have htp:=talkOk_parts (by assumption:talkOk sx wt lg to=true)
  have hmw:=methOk_len htp.2.1
  refine sr (qt r0 (lG [I sx,(Z4 Awt wt cwt),(Z19 Alg lg clg),Str to] hs8 0 r0 ag27) (tm (Z14 Abs bs cbs) r0 (cL r0 (sL23Hello _ _ _ _ _ _ (hwt.up0 hs8) (by omega) (hlg.up0 hs8) hlg_e (by omega) (hbs.up0 hs8)) ?_)))
  rintro _ w9 ⟨Aw1,cw1,Al1,cl1,Ay1,cy1,rfl,hs13⟩
  replace hs13:=hs8.call0 hs13
  refine tm (.tuple #[.agg #[I ((sayHello wt bs).1),(Z4 Aw1 wt cw1),(Z19 Al1 lg cl1),Str []],.slice Ay1 (((sayHello wt bs).2).length) cy1]) r0 (qt r0 (xt 0 r0 r0) (qt r0 (xt 1 r0 r0) (al (cs:=Z31) hs13 tz27 r0 trivial r0 (fun b5 w10 hs14=>?_))))
  refine sG [I ((sayHello wt bs).1),(Z4 Aw1 wt cw1),(Z19 Al1 lg cl1),Str []] hs14 5 r0 ag27 (fun w11 hs15=>?_)
  refine tA (.slice Ay1 (((sayHello wt bs).2).length) cy1) r0 (nx (qt r0 (lG [I ((sayHello wt bs).1),(Z4 Aw1 wt cw1),(Z19 Al1 lg cl1),Str []] hs15 5 r0 ag27) (tm (.slice Ay1 (((sayHello wt bs).2).length) cy1) r0 (sG [I ((sayHello wt bs).1),(Z4 Aw1 wt cw1),(Z19 Al1 lg cl1),Str []] hs15 1 r0 ag27 (fun w12 hs16=>?_)))))
  refine tA (.slice Ay1 (((sayHello wt bs).2).length) cy1) r0 (tA Z35 r0 (nn ?_))
  have hs17:=hs16.pq [1,2,3,5] r0
  refine rt (bR (tR (fret (resC hs17 3 r0 r0 ag27 r0 (.tmp (.tmp .nil))) r0 ?_)))
  have e3:talkSay sx wt lg to bs=(((sayHello wt bs).1,wt,lg,[]),(sayHello wt bs).2,true):=by exact talkSay_0n ‹_› ‹_› ‹_›
  rw[e3]
  exact⟨Aw1,cw1,Al1,cl1,Ay1,cy1,rfl,(hs17.pk [0,1,2] r0)⟩
 refine sr (qt r0 (eqi r0 r0) (tA (Z88 sx) r0 (nn (cdd r0 (fun h8=>?_) (fun h8=>?_)))))
 ·have htp:=talkOk_parts (by assumption:talkOk sx wt lg to=true)
  have hmw:=methOk_len htp.2.1
  refine sr (qt r0 (lG [I sx,(Z4 Awt wt cwt),(Z19 Alg lg clg),Str to] hs8 0 r0 ag27) (tm (Z14 Abs bs cbs) r0 (cL r0 (sL23Login _ _ _ _ _ _ (hwt.up0 hs8) (by omega) (hlg.up0 hs8) hlg_e (by omega) (hbs.up0 hs8)) ?_)))
  rintro _ w13 ⟨Aw2,cw2,Al2,cl2,Ay2,cy2,rfl,hs18⟩
  replace hs18:=hs8.call0 hs18
  refine tm (.tuple #[.agg #[I ((sayLogin lg bs).1),(Z4 Aw2 wt cw2),(Z19 Al2 lg cl2),Str []],.slice Ay2 (((sayLogin lg bs).2).length) cy2]) r0 (qt r0 (xt 0 r0 r0) (qt r0 (xt 1 r0 r0) (al (cs:=Z31) hs18 tz27 r0 trivial r0 (fun b6 w14 hs19=>?_))))
  refine sG [I ((sayLogin lg bs).1),(Z4 Aw2 wt cw2),(Z19 Al2 lg cl2),Str []] hs19 5 r0 ag27 (fun w15 hs20=>?_)
  refine tA (.slice Ay2 (((sayLogin lg bs).2).length) cy2) r0 (nx (qt r0 (lG [I ((sayLogin lg bs).1),(Z4 Aw2 wt cw2),(Z19 Al2 lg cl2),Str []] hs20 5 r0 ag27) (tm (.slice Ay2 (((sayLogin lg bs).2).length) cy2) r0 (sG [I ((sayLogin lg bs).1),(Z4 Aw2 wt cw2),(Z19 Al2 lg cl2),Str []] hs20 1 r0 ag27 (fun w16 hs21=>?_)))))
  refine tA (.slice Ay2 (((sayLogin lg bs).2).length) cy2) r0 (tA Z35 r0 (nn ?_))
  have hs22:=hs21.pq [1,2,3,5] r0
  refine rt (bR (tR (fret (resC hs22 3 r0 r0 ag27 r0 (.tmp (.tmp .nil))) r0 ?_)))
  have e4:talkSay sx wt lg to bs=(((sayLogin lg bs).1,wt,lg,[]),(sayLogin lg bs).2,true):=by exact talkSay_1n ‹_› ‹_› ‹_›
  rw[e4]
  exact⟨Aw2,cw2,Al2,cl2,Ay2,cy2,rfl,(hs22.pk [0,1,2] r0)⟩
 refine sr (qt r0 (eqi r0 r0) (tA (.bool (decide (sx=2))) r0 (nn (cdd r0 (fun h9=>?_) (fun h9=>?_)))))
 ·refine sr (qt r0 (lG [I sx,(Z4 Awt wt cwt),(Z19 Alg lg clg),Str to] hs8 0 r0 ag27) (tm (Z14 Abs bs cbs) r0 (cL r0 (sL23Request _ _ _ _ _ _ (hwt.up0 hs8) (by(have htp:=talkOk_parts (by assumption:talkOk sx wt lg to=true); have hmw:=methOk_len htp.2.1; omega)) (hlg.up0 hs8) hlg_e (by(have htp:=talkOk_parts (by assumption:talkOk sx wt lg to=true); have hmw:=methOk_len htp.2.1; omega)) (hbs.up0 hs8)) ?_)))
  rintro _ w17 ⟨Aw3,cw3,Al3,cl3,Ay3,cy3,rfl,hs23⟩
  replace hs23:=hs8.call0 hs23
  refine tm (.tuple #[.agg #[I ((sayReq bs).1),(Z4 Aw3 wt cw3),(Z19 Al3 lg cl3),Str ((sayReq bs).2.1)],.slice Ay3 (((sayReq bs).2.2).length) cy3]) r0 (qt r0 (xt 0 r0 r0) (qt r0 (xt 1 r0 r0) (al (cs:=Z31) hs23 tz27 r0 trivial r0 (fun b7 w18 hs24=>?_))))
  refine sG [I ((sayReq bs).1),(Z4 Aw3 wt cw3),(Z19 Al3 lg cl3),Str ((sayReq bs).2.1)] hs24 5 r0 ag27 (fun w19 hs25=>?_)
  refine tA (.slice Ay3 (((sayReq bs).2.2).length) cy3) r0 (nx (qt r0 (lG [I ((sayReq bs).1),(Z4 Aw3 wt cw3),(Z19 Al3 lg cl3),Str ((sayReq bs).2.1)] hs25 5 r0 ag27) (tm (.slice Ay3 (((sayReq bs).2.2).length) cy3) r0 (sG [I ((sayReq bs).1),(Z4 Aw3 wt cw3),(Z19 Al3 lg cl3),Str ((sayReq bs).2.1)] hs25 1 r0 ag27 (fun w20 hs26=>?_)))))
  refine tA (.slice Ay3 (((sayReq bs).2.2).length) cy3) r0 (tA Z35 r0 (nn ?_))
  have hs27:=hs26.pq [1,2,3,5] r0
  refine rt (bR (tR (fret (resC hs27 3 r0 r0 ag27 r0 (.tmp (.tmp .nil))) r0 ?_)))
  have e5:talkSay sx wt lg to bs=(((sayReq bs).1,wt,lg,(sayReq bs).2.1),(sayReq bs).2.2,true):=by exact talkSay_2 ‹_› ‹_› ‹_›
  rw[e5]
  exact⟨Aw3,cw3,Al3,cl3,Ay3,cy3,rfl,(hs27.pk [0,1,2] r0)⟩
 refine sk (bN (nN (sr (qt r0 (bdv (v:=.agg #[I 0,ns,ns,Str []]) [] r0 (fun _=>by kernel_rfl)) (bsk hs8 sl24 [] [] trivial r0 (fun b8 w21 hs28=>?_))))))
 refine sG Z31 hs28 1 r0 ag27 (fun w22 hs29=>?_)
 refine tA (sb b8 (([]:List Int).length) 0) r0 (tA Z6 r0 (nn (rt (fret (resC hs29 2 r0 r0 ag27 r0 (.tmp (.tmp .nil))) r0 ?_))))
 have hs30:=hs29.nl [Z0] r0
 have hs31:=hs30.nl [.own none (([]:List (List UInt8×List UInt8)).length) 0 31 2 (([]:List (List UInt8×List UInt8)).flatMap gLogin)] r0
 have e6:talkSay sx wt lg to bs=((0,([]:List Int),([]:List (List UInt8×List UInt8)),[]),([]:List Int),false):=by exact talkSay_no (.inr (.inr (by have htp:=talkOk_parts (by assumption:talkOk sx wt lg to=true); have hmw:=methOk_len htp.2.1; omega)))
 rw[e6]
 exact⟨none,0,none,0,(Z8 b8),0,rfl,(hs31.pk [3,4,1] r0)⟩

end Go.Proofs.YtbopieehnmljkaaGreatDoor
