/-
  Part of the proofs over this seat: what each function of the program computes, function by function (the text is written by a program of this hand-in's own).
  Conditions: each theorem states its own.
-/
import Derived.Test.YtjehmnojfpedjaaGreatDoorPfWalks2
namespace Go.Proofs.YtjehmnojfpedjaaGreatDoor
open Go.PF
set_option maxRecDepth 100000
set_option linter.unusedSimpArgs false
set_option linter.unusedVariables false

set_option maxHeartbeats 8000000 in
theorem sAddressText (ak:Int) {Aaq:Option Addr} {caq:Nat} (aq:List Int) (an:List UInt8) (apt:Int) (w:World) (haq:Sl w [] 1 Aaq aq.length caq (aq.map I)) (han_n:an.length≤1099511627776):Does Tryz.prog 102 [.agg #[I ak,.slice Aaq aq.length caq,Str an,I apt]] w (fun v w'=>v=Str (addrT ak aq an apt)∧SH w w' [] []):=by
 refine fE (N:=13) Tryz.func102 r0 (by kernel_rfl) r0 ?_
 have hs0:=SH.refl w []
 have haq_m:aq.length≤9223372036854775807:=Nat.le_trans haq.cap haq.capMax
 refine sr (bx (v:=.agg #[I ak,(Z10 Aaq aq caq),Str an,I apt]) (cs:=[I ak,(Z10 Aaq aq caq),Str an,I apt]) hs0 r0 r0 trivial r0 (fun b1 w1 hs1=>?_))
 refine tA (Str []) r0 (nn (sq (sr (qt r0 (lG [I ak,(Z10 Aaq aq caq),Str an,I apt] hs1 0 r0 ag43) (cL r0 (sAddressValid (ak:=ak) (Aaq:=Aaq) (caq:=caq) (aq:=aq) (an:=an) (apt:=apt) (w:=_) (haq:=(haq.up0 hs1)) (han_n:=(by omega))) ?_)))))
 rintro _ w2 ⟨rfl,hs2⟩
 replace hs2:=hs1.call0 hs2
 refine qt r0 (nt (b:=addrOk ak aq an apt) r0) (nn ?_)
 refine cd (b:=!(addrOk ak aq an apt)) r0 (fun h1=>?_) (fun h1=>?_)
 ·have h2:(addrOk ak aq an apt)=false:=by simpa using h1
  refine sr (tA (Str []) r0 (nn (rt (tR ?_))))
  refine fT (Str []) r0 ?_
  have e1:[]=addrT ak aq an apt:=by simp[addrT,h2]
  exact⟨(congrArg (Str) e1),(hs2.pk [] r0)⟩
 ·have h3:(addrOk ak aq an apt)=true:=by simpa using h1
  refine sk (nN (sq (rq (fun w'=>SH w w' [] [.blk b1 43 [I ak,(Z10 Aaq aq caq),Str an,I apt]]) mixed (by kernel_rfl) hs2.drew (qB r0 (fun hsq=>lG [I ak,(Z10 Aaq aq caq),Str an,I apt] hsq 0 r0 ag43) (qc (Str (hostT ak aq an)) trivial r0 (fun wq hsq=>(sL3Host (ak:=ak) (Aaq:=Aaq) (caq:=caq) (aq:=aq) (an:=an) (apt:=apt) (w:=_) (haq:=(haq.up0 hsq)) (han_n:=(by omega)) (hok:=(by omega))).mono (fun v w' h=>⟨h.1,by simpa using hsq.call0 h.2⟩)) (qA r0 (cat (l:=hostT ak aq an) (m:=[58]) r0 r0 (by have haf:=addrOk_fit (by assumption:addrOk ak aq an apt=true); have hhl:=hostT_len (by assumption:addrOk ak aq an apt=true); have hil:=Lib.itoa_length_le apt (by omega) (by omega); simp only[List.length_append,List.length_cons,List.length_nil]; omega)) (qA r0 (fa 3 fo43_3 r0) ?_)))))))
  refine qB r0 (fun hsq=>lD (I apt) hsq 0 r0 one3) (qc (Str (Lib.itoa apt)) trivial r0 (fun wq hsq=>(l6Dec (n:=apt) (w:=_) (hn:=(by have haf:=addrOk_fit (by assumption:addrOk ak aq an apt=true); omega))).mono (fun v w' h=>⟨h.1,by simpa using hsq.call0 h.2⟩)) (qA r0 (cat (l:=(hostT ak aq an)++[58]) (m:=Lib.itoa apt) r0 r0 (by have haf:=addrOk_fit (by assumption:addrOk ak aq an apt=true); have hhl:=hostT_len (by assumption:addrOk ak aq an apt=true); have hil:=Lib.itoa_length_le apt (by omega) (by omega); simp only[List.length_append,List.length_cons,List.length_nil]; omega)) (qA r0 (asg (v:=Str (((hostT ak aq an)++[58])++(Lib.itoa apt))) r0) (qn (fun w3 hs3=>?_)))))
  refine nN (rt (fT (Str (((hostT ak aq an)++[58])++(Lib.itoa apt))) r0 ?_))
  have e2:((hostT ak aq an)++[58])++(Lib.itoa apt)=addrT ak aq an apt:=by simp[addrT,h3]
  exact⟨(congrArg (Str) e2),(hs3.pk [] r0)⟩
set_option maxHeartbeats 8000000 in
theorem iReplyBytes (c:Int) (ak:Int) {Aaq:Option Addr} {caq:Nat} (aq:List Int) (an:List UInt8) (apt:Int) (w:World) (haq:Sl w [] 1 Aaq aq.length caq (aq.map I)) (han_n:an.length≤1099511627776):Does Tryz.prog 110 [I c,.agg #[I ak,.slice Aaq aq.length caq,Str an,I apt]] w (fun v w'=>∃ Ar:Option Addr,∃ cr:Nat,v=.tuple #[.slice Ar ((replyP c ak aq an apt).1).length cr,.bool ((replyP c ak aq an apt).2)]∧SH w w' [] [.own Ar (((replyP c ak aq an apt).1).length) cr 3 1 (((replyP c ak aq an apt).1).map I)]):=by
 refine fE (N:=19) Tryz.func110 r0 (by kernel_rfl) r0 ?_
 have hs0:=SH.refl w []
 have haq_m:aq.length≤9223372036854775807:=Nat.le_trans haq.cap haq.capMax
 refine sr (bx (v:=.agg #[I ak,(Z10 Aaq aq caq),Str an,I apt]) (cs:=[I ak,(Z10 Aaq aq caq),Str an,I apt]) hs0 r0 r0 trivial r0 (fun b1 w1 hs1=>?_))
 refine tA ns r0 (tA (.bool false) r0 (nn (sq (sr (tm (I c) r0 ?_)))))
 refine cL r0 (iWithin (x:=c) (lo:=0) (hi:=8) (w:=_)) ?_
 rintro _ w2 ⟨rfl,hs2⟩
 replace hs2:=hs1.call0 hs2
 refine qt r0 (nd (p:=0≤c∧c≤8) r0) (tm (.bool (decide (¬ (0≤c∧c≤8)))) r0 ?_)
 refine spd (p:=¬ (0≤c∧c≤8)) 9 r0 (fun h1=>?_) (fun h1=>?_)
 ·refine gt5 r0 (gt5 r0 (gt5 r0 (qt r0 (pt (v:=.bool true) r0 r0) (nn (cdt r0 (sq ?_))))))
  refine rg (tA ns r0 (tA (.bool false) r0 (nn (rt (tR ?_)))))
  refine fret (v:=.tuple #[ns,.bool false]) (.tmp (.tmp .nil)) r0 ?_
  have hs3:=hs2.nl [.own none (([]:List Int).length) 0 3 1 (([]:List Int).map I)] r0
  have e1:replyP c ak aq an apt=(([]:List Int),false):=by simp[replyP,h1]
  have e2:=pj1 e1
  have e3:=congrArg List.length e2
  have e4:=pj2 e1
  exact⟨none,0,(tup2 (slv r0 e3 r0) (congrArg (Value.bool) e4)),((hs3.pq [1] r0).cast (lc (own_eq (g:=I) r0 e3 r0 e2) r0))⟩
 ·refine q ⟨_,rfl,rfl⟩ r0 r0 (lG [I ak,(Z10 Aaq aq caq),Str an,I apt] hs2 0 r0 ag43) (cl ⟨_,rfl,rfl⟩ r0 (iAddressValid (ak:=ak) (Aaq:=Aaq) (caq:=caq) (aq:=aq) (an:=an) (apt:=apt) (w:=_) (haq:=(haq.up0 hs2)) (han_n:=(by omega))) ?_)
  rintro _ w3 ⟨rfl,hs4⟩
  replace hs4:=hs2.call0 hs4
  refine q ⟨_,rfl,rfl⟩ r0 r0 (nt (b:=addrOk ak aq an apt) r0) (qt r0 (pf (v:=.bool (!(addrOk ak aq an apt))) r0 r0) (nn ?_))
  refine cd (b:=!(addrOk ak aq an apt)) r0 (fun h2=>?_) (fun h2=>?_)
  ·have h3:(addrOk ak aq an apt)=false:=by simpa using h2
   refine sr (tA ns r0 (tA (.bool false) r0 (nn (rt (tR ?_)))))
   refine fret (v:=.tuple #[ns,.bool false]) (.tmp (.tmp .nil)) r0 ?_
   have hs5:=hs4.nl [.own none (([]:List Int).length) 0 3 1 (([]:List Int).map I)] r0
   have e5:replyP c ak aq an apt=(([]:List Int),false):=by simp[replyP,h1,h3]
   have e6:=pj1 e5
   have e7:=congrArg List.length e6
   have e8:=pj2 e5
   exact⟨none,0,(tup2 (slv r0 e7 r0) (congrArg (Value.bool) e8)),((hs5.pq [1] r0).cast (lc (own_eq (g:=I) r0 e7 r0 e6) r0))⟩
  ·have h4:(addrOk ak aq an apt)=true:=by simpa using h2
   refine sk (nN (sr (tm (I c) r0 (bsk hs4 sl22 [I 5,I c,I 0] [I 5,I c,I 0] trivial r0 (fun b2 w4 hs6=>?_)))))
   refine qt r0 (lG [I ak,(Z10 Aaq aq caq),Str an,I apt] hs6 0 r0 ag43) (cL r0 (iAddressBytes (ak:=ak) (Aaq:=Aaq) (caq:=caq) (aq:=aq) (an:=an) (apt:=apt) (w:=_) (haq:=(haq.up0 hs6)) (han_n:=(by omega)) (hok:=(by omega))) ?_)
   rintro _ w5 ⟨A1,c1,rfl,hs7⟩
   replace hs7:=hs6.call0 hs7
   refine apm (g:=I) (ys:=([5,c,0]:List Int)) (zs:=addrB ak aq an apt) hs7 1 r0 sl22 r0 r0 r0 (hs7.sl0 2 r0) (fun _=>rfl) (by unfold maxLen; have hbl:=addrB_len (by assumption:addrOk ak aq an apt=true); simp only[List.length_append,List.length_cons,List.length_nil]; omega) (by have hbl:=addrB_len (by assumption:addrOk ak aq an apt=true); simp only[List.length_append,List.length_cons,List.length_nil]; omega) trivial r0 (fun A2 c2 w6 hs8=>?_)
   refine tA (.slice A2 ((([5,c,0]:List Int)++(addrB ak aq an apt)).length) c2) r0 (tA (.bool true) r0 (nn (rt (fret (v:=.tuple #[.slice A2 ((([5,c,0]:List Int)++(addrB ak aq an apt)).length) c2,.bool true]) (.tmp (.tmp .nil)) r0 ?_))))
   have e9:replyP c ak aq an apt=(([5,c,0]:List Int)++(addrB ak aq an apt),true):=by simp[replyP,h1,h4]
   have e10:=pj1 e9
   have e11:=congrArg List.length e10
   have e12:=pj2 e9
   exact⟨A2,c2,(tup2 (slv r0 e11 r0) (congrArg (Value.bool) e12)),((hs8.pq [2] r0).cast (lc (own_eq (g:=I) r0 e11 r0 e10) r0))⟩
set_option maxHeartbeats 8000000 in
theorem sReplyBytes (c:Int) (ak:Int) {Aaq:Option Addr} {caq:Nat} (aq:List Int) (an:List UInt8) (apt:Int) (w:World) (haq:Sl w [] 1 Aaq aq.length caq (aq.map I)) (han_n:an.length≤1099511627776):Does Tryz.prog 101 [I c,.agg #[I ak,.slice Aaq aq.length caq,Str an,I apt]] w (fun v w'=>∃ Ar:Option Addr,∃ cr:Nat,v=.tuple #[.slice Ar ((replyP c ak aq an apt).1).length cr,.bool ((replyP c ak aq an apt).2)]∧SH w w' [] [.own Ar (((replyP c ak aq an apt).1).length) cr 3 1 (((replyP c ak aq an apt).1).map I)]):=by
 refine fE (N:=18) Tryz.func101 r0 (by kernel_rfl) r0 ?_
 have hs0:=SH.refl w []
 have haq_m:aq.length≤9223372036854775807:=Nat.le_trans haq.cap haq.capMax
 refine sr (bx (v:=.agg #[I ak,(Z10 Aaq aq caq),Str an,I apt]) (cs:=[I ak,(Z10 Aaq aq caq),Str an,I apt]) hs0 r0 r0 trivial r0 (fun b1 w1 hs1=>?_))
 refine tA ns r0 (tA (.bool false) r0 (nn (sq (sr (tm (I c) r0 ?_)))))
 refine cL r0 (sIn (x:=c) (lo:=0) (hi:=8) (w:=_)) ?_
 rintro _ w2 ⟨rfl,hs2⟩
 replace hs2:=hs1.call0 hs2
 refine qt r0 (nd (p:=0≤c∧c≤8) r0) (tm (.bool (decide (¬ (0≤c∧c≤8)))) r0 ?_)
 refine spd (p:=¬ (0≤c∧c≤8)) 9 r0 (fun h1=>?_) (fun h1=>?_)
 ·refine gt5 r0 (gt5 r0 (gt5 r0 (qt r0 (pt (v:=.bool true) r0 r0) (nn (cdt r0 (sq ?_))))))
  refine rg (bsk hs2 sl22 [] [] trivial r0 (fun b2 w3 hs3=>?_))
  refine tA (sb b2 (([]:List Int).length) 0) r0 (tA (.bool false) r0 (nn (rt (tR ?_))))
  refine fret (v:=.tuple #[sb b2 (([]:List Int).length) 0,.bool false]) (.tmp (.tmp .nil)) r0 ?_
  have e1:replyP c ak aq an apt=(([]:List Int),false):=by simp[replyP,h1]
  have e2:=pj1 e1
  have e3:=congrArg List.length e2
  have e4:=pj2 e1
  exact⟨(Z6 b2),0,(tup2 (slv r0 e3 r0) (congrArg (Value.bool) e4)),((hs3.pq [1] r0).cast (lc (own_eq (g:=I) r0 e3 r0 e2) r0))⟩
 ·refine q ⟨_,rfl,rfl⟩ r0 r0 (lG [I ak,(Z10 Aaq aq caq),Str an,I apt] hs2 0 r0 ag43) (cl ⟨_,rfl,rfl⟩ r0 (sAddressValid (ak:=ak) (Aaq:=Aaq) (caq:=caq) (aq:=aq) (an:=an) (apt:=apt) (w:=_) (haq:=(haq.up0 hs2)) (han_n:=(by omega))) ?_)
  rintro _ w4 ⟨rfl,hs4⟩
  replace hs4:=hs2.call0 hs4
  refine q ⟨_,rfl,rfl⟩ r0 r0 (nt (b:=addrOk ak aq an apt) r0) (qt r0 (pf (v:=.bool (!(addrOk ak aq an apt))) r0 r0) (nn ?_))
  refine cd (b:=!(addrOk ak aq an apt)) r0 (fun h2=>?_) (fun h2=>?_)
  ·have h3:(addrOk ak aq an apt)=false:=by simpa using h2
   refine sr (bsk hs4 sl22 [] [] trivial r0 (fun b3 w5 hs5=>?_))
   refine tA (sb b3 (([]:List Int).length) 0) r0 (tA (.bool false) r0 (nn (rt (tR ?_))))
   refine fret (v:=.tuple #[sb b3 (([]:List Int).length) 0,.bool false]) (.tmp (.tmp .nil)) r0 ?_
   have e5:replyP c ak aq an apt=(([]:List Int),false):=by simp[replyP,h1,h3]
   have e6:=pj1 e5
   have e7:=congrArg List.length e6
   have e8:=pj2 e5
   exact⟨(Z6 b3),0,(tup2 (slv r0 e7 r0) (congrArg (Value.bool) e8)),((hs5.pq [1] r0).cast (lc (own_eq (g:=I) r0 e7 r0 e6) r0))⟩
  ·have h4:(addrOk ak aq an apt)=true:=by simpa using h2
   refine sk (nN (sr (tm (I c) r0 (qt r0 (lG [I ak,(Z10 Aaq aq caq),Str an,I apt] hs4 0 r0 ag43) (cL r0 (sL12Bytes (n:=c) (ak:=ak) (Aaq:=Aaq) (caq:=caq) (aq:=aq) (an:=an) (apt:=apt) (w:=_) (haq:=(haq.up0 hs4)) (han_n:=(by omega)) (hok:=(by omega))) ?_)))))
   rintro _ w6 ⟨A1,c1,rfl,hs6⟩
   replace hs6:=hs4.call0 hs6
   refine tA (.slice A1 (([5,c,0]++addrB ak aq an apt).length) c1) r0 (tA (.bool true) r0 (nn (rt (fret (v:=.tuple #[.slice A1 (([5,c,0]++addrB ak aq an apt).length) c1,.bool true]) (.tmp (.tmp .nil)) r0 ?_))))
   have e9:replyP c ak aq an apt=([5,c,0]++addrB ak aq an apt,true):=by simp[replyP,h1,h4]
   have e10:=pj1 e9
   have e11:=congrArg List.length e10
   have e12:=pj2 e9
   exact⟨A1,c1,(tup2 (slv r0 e11 r0) (congrArg (Value.bool) e12)),((hs6.pq [1] r0).cast (lc (own_eq (g:=I) r0 e11 r0 e10) r0))⟩
set_option maxHeartbeats 8000000 in
theorem l92Request {rb:Nat} {Ab:Option Addr} {cb:Nat} {bs:List UInt8} {p:Nat} (w:World) (hr:w.heap[rb]?=some (.cells [.slice Ab bs.length cb,.int .i64 (p:Int)].toArray 124 (0,0))) (hb:Sl w [rb] 1 Ab bs.length cb (bs.map U)) (hbn:bs.length≤2000) (hp:p≤68719476736):Does Tryz.prog 115 [pB rb] w (fun v w'=>∃ Aqr:Option Addr,∃ cqr:Nat,∃ cm:Int,∃ ak:Int,∃ aq:List Int,∃ an:List UInt8,∃ apt:Int,∃ q:Nat,v=.agg #[.int .i64 cm,.int .i64 ak,.slice Aqr aq.length cqr,Str an,.int .i64 apt]∧(aq.length≤4)∧(an.length≤21)∧(q≤p+60)∧SH w w' [rb] [.blk rb 124 [.slice Ab bs.length cb,I (q:Int)],.own Aqr aq.length cqr 3 1 (aq.map I)]):=by
 refine fE (N:=24) Tryz.func115 r0 (by kernel_rfl) r0 ?_
 have hs0:SH w w [rb] [(Z5 rb Ab bs cb p)]:=SH.entry1 hr
 refine sr (al (v:=.agg #[I 0,I 0,ns,Str [],I 0]) (cs:=[I 0,I 0,ns,Str [],I 0]) hs0 tz45 r0 trivial r0 (fun b1 w1 hs1=>?_))
 refine nx (tm (pB rb) r0 (cL r0 (pick (rb:=rb) (Ab:=Ab) (cb:=cb) (bs:=bs) (p:=p) (n:=3) (w:=_) (hr:=(blk_heap hs1 0 r0)) (hb:=(hb.up hs1 (fun _ h=>h) (fun _ h=>.inl h))) (hbn:=‹_›) (hp:=(by omega))) ?_))
 rintro _ w2 ⟨r1,q1,rfl,p1,p2,hs2⟩
 replace hs2:=hs1.callM 0 r0 hs2 m_1
 refine qt r0 (add (a:=1) (b:=r1) r0 r0 (by exact⟨by omega,by omega⟩)) (tm (pB rb) r0 (cL r0 (l91Address (rb:=rb) (Ab:=Ab) (cb:=cb) (bs:=bs) (p:=q1) (w:=_) (hr:=(blk_heap hs2 1 r0)) (hb:=(hb.up hs2 (fun _ h=>h) (fun _ h=>.inl h))) (hbn:=‹_›) (hp:=(by omega))) ?_))
 rintro _ w3 ⟨Aq1,cq1,ak1,aq1,an1,apt1,q2,rfl,p3,p4,p5,hs3⟩
 replace hs3:=hs2.callM 1 r0 hs3 m_1
 refine qt r0 (bdv (v:=.agg #[I (1+r1),I ak1,(Z10 Aq1 aq1 cq1),Str an1,I apt1]) [(0,I (1+r1)),(1,.agg #[I ak1,(Z10 Aq1 aq1 cq1),Str an1,I apt1])] r0 (fun _=>by kernel_rfl)) (al (v:=.agg #[I 0,I 0,ns,Str [],I 0]) (cs:=[I 0,I 0,ns,Str [],I 0]) hs3 tz45 r0 trivial r0 (fun b2 w4 hs4=>?_))
 refine sG [I (1+r1),I ak1,(Z10 Aq1 aq1 cq1),Str an1,I apt1] hs4 3 r0 ag45 (fun w5 hs5=>?_)
 refine nn (sq (sr (tm (pB rb) r0 (cL r0 (pick (rb:=rb) (Ab:=Ab) (cb:=cb) (bs:=bs) (p:=q2) (n:=2) (w:=_) (hr:=(blk_heap hs5 1 r0)) (hb:=(hb.up hs5 (fun _ h=>h) (fun _ h=>.inl h))) (hbn:=‹_›) (hp:=(by omega))) ?_))))
 rintro _ w6 ⟨r2,q3,rfl,p6,p7,hs6⟩
 replace hs6:=hs5.callM 1 r0 hs6 m_1
 refine qt r0 (eqi (k:=.i64) (a:=r2) (b:=0) r0 r0) (nn ?_)
 refine cdd (p:=r2=0) r0 (fun h1=>?_) (fun h1=>?_)
 ·refine rg (qt r0 (fa 0 fo45_0 r0) (sT (I 1) hs6 2 r0 one3 (fun w7 hs7=>?_)))
  refine nn (sq (sr (tm (pB rb) r0 (cL r0 (pick (rb:=rb) (Ab:=Ab) (cb:=cb) (bs:=bs) (p:=q3) (n:=30) (w:=_) (hr:=(blk_heap hs7 2 r0)) (hb:=(hb.up hs7 (fun _ h=>h) (fun _ h=>.inl h))) (hbn:=‹_›) (hp:=(by omega))) ?_))))
  rintro _ w8 ⟨r3,q4,rfl,p8,p9,hs8⟩
  replace hs8:=hs7.callM 2 r0 hs8 m_1
  refine qt r0 (eqi (k:=.i64) (a:=r3) (b:=0) r0 r0) (nn ?_)
  refine cdd (p:=r3=0) r0 (fun h2=>?_) (fun h2=>?_)
  ·refine rg (bsk hs8 sl22 [I 0,I 4] [I 0,I 4] trivial r0 (fun b3 w9 (hs9:SH w w9 [rb] [.blk b1 45 [I 0,I 0,ns,Str [],I 0],(Z7 Aq1 aq1 cq1),.blk b2 45 [I 1,I ak1,(Z10 Aq1 aq1 cq1),Str an1,I apt1],(Z5 rb Ab bs cb q4),oI b3 ([0,4]:List Int) 2 3])=>?_))
   refine tm (pB rb) r0 (cL r0 (pick (rb:=rb) (Ab:=Ab) (cb:=cb) (bs:=bs) (p:=q4) (n:=2) (w:=_) (hr:=(blk_heap hs9 3 r0)) (hb:=(hb.up hs9 (fun _ h=>h) (fun _ h=>.inl h))) (hbn:=‹_›) (hp:=(by omega))) ?_)
   rintro _ w10 ⟨r4,q5,rfl,p10,p11,hs10⟩
   replace hs10:=hs9.callM 3 r0 hs10 m_1
   refine qt r0 (ixo r4.toNat sl22 r0 (ieq (x:=r4) (by omega)) (by omega)) (qt r0 (ldo1n (g:=I) (ys:=([0,4]:List Int)) (o:=r4.toNat) 0 hs10 3 r0 r0 (by(simp; omega)) one3) (qt r0 (fa 0 fo45_0 r0) (sT (I (([0,4]:List Int).getD r4.toNat 0)) hs10 2 r0 one3 (fun w11 hs11=>?_))))
   refine nx (qt r0 (lG [I (([0,4]:List Int).getD r4.toNat 0),I ak1,(Z10 Aq1 aq1 cq1),Str an1,I apt1] hs11 4 r0 ag45) (sG [I (([0,4]:List Int).getD r4.toNat 0),I ak1,(Z10 Aq1 aq1 cq1),Str an1,I apt1] hs11 0 r0 ag45 (fun w12 (hs12:SH w w12 [rb] [(Z7 Aq1 aq1 cq1),oI b3 ([0,4]:List Int) 2 3,(Z5 rb Ab bs cb q5),.blk b2 45 [I (([0,4]:List Int).getD r4.toNat 0),I ak1,(Z10 Aq1 aq1 cq1),Str an1,I apt1],.blk b1 45 [I (([0,4]:List Int).getD r4.toNat 0),I ak1,(Z10 Aq1 aq1 cq1),Str an1,I apt1]])=>?_)))
   refine nn ?_
   have hs13:=hs12.pq [0,2,4] r0
   refine rt (fret (v:=.agg #[I (([0,4]:List Int).getD r4.toNat 0),I ak1,(Z10 Aq1 aq1 cq1),Str an1,I apt1]) (resC hs13 2 r0 r0 ag45 r0 .nil) r0 ?_)
   exact⟨Aq1,cq1,([0,4]:List Int).getD r4.toNat 0,ak1,aq1,an1,apt1,q5,rfl,(by omega),(by omega),(by omega),(hs13.pk [1,0] r0)⟩
  ·refine sk (nN (sr (qt r0 (lG [I 1,I ak1,(Z10 Aq1 aq1 cq1),Str an1,I apt1] hs8 2 r0 ag45) (sG [I 1,I ak1,(Z10 Aq1 aq1 cq1),Str an1,I apt1] hs8 0 r0 ag45 (fun w13 hs14=>?_)))))
   refine nn (rt (fret (v:=.agg #[I 1,I ak1,(Z10 Aq1 aq1 cq1),Str an1,I apt1]) (resC hs14 3 r0 r0 ag45 r0 .nil) r0 ?_))
   exact⟨Aq1,cq1,1,ak1,aq1,an1,apt1,q4,rfl,(by omega),(by omega),(by omega),(hs14.pk [2,0] r0)⟩
 ·refine sk (nN (sq (sr (tm (pB rb) r0 (cL r0 (pick (rb:=rb) (Ab:=Ab) (cb:=cb) (bs:=bs) (p:=q3) (n:=30) (w:=_) (hr:=(blk_heap hs6 3 r0)) (hb:=(hb.up hs6 (fun _ h=>h) (fun _ h=>.inl h))) (hbn:=‹_›) (hp:=(by omega))) ?_)))))
  rintro _ w14 ⟨r5,q6,rfl,p12,p13,hs15⟩
  replace hs15:=hs6.callM 3 r0 hs15 m_1
  refine qt r0 (eqi (k:=.i64) (a:=r5) (b:=0) r0 r0) (nn ?_)
  refine cdd (p:=r5=0) r0 (fun h3=>?_) (fun h3=>?_)
  ·refine rg (bsk hs15 sl22 [I 0,I 4] [I 0,I 4] trivial r0 (fun b4 w15 hs16=>?_))
   refine tm (pB rb) r0 (cL r0 (pick (rb:=rb) (Ab:=Ab) (cb:=cb) (bs:=bs) (p:=q6) (n:=2) (w:=_) (hr:=(blk_heap hs16 3 r0)) (hb:=(hb.up hs16 (fun _ h=>h) (fun _ h=>.inl h))) (hbn:=‹_›) (hp:=(by omega))) ?_)
   rintro _ w16 ⟨r6,q7,rfl,p14,p15,hs17⟩
   replace hs17:=hs16.callM 3 r0 hs17 m_1
   refine qt r0 (ixo r6.toNat sl22 r0 (ieq (x:=r6) (by omega)) (by omega)) (qt r0 (ldo1n (g:=I) (ys:=([0,4]:List Int)) (o:=r6.toNat) 0 hs17 3 r0 r0 (by(simp; omega)) one3) (qt r0 (fa 0 fo45_0 r0) (sT (I (([0,4]:List Int).getD r6.toNat 0)) hs17 2 r0 one3 (fun w17 (hs18:SH w w17 [rb] [.blk b1 45 [I 0,I 0,ns,Str [],I 0],(Z7 Aq1 aq1 cq1),oI b4 ([0,4]:List Int) 2 3,(Z5 rb Ab bs cb q7),.blk b2 45 [I (([0,4]:List Int).getD r6.toNat 0),I ak1,(Z10 Aq1 aq1 cq1),Str an1,I apt1]])=>?_))))
   refine nx (qt r0 (lG [I (([0,4]:List Int).getD r6.toNat 0),I ak1,(Z10 Aq1 aq1 cq1),Str an1,I apt1] hs18 4 r0 ag45) (sG [I (([0,4]:List Int).getD r6.toNat 0),I ak1,(Z10 Aq1 aq1 cq1),Str an1,I apt1] hs18 0 r0 ag45 (fun w18 hs19=>?_)))
   refine nn ?_
   have hs20:=hs19.pq [0,2,4] r0
   refine rt (fret (v:=.agg #[I (([0,4]:List Int).getD r6.toNat 0),I ak1,(Z10 Aq1 aq1 cq1),Str an1,I apt1]) (resC hs20 2 r0 r0 ag45 r0 .nil) r0 ?_)
   exact⟨Aq1,cq1,([0,4]:List Int).getD r6.toNat 0,ak1,aq1,an1,apt1,q7,rfl,(by omega),(by omega),(by omega),(hs20.pk [1,0] r0)⟩
  ·refine sk (nN (sr (qt r0 (lG [I (1+r1),I ak1,(Z10 Aq1 aq1 cq1),Str an1,I apt1] hs15 2 r0 ag45) (sG [I (1+r1),I ak1,(Z10 Aq1 aq1 cq1),Str an1,I apt1] hs15 0 r0 ag45 (fun w19 (hs21:SH w w19 [rb] [(Z7 Aq1 aq1 cq1),.blk b2 45 [I (1+r1),I ak1,(Z10 Aq1 aq1 cq1),Str an1,I apt1],(Z5 rb Ab bs cb q6),.blk b1 45 [I (1+r1),I ak1,(Z10 Aq1 aq1 cq1),Str an1,I apt1]])=>?_)))))
   refine nn (rt (fret (v:=.agg #[I (1+r1),I ak1,(Z10 Aq1 aq1 cq1),Str an1,I apt1]) (resC hs21 3 r0 r0 ag45 r0 .nil) r0 ?_))
   exact⟨Aq1,cq1,1+r1,ak1,aq1,an1,apt1,q6,rfl,(by omega),(by omega),(by omega),(hs21.pk [2,0] r0)⟩
theorem newReader {Abs:Option Addr} {cbs:Nat} (bs:List Int) (w:World) (hbs:Sl w [] 1 Abs bs.length cbs (bs.map I)):Does Tryz.prog 117 [.slice Abs bs.length cbs] w (fun v w'=>∃ gr:Nat,v=.pointer (some ⟨gr,0,none⟩)∧SH w w' [] [.blk gr 133 [.slice Abs bs.length cbs,I 0,.bool (!isBytes bs)]]):=by
 refine fE (N:=9) Tryz.func117 r0 (by kernel_rfl) r0 ?_
 have hs0:=SH.refl w []
 have hbs_m:bs.length≤9223372036854775807:=Nat.le_trans hbs.cap hbs.capMax
 refine sr (tA (.pointer none) r0 (nx (tm (Z13 Abs bs cbs) r0 ?_)))
 refine tm (Z13 Abs bs cbs) r0 (cL r0 (iBytesValid (Azs:=Abs) (czs:=cbs) (zs:=bs) (w:=_) (hzs:=(hbs.up0 hs0))) ?_)
 rintro _ w1 ⟨rfl,hs1⟩
 replace hs1:=hs0.call0 hs1
 refine qt r0 (nt (b:=isBytes bs) r0) (qt r0 (bdv (v:=.agg #[(Z10 Abs bs cbs),I 0,.bool (!(isBytes bs))]) [(0,.slice Abs bs.length cbs),(2,.bool (!(isBytes bs)))] r0 (fun _=>by kernel_rfl)) (bx (v:=.agg #[(Z10 Abs bs cbs),I 0,.bool (!(isBytes bs))]) (cs:=[(Z10 Abs bs cbs),I 0,.bool (!(isBytes bs))]) hs1 r0 r0 trivial r0 (fun b1 w2 hs2=>?_)))
 refine tA (pB b1) r0 (nn (rt (fT (pB b1) r0 ?_)))
 have e1:(!(isBytes bs))=(!isBytes bs):=by rfl
 exact⟨b1,rfl,(hs2.cast (lc (congrArg (It.blk b1 133) (lc r0 (lc r0 (lc (congrArg Value.bool e1) r0)))) r0))⟩
theorem rdTake {rb:Nat} {Ab:Option Addr} {cb:Nat} (bs:List Int) (sa:Nat) (sf:Bool) (n:Int) (w:World) (hr:w.heap[rb]?=some (.cells [.slice Ab bs.length cb,.int .i64 (sa:Int),.bool sf].toArray 133 (0,0))) (hb:Sl w [rb] 1 Ab bs.length cb (bs.map I)) (hbv:sf=false→isBytes bs=true) (hsa:sa≤bs.length) (hn:0≤n∧n≤65535):Does Tryz.prog 149 [pB rb,I n] w (fun v w'=>∃ Ar:Option Addr,∃ cr:Nat,∃ qa:Nat,∃ qf:Bool,v=.slice Ar (tkL bs (sa,sf) n.toNat).length cr∧(qa≤bs.length)∧((qf=false→isBytes bs=true))∧((qa,qf)=tkS bs (sa,sf) n.toNat)∧SH w w' [rb] [.blk rb 133 [.slice Ab bs.length cb,I (qa:Int),.bool qf],.own Ar ((tkL bs (sa,sf) n.toNat).length) cr 3 1 ((tkL bs (sa,sf) n.toNat).map I)]):=by
 refine fE (N:=52) Tryz.func149 r0 (by kernel_rfl) r0 ?_
 have hb_m:bs.length≤9223372036854775807:=Nat.le_trans hb.cap hb.capMax
 have hs0:=SH.entry1 hr
 refine sr (tA ns r0 (nn (sq (sq (rq (fun w'=>SH w w' [rb] [.blk rb 133 [(Z10 Ab bs cb),I (sa:Int),.bool sf]]) mixed (by kernel_rfl) hs0.drew ?_)))))
 refine qA r0 (mv (v:=pB rb) r0) (qA r0 (nc r0) (qA r0 (fa 2 fo133_2 r0) (qB r0 (fun hsq=>lD (.bool sf) hsq 0 r0 one4) (qA r0 (mv (v:=.bool sf) r0) ?_))))
 refine qspl (b:=sf) 9 r0 (fun h1=>?_) (fun h1=>?_)
 ·refine kt5 r0 (kt5 r0 (kt5 r0 (kt5 r0 (kt5 r0 (kt5 r0 (kt5 r0 (kt5 r0 ?_)))))))
  refine kt5 r0 (kt5 r0 (kt5 r0 (kt5 r0 (qA r0 (pt (v:=.bool true) r0 r0) (qn (fun w1 hs1=>?_))))))
  refine nN (cdt r0 (sr (tm (pB rb) r0 (tn r0 (qt r0 (fa 2 fo133_2 r0) (sT (.bool true) hs1 0 r0 one4 (fun w2 hs2=>?_)))))))
  refine nx (tm (I n) r0 (mkm (g:=I) (z:=0) (n:=n.toNat) hs2 sl22 r0 (ieq (x:=n) (by(omega))) (ieq (x:=n) (by(omega))) (by(omega)) (by unfold maxLen; (omega)) trivial r0 (fun b1 w3 hs3=>?_)))
  refine tA (sb b1 ((List.replicate n.toNat (0:Int)).length) n.toNat) r0 (nn (rt (tR ?_)))
  refine fT (sb b1 ((List.replicate n.toNat (0:Int)).length) n.toNat) r0 ?_
  have e1:List.replicate n.toNat (0:Int)=tkL bs (sa,sf) n.toNat:=by exact tkL_n1 ‹_›
  have e2:=congrArg List.length e1
  exact⟨(Z6 b1),n.toNat,sa,true,(slv r0 e2 r0),‹_›,(by(simp_all; done)),(by exact tkS_n1 ‹_›),(hs3.cast (lc r0 (lc (own_eq (g:=I) r0 e2 r0 e1) r0)))⟩
 ·refine qq ⟨_,rfl,rfl⟩ r0 r0 (fun wq hsq=>mv (v:=I n) r0) (qq ⟨_,rfl,rfl⟩ r0 r0 (fun wq hsq=>mv (v:=pB rb) r0) (qq ⟨_,rfl,rfl⟩ r0 r0 (fun wq hsq=>nc r0) (qq ⟨_,rfl,rfl⟩ r0 r0 (fun wq hsq=>fa 0 fo133_0 r0) (qq ⟨_,rfl,rfl⟩ r0 r0 (fun wq hsq=>lD (Z13 Ab bs cb) hsq 0 r0 one22) (qq ⟨_,rfl,rfl⟩ r0 r0 (fun wq hsq=>lnA (n:=bs.length) sl22 r0) (qq ⟨_,rfl,rfl⟩ r0 r0 (fun wq hsq=>mv (v:=pB rb) r0) (qq ⟨_,rfl,rfl⟩ r0 r0 (fun wq hsq=>nc r0) ?_)))))))
  refine qq ⟨_,rfl,rfl⟩ r0 r0 (fun wq hsq=>fa 1 fo133_1 r0) (qq ⟨_,rfl,rfl⟩ r0 r0 (fun wq hsq=>lD (I (sa:Int)) hsq 0 r0 one3) (qq ⟨_,rfl,rfl⟩ r0 r0 (fun wq hsq=>sub (a:=(bs.length:Int)) (b:=(sa:Int)) r0 r0 (by(exact⟨by omega,by omega⟩))) (qq ⟨_,rfl,rfl⟩ r0 r0 (fun wq hsq=>gtr (k:=.i64) (a:=n) (b:=(bs.length:Int)-(sa:Int)) r0 r0) (qA r0 (pf (v:=.bool (decide (((bs.length:Int)-(sa:Int))<n))) r0 r0) (qn (fun w4 hs4=>?_))))))
  refine nN ?_
  refine cdd (p:=((bs.length:Int)-(sa:Int))<n) r0 (fun h2=>?_) (fun h2=>?_)
  ·refine sr (tm (pB rb) r0 (tn r0 (qt r0 (fa 2 fo133_2 r0) (sT (.bool true) hs4 0 r0 one4 (fun w5 hs5=>?_)))))
   refine nx (tm (I n) r0 (mkm (g:=I) (z:=0) (n:=n.toNat) hs5 sl22 r0 (ieq (x:=n) (by(omega))) (ieq (x:=n) (by(omega))) (by(omega)) (by unfold maxLen; (omega)) trivial r0 (fun b2 w6 hs6=>?_)))
   refine tA (sb b2 ((List.replicate n.toNat (0:Int)).length) n.toNat) r0 (nn (rt (tR ?_)))
   refine fT (sb b2 ((List.replicate n.toNat (0:Int)).length) n.toNat) r0 ?_
   have e3:List.replicate n.toNat (0:Int)=tkL bs (sa,sf) n.toNat:=by exact tkL_n2 (by omega)
   have e4:=congrArg List.length e3
   exact⟨(Z6 b2),n.toNat,sa,true,(slv r0 e4 r0),‹_›,(by(simp_all; done)),(by exact tkS_n2 (by omega)),(hs6.cast (lc r0 (lc (own_eq (g:=I) r0 e4 r0 e3) r0)))⟩
  ·refine sk (nN (sr (tm (pB rb) r0 (tn r0 (qt r0 (fa 1 fo133_1 r0) (qt r0 (lD (I (sa:Int)) hs4 0 r0 one3) ?_))))))
   refine tm (I n) r0 (qt r0 (add (a:=(sa:Int)) (b:=n) r0 r0 (by(exact⟨by omega,by omega⟩))) ?_)
   have e5:(sa:Int)+n=((sa+n.toNat:Nat):Int):=by omega
   refine re 33 (v:=I ((sa+n.toNat:Nat):Int)) (congrArg (Value.int .i64) e5) (tn r0 (qt r0 (fa 1 fo133_1 r0) (sT (I ((sa+n.toNat:Nat):Int)) hs4 0 r0 one3 (fun w7 hs7=>?_))))
   refine nn (sq (ra (fun w'=>∃ L,SH w w' [rb] L∧(.blk rb 133 [(Z10 Ab bs cb),I ((sa+n.toNat:Nat):Int),.bool sf])∈L∧True) mixed ?_))
   have hs8:=hs7.drew
   refine tk (fuel:=2) (is:=[0,1,2,3,4,5,6,7,8,9,10,11,12,13,14]) (.cons r0 (.cons r0 (.cons r0 (.cons r0 (.cons r0 (.cons r0 (.cons r0 (.cons r0 (.cons r0 (.cons r0 (.cons r0 (.cons r0 (.cons r0 (.cons r0 (.cons r0 (.nil)))))))))))))))) (by kernel_rfl) (by kernel_rfl) (m1 hs8 0 r0) (yA r0 (mv (v:=pB rb) r0) (yA r0 (nc r0) (yA r0 (fa 0 fo133_0 r0) (yB r0 (fun ⟨Lq,hsq,mh0,_⟩=>lM (Z13 Ab bs cb) hsq mh0 r0 one22) (yA r0 (mv (v:=pB rb) r0) (yA r0 (nc r0) (yA r0 (fa 1 fo133_1 r0) ?_)))))))
   refine yB r0 (fun ⟨Lq,hsq,mh0,_⟩=>lM (I ((sa+n.toNat:Nat):Int)) hsq mh0 r0 one3) (yA r0 (mv (v:=I n) r0) (yA r0 (sub (a:=((sa+n.toNat:Nat):Int)) (b:=n) r0 r0 (by(exact⟨by omega,by omega⟩))) (yA r0 (mv (v:=pB rb) r0) (yA r0 (nc r0) (yA r0 (fa 1 fo133_1 r0) (yB r0 (fun ⟨Lq,hsq,mh0,_⟩=>lM (I ((sa+n.toNat:Nat):Int)) hsq mh0 r0 one3) (yA r0 (cum (zs:=bs) ((((sa+n.toNat:Nat):Int)-n).toNat) (sa+n.toNat) sl22 r0 (ieq (x:=((sa+n.toNat:Nat):Int)-n) (by(omega))) r0 (by(omega)) (by(omega)) hb.cap) ?_)))))))
   refine .nil (a1 (i:=15) (by kernel_rfl) (one_ r0 (cL r0 (slClone (Axs:=if cb=(((sa+n.toNat:Nat):Int)-n).toNat then Ab else Ab.map (·.add (((((sa+n.toNat:Nat):Int)-n).toNat)*1))) (cxs:=cb-((((sa+n.toNat:Nat):Int)-n).toNat)) (xs:=(bs.take (sa+n.toNat)).drop ((((sa+n.toNat:Nat):Int)-n).toNat)) (w:=_) (hxs:=(Sl.cutm (hb.up hs8 (fun _ h=>h) (by simp)) (by(omega)) (by(omega)))) (hxs_n:=(by((simp; omega))))) ?_)))
   rintro _ w8 ⟨A_5_15,c_5_15,rfl,hs9⟩
   replace hs9:=hs8.call0 hs9
   refine nk (m1 hs9 0 r0) ?_
   refine tk (fuel:=0) (is:=[16]) (.cons r0 (.nil)) (by kernel_rfl) (by kernel_rfl) (m1 hs9 0 r0) (yA r0 (asg (v:=.slice A_5_15 (((bs.take (sa+n.toNat)).drop ((((sa+n.toNat:Nat):Int)-n).toNat)).length) c_5_15) r0) (.nil (ad (by kernel_rfl) (nN (rt (fT (.slice A_5_15 (((bs.take (sa+n.toNat)).drop ((((sa+n.toNat:Nat):Int)-n).toNat)).length) c_5_15) r0 ?_))))))
   have e6:((bs.take (sa+n.toNat)).drop ((((sa+n.toNat:Nat):Int)-n).toNat))=tkL bs (sa,sf) n.toNat:=by exact tk_cut ‹_› (by omega) (by omega) (by omega)
   have e7:=congrArg List.length e6
   exact⟨A_5_15,c_5_15,sa+n.toNat,sf,(slv r0 e7 r0),(by omega),‹_›,(by exact tkS_y ‹_› (by omega)),(hs9.cast (lc r0 (lc (own_eq (g:=I) r0 e7 r0 e6) r0)))⟩
theorem rdByte {rb:Nat} {Ab:Option Addr} {cb:Nat} (bs:List Int) (sa:Nat) (sf:Bool) (w:World) (hr:w.heap[rb]?=some (.cells [.slice Ab bs.length cb,.int .i64 (sa:Int),.bool sf].toArray 133 (0,0))) (hb:Sl w [rb] 1 Ab bs.length cb (bs.map I)) (hbv:sf=false→isBytes bs=true) (hsa:sa≤bs.length):Does Tryz.prog 119 [pB rb] w (fun v w'=>∃ qa:Nat,∃ qf:Bool,v=.int .i64 (byV bs (sa,sf))∧(qa≤bs.length)∧((qf=false→isBytes bs=true))∧((qa,qf)=tkS bs (sa,sf) 1)∧SH w w' [rb] [.blk rb 133 [.slice Ab bs.length cb,I (qa:Int),.bool qf]]):=by
 refine fE (N:=7) Tryz.func119 r0 (by kernel_rfl) r0 ?_
 have hb_m:bs.length≤9223372036854775807:=Nat.le_trans hb.cap hb.capMax
 have hs0:=SH.entry1 hr
 refine sr (tA (I 0) r0 (nx (tm (pB rb) r0 ?_)))
 refine cL r0 (rdTake (rb:=rb) (Ab:=Ab) (cb:=cb) (bs:=bs) (sa:=sa) (sf:=sf) (n:=(1:Int)) (w:=_) (hr:=(blk_heap hs0 0 r0)) (hb:=(hb.up hs0 (fun _ h=>h) (fun _ h=>.inl h))) (hbv:=‹_›) (hsa:=‹_›) (hn:=(by omega))) ?_
 rintro _ w1 ⟨A1,c1,qa1,qf1,rfl,p1,p2,p3,hs1⟩
 replace hs1:=hs0.cK [0] [] hs1 r0
 refine ixw1 0 sl22 r0 r0 (hs1.sl0 1 r0) (by(simp; done)) (getm I 0 (by(simp; done))) trivial r0 (fun a1 ha1=>?_)
 refine qt r0 (lda (v:=I ((tkL bs (sa,sf) (1:Int).toNat).getD 0 0)) (SH.refl w1 []) ha1 (fun _ h=>h) r0 r0 one3) (tA (I ((tkL bs (sa,sf) (1:Int).toNat).getD 0 0)) r0 (nn (rt (fT (I ((tkL bs (sa,sf) (1:Int).toNat).getD 0 0)) r0 ?_))))
 have e1:(tkL bs (sa,sf) (1:Int).toNat).getD 0 0=byV bs (sa,sf):=by rfl
 exact⟨qa1,qf1,(congrArg (Value.int .i64) e1),‹_›,‹_›,‹_›,(hs1.pk [0] r0)⟩
theorem iNumber {Azs:Option Addr} {czs:Nat} (zs:List Int) (w:World) (hzs:Sl w [] 1 Azs zs.length czs (zs.map I)) (hz: ∀ x∈zs,0≤x∧x≤255) (hzl:zs.length≤2):Does Tryz.prog 174 [.slice Azs zs.length czs] w (fun v w'=>v=.int .i64 (ofB zs)∧SH w w' [] []):=by
 refine fE (N:=18) Tryz.func174 r0 (by kernel_rfl) r0 ?_
 have hs0:=SH.refl w []
 have hzs_m:zs.length≤9223372036854775807:=Nat.le_trans hzs.cap hzs.capMax
 refine sr (tA (I 0) r0 (nx (tA (I 0) r0 ?_)))
 refine nn (sq (sr (tm (Z13 Azs zs czs) r0 (qt r0 (lnA (n:=zs.length) sl22 r0) (tm (I 0) r0 ?_)))))
 refine nn (bl (lp (σ:=Nat) (fun(k:Nat) f w'=>Hz f [(3,I (ofB (zs.take k))),(6,.slice Azs zs.length czs),(7,I (zs.length:Int)),(8,I (k:Int))]∧(k≤zs.length)∧SH w w' [] []) (fun k=>zs.length-k) 0 ⟨(zH ⟨(show (I 0:Value)=I (ofB (zs.take 0)) from congrArg (Value.int .i64) (by rfl)),rfl,rfl,rfl,trivial⟩),(by simp),hs0⟩ ?_))
 rintro k f w1 ⟨⟨g1,rfl⟩,hk,hs1⟩
 refine sr (qt r0 (lss (k:=.i64) (a:=(k:Int)) (b:=(zs.length:Int)) r0 r0) (nn (sq ?_)))
 refine cdd (p:=(k:Int)<(zs.length:Int)) r0 (fun h1=>?_) (fun h1=>?_)
 ·refine sk (nN (sq (bl (sr (ixw1 k sl22 r0 r0 hzs (by(omega)) (getm I 0 (by(omega))) trivial r0 (fun a1 ha1=>?_))))))
  refine qt r0 (lda (v:=I (zs.getD k 0)) hs1 ha1 (fun _ h=>h) r0 r0 one3) (tA (I (zs.getD k 0)) r0 (nn (rg (tm (I (ofB (zs.take k))) r0 (qt r0 (shl8 (a:=ofB (zs.take k)) r0 r0 (by(have hob:=ofB_bd hz k hzl; have hgb:=getD_byte hz k; have hk1:k≤1:=(by omega); omega)) (by(have hob:=ofB_bd hz k hzl; have hgb:=getD_byte hz k; have hk1:k≤1:=(by omega); omega))) (tm (I (zs.getD k 0)) r0 ?_))))))
  refine qt r0 (or8 (m:=ofB (zs.take k)) (b:=zs.getD k 0) r0 r0 (by(have hob:=ofB_bd hz k hzl; have hgb:=getD_byte hz k; have hk1:k≤1:=(by omega); omega)) (by(have hob:=ofB_bd hz k hzl; have hgb:=getD_byte hz k; have hk1:k≤1:=(by omega); omega)) (by(have hob:=ofB_bd hz k hzl; have hgb:=getD_byte hz k; have hk1:k≤1:=(by omega); omega)) (by(have hob:=ofB_bd hz k hzl; have hgb:=getD_byte hz k; have hk1:k≤1:=(by omega); omega))) (tA (I ((ofB (zs.take k))*256+(zs.getD k 0))) r0 (nl (bN (nN (rg (qt r0 (add (a:=(k:Int)) (b:=1) r0 r0 (by(exact⟨by omega,by omega⟩))) (tm (I ((k:Int)+1)) r0 ?_)))))))
  refine nn ?_
  refine⟨(k+1),⟨(zH ⟨(show (I ((ofB (zs.take k))*256+(zs.getD k 0)):Value)=I (ofB (zs.take (k+1))) from congrArg (Value.int .i64) (by rw[ofB_take (by omega)]; omega)),rfl,rfl,rfl,trivial⟩),(by omega),hs1⟩,?_⟩
  omega
 ·refine ex (tE (tE (bE ?_)))
  refine nN (sr (tm (I (ofB (zs.take k))) r0 (tA (I (ofB (zs.take k))) r0 (nn (rt ?_)))))
  refine fT (I (ofB (zs.take k))) r0 ?_
  have e1:ofB (zs.take k)=ofB zs:=by rw[List.take_of_length_le (by omega)]
  exact⟨(congrArg (Value.int .i64) e1),hs1⟩
theorem rdNumber {rb:Nat} {Ab:Option Addr} {cb:Nat} (bs:List Int) (sa:Nat) (sf:Bool) (n:Int) (w:World) (hr:w.heap[rb]?=some (.cells [.slice Ab bs.length cb,.int .i64 (sa:Int),.bool sf].toArray 133 (0,0))) (hb:Sl w [rb] 1 Ab bs.length cb (bs.map I)) (hbv:sf=false→isBytes bs=true) (hsa:sa≤bs.length) (hn:0≤n∧n≤2):Does Tryz.prog 153 [pB rb,I n] w (fun v w'=>∃ qa:Nat,∃ qf:Bool,v=.int .i64 (ofB (tkL bs (sa,sf) n.toNat))∧(qa≤bs.length)∧((qf=false→isBytes bs=true))∧((qa,qf)=tkS bs (sa,sf) n.toNat)∧SH w w' [rb] [.blk rb 133 [.slice Ab bs.length cb,I (qa:Int),.bool qf]]):=by
 refine fE (N:=9) Tryz.func153 r0 (by kernel_rfl) r0 ?_
 have hb_m:bs.length≤9223372036854775807:=Nat.le_trans hb.cap hb.capMax
 have hs0:=SH.entry1 hr
 refine sr (tA (I 0) r0 (nx (tm (pB rb) r0 ?_)))
 refine tm (I n) r0 (cL r0 (rdTake (rb:=rb) (Ab:=Ab) (cb:=cb) (bs:=bs) (sa:=sa) (sf:=sf) (n:=n) (w:=_) (hr:=(blk_heap hs0 0 r0)) (hb:=(hb.up hs0 (fun _ h=>h) (fun _ h=>.inl h))) (hbv:=‹_›) (hsa:=‹_›) (hn:=(by omega))) ?_)
 rintro _ w1 ⟨A1,c1,qa1,qf1,rfl,p1,p2,p3,hs1⟩
 replace hs1:=hs0.cK [0] [] hs1 r0
 refine cL r0 (iNumber (Azs:=A1) (czs:=c1) (zs:=tkL bs (sa,sf) n.toNat) (w:=_) (hzs:=(hs1.sl0 1 r0)) (hz:=(by exact tkL_byte hbv)) (hzl:=(by(simp; omega)))) ?_
 rintro _ w2 ⟨rfl,hs2⟩
 replace hs2:=hs1.call0 hs2
 refine tA (I (ofB (tkL bs (sa,sf) n.toNat))) r0 (nn (rt (fT (I (ofB (tkL bs (sa,sf) n.toNat))) r0 ?_)))
 exact⟨qa1,qf1,rfl,‹_›,‹_›,‹_›,(hs2.pk [0] r0)⟩
theorem rdExpect {rb:Nat} {Ab:Option Addr} {cb:Nat} (bs:List Int) (sa:Nat) (sf:Bool) {Aws:Option Addr} {cws:Nat} (ws:List Int) (w:World) (hr:w.heap[rb]?=some (.cells [.slice Ab bs.length cb,.int .i64 (sa:Int),.bool sf].toArray 133 (0,0))) (hb:Sl w [rb] 1 Ab bs.length cb (bs.map I)) (hbv:sf=false→isBytes bs=true) (hsa:sa≤bs.length) (hws:Sl w [rb] 1 Aws ws.length cws (ws.map I)) (hw:ws.length≤65535):Does Tryz.prog 118 [pB rb,.slice Aws ws.length cws] w (fun v w'=>∃ qa:Nat,∃ qf:Bool,v=.tuple #[]∧(qa≤bs.length)∧((qf=false→isBytes bs=true))∧((qa,qf)=exS bs (sa,sf) ws)∧SH w w' [rb] [.blk rb 133 [.slice Ab bs.length cb,I (qa:Int),.bool qf]]):=by
 refine fE (N:=14) Tryz.func118 r0 (by kernel_rfl) r0 ?_
 have hb_m:bs.length≤9223372036854775807:=Nat.le_trans hb.cap hb.capMax
 have hs0:=SH.entry1 hr
 have hws_m:ws.length≤9223372036854775807:=Nat.le_trans hws.cap hws.capMax
 refine sr (tm (pB rb) r0 (tm (Z13 Aws ws cws) r0 (qt r0 (lnA (n:=ws.length) sl22 r0) (cL r0 (rdTake (rb:=rb) (Ab:=Ab) (cb:=cb) (bs:=bs) (sa:=sa) (sf:=sf) (n:=(ws.length:Int)) (w:=_) (hr:=(blk_heap hs0 0 r0)) (hb:=(hb.up hs0 (fun _ h=>h) (fun _ h=>.inl h))) (hbv:=‹_›) (hsa:=‹_›) (hn:=(by omega))) ?_))))
 rintro _ w1 ⟨A1,c1,qa1,qf1,rfl,p1,p2,p3,hs1⟩
 replace hs1:=hs0.cK [0] [] hs1 r0
 refine tm (Z13 Aws ws cws) r0 (cL r0 (slEqual (Axs:=A1) (cxs:=c1) (xs:=tkL bs (sa,sf) (ws.length:Int).toNat) (Abs:=Aws) (cbs:=cws) (bs:=ws) (w:=_) (hxs:=(hs1.sl0 1 r0)) (hbs:=(hws.up hs1 (fun _ h=>h) (by simp)))) ?_)
 rintro _ w2 ⟨rfl,hs2⟩
 replace hs2:=hs1.call0 hs2
 refine qt r0 (nd (p:=(tkL bs (sa,sf) (ws.length:Int).toNat)=ws) r0) (nn ?_)
 refine cdd (p:=¬ ((tkL bs (sa,sf) (ws.length:Int).toNat)=ws)) r0 (fun h1=>?_) (fun h1=>?_)
 ·refine rg (tm (pB rb) r0 (tn r0 (qt r0 (fa 2 fo133_2 r0) (sT (.bool true) hs2 0 r0 one4 (fun w3 hs3=>?_)))))
  refine nl (fnor (v:=.tuple #[]) .nil r0 ?_)
  exact⟨qa1,true,rfl,‹_›,(by(simp_all; done)),(by exact exS_no ‹_› (by simpa using h1)),(hs3.pk [1] r0)⟩
 ·refine sk (fnor (v:=.tuple #[]) .nil r0 ?_)
  exact⟨qa1,qf1,rfl,‹_›,‹_›,(by exact exS_y ‹_› (by simpa using h1)),(hs2.pk [0] r0)⟩
theorem iBytesText {Azs:Option Addr} {czs:Nat} (zs:List Int) (w:World) (hzs:Sl w [] 1 Azs zs.length czs (zs.map I)) (hz: ∀ x∈zs,0≤x∧x≤255) (hzl:zs.length≤65535):Does Tryz.prog 173 [.slice Azs zs.length czs] w (fun v w'=>v=Str (bT zs)∧SH w w' [] []):=by
 refine fE (N:=24) Tryz.func173 r0 (by kernel_rfl) r0 ?_
 have hs0:=SH.refl w []
 have hzs_m:zs.length≤9223372036854775807:=Nat.le_trans hzs.cap hzs.capMax
 refine sr (tA (Str []) r0 (nx (tm (Z13 Azs zs czs) r0 ?_)))
 refine qt r0 (lnA (n:=zs.length) sl22 r0) (mkm (g:=U) (z:=0) (n:=zs.length) hs0 sl39 r0 r0 r0 (by omega) (by unfold maxLen; omega) trivial r0 (fun b1 w1 hs1=>?_))
 refine tA (sb b1 ((List.replicate zs.length (0:UInt8)).length) zs.length) r0 (nn (sq (sr (tm (Z13 Azs zs czs) r0 (qt r0 (lnA (n:=zs.length) sl22 r0) ?_)))))
 refine tm (I 0) r0 (nn (bl ?_))
 have e1:List.replicate zs.length (0:UInt8)=(bT zs).take 0++List.replicate (zs.length-0) (0:UInt8):=by simp
 have e2:(List.replicate zs.length (0:UInt8)).length=zs.length:=by(simp; done)
 refine lp (σ:=Nat) (fun(k:Nat) f w'=>Hz f [(3,sb b1 zs.length zs.length),(9,.slice Azs zs.length czs),(10,I (zs.length:Int)),(11,I (k:Int))]∧(k≤zs.length)∧SH w w' [] [.own (Z6 b1) zs.length zs.length 5 1 (((bT zs).take k++List.replicate (zs.length-k) (0:UInt8)).map U)]) (fun k=>zs.length-k) 0 ⟨(zH ⟨(show (.slice (Z6 b1) ((List.replicate zs.length (0:UInt8)).length) zs.length:Value)=.slice (Z6 b1) zs.length zs.length from slv r0 e2 r0),rfl,rfl,rfl,trivial⟩),(by simp),(hs1.cast (lc (own_eq (g:=U) r0 e2 r0 e1) r0))⟩ ?_
 rintro k f w2 ⟨⟨g1,rfl⟩,hk,hs2⟩
 refine sr (qt r0 (lss (k:=.i64) (a:=(k:Int)) (b:=(zs.length:Int)) r0 r0) (nn (sq ?_)))
 refine cdd (p:=(k:Int)<(zs.length:Int)) r0 (fun h1=>?_) (fun h1=>?_)
 ·refine sk (nN (sq (bl (sr (tm (I (k:Int)) r0 (ixw1 k sl22 r0 r0 hzs (by omega) (getm I 0 (by omega)) trivial r0 (fun a1 ha1=>?_)))))))
  refine qt r0 (lda (v:=I (zs.getD k 0)) hs2 ha1 (fun _ h=>h) r0 r0 one3) (tA (I (k:Int)) r0 (tA (I (zs.getD k 0)) r0 (nn (rg (tm (sb b1 zs.length zs.length) r0 (tm (I (k:Int)) r0 ?_))))))
  refine tm (I (zs.getD k 0)) r0 (qt r0 (cvB (a:=zs.getD k 0) (s:=.i64) ti3 ti5 r0 (by have hgb:=getD_byte hz k; omega) (by have hgb:=getD_byte hz k; omega)) (qt r0 (ixo k sl39 r0 r0 (by omega)) (stomn (g:=U) (ys:=(bT zs).take k++List.replicate (zs.length-k) (0:UInt8)) (o:=k) (u:=(UInt8.ofNat (zs.getD k 0).toNat)) hs2 0 r0 r0 r0 r0 (by omega) r0 one5 trivial (fun w3 hs3=>?_))))
  refine nl (bN (nN (rg (qt r0 (add (a:=(k:Int)) (b:=1) r0 r0 (by exact⟨by omega,by omega⟩)) (tm (I ((k:Int)+1)) r0 (nn ?_))))))
  have e3:((bT zs).take k++List.replicate (zs.length-k) (0:UInt8)).set k (UInt8.ofNat (zs.getD k 0).toNat)=(bT zs).take (k+1)++List.replicate (zs.length-(k+1)) (0:UInt8):=by exact bT_set (by omega)
  refine⟨(k+1),⟨(zR r0),(by omega),(hs3.cast (lc (own_eq (g:=U) r0 r0 r0 e3) r0))⟩,?_⟩
  omega
 ·refine ex (tE (tE (bE ?_)))
  refine nN (sr (tm (sb b1 zs.length zs.length) r0 ?_))
  have e4:zs.length=((bT zs).take k++List.replicate (zs.length-k) (0:UInt8)).length:=by(simp; omega)
  have hs4:SH w w2 [] [.own (Z6 b1) (((bT zs).take k++List.replicate (zs.length-k) (0:UInt8)).length) zs.length 5 1 (((bT zs).take k++List.replicate (zs.length-k) (0:UInt8)).map U)]:=(hs2.cast (lc (own_eq (g:=U) r0 e4 r0 r0) r0))
  refine re 22 (v:=sb b1 (((bT zs).take k++List.replicate (zs.length-k) (0:UInt8)).length) zs.length) (show (sb b1 zs.length zs.length:Value)=sb b1 (((bT zs).take k++List.replicate (zs.length-k) (0:UInt8)).length) zs.length from slv r0 e4 r0) (qt r0 (cvS (l:=(bT zs).take k++List.replicate (zs.length-k) (0:UInt8)) us39 ti5 st9 r0 (hs4.sl0 0 r0)) (tA (Str ((bT zs).take k++List.replicate (zs.length-k) (0:UInt8))) r0 (nn (rt (fT (Str ((bT zs).take k++List.replicate (zs.length-k) (0:UInt8))) r0 ?_)))))
  have e5:(bT zs).take k++List.replicate (zs.length-k) (0:UInt8)=bT zs:=by have:k=zs.length:=(by omega); subst this; rw[bT_all (Nat.le_refl _)]; simp
  exact⟨(congrArg (Str) e5),(hs4.pk [] r0)⟩
theorem rdText {rb:Nat} {Ab:Option Addr} {cb:Nat} (bs:List Int) (sa:Nat) (sf:Bool) (w:World) (hr:w.heap[rb]?=some (.cells [.slice Ab bs.length cb,.int .i64 (sa:Int),.bool sf].toArray 133 (0,0))) (hb:Sl w [rb] 1 Ab bs.length cb (bs.map I)) (hbv:sf=false→isBytes bs=true) (hsa:sa≤bs.length):Does Tryz.prog 150 [pB rb] w (fun v w'=>∃ qa:Nat,∃ qf:Bool,v=Str (txV bs (sa,sf))∧(qa≤bs.length)∧((qf=false→isBytes bs=true))∧((qa,qf)=txS bs (sa,sf))∧SH w w' [rb] [.blk rb 133 [.slice Ab bs.length cb,I (qa:Int),.bool qf]]):=by
 refine fE (N:=8) Tryz.func150 r0 (by kernel_rfl) r0 ?_
 have hb_m:bs.length≤9223372036854775807:=Nat.le_trans hb.cap hb.capMax
 have hs0:=SH.entry1 hr
 refine sr (tA (Str []) r0 (nx (tm (pB rb) r0 ?_)))
 refine tm (pB rb) r0 (cL r0 (rdByte (rb:=rb) (Ab:=Ab) (cb:=cb) (bs:=bs) (sa:=sa) (sf:=sf) (w:=_) (hr:=(blk_heap hs0 0 r0)) (hb:=(hb.up hs0 (fun _ h=>h) (fun _ h=>.inl h))) (hbv:=‹_›) (hsa:=(by(first | assumption | omega | (simp; done))))) ?_)
 rintro _ w1 ⟨qa1,qf1,rfl,p1,p2,p3,hs1⟩
 replace hs1:=hs0.cK [0] [] hs1 r0
 refine cL r0 (rdTake (rb:=rb) (Ab:=Ab) (cb:=cb) (bs:=bs) (sa:=qa1) (sf:=qf1) (n:=byV bs (sa,sf)) (w:=_) (hr:=(blk_heap hs1 0 r0)) (hb:=(hb.up hs1 (fun _ h=>h) (fun _ h=>.inl h))) (hbv:=‹_›) (hsa:=(by(first | assumption | omega | (simp; done)))) (hn:=(by(have hbd:=byV_bd (bs:=bs) (s:=(sa,sf)) hbv; first | omega | assumption | (simp; done) | (simp; omega))))) ?_
 rintro _ w2 ⟨A1,c1,qa2,qf2,rfl,p4,p5,p6,hs2⟩
 replace hs2:=hs1.cK [0] [] hs2 r0
 refine cL r0 (iBytesText (Azs:=A1) (czs:=c1) (zs:=tkL bs (qa1,qf1) (byV bs (sa,sf)).toNat) (w:=_) (hzs:=(hs2.sl0 1 r0)) (hz:=(by exact tkL_byte ‹_›)) (hzl:=(by have hbd:=byV_bd (bs:=bs) (s:=(sa,sf)) hbv; simp; omega))) ?_
 rintro _ w3 ⟨rfl,hs3⟩
 replace hs3:=hs2.call0 hs3
 refine tA (Str (bT (tkL bs (qa1,qf1) (byV bs (sa,sf)).toNat))) r0 (nn (rt (fT (Str (bT (tkL bs (qa1,qf1) (byV bs (sa,sf)).toNat))) r0 ?_)))
 have e1:bT (tkL bs (qa1,qf1) (byV bs (sa,sf)).toNat)=txV bs (sa,sf):=by(unfold txV; rw[← p3])
 exact⟨qa2,qf2,(congrArg (Str) e1),‹_›,‹_›,(by(unfold txS; rw[← p3]; exact p6)),(hs3.pk [0] r0)⟩
theorem rdAddress {rb:Nat} {Ab:Option Addr} {cb:Nat} (bs:List Int) (sa:Nat) (sf:Bool) (w:World) (hr:w.heap[rb]?=some (.cells [.slice Ab bs.length cb,.int .i64 (sa:Int),.bool sf].toArray 133 (0,0))) (hb:Sl w [rb] 1 Ab bs.length cb (bs.map I)) (hbv:sf=false→isBytes bs=true) (hsa:sa≤bs.length):Does Tryz.prog 120 [pB rb] w (fun v w'=>∃ Ar:Option Addr,∃ cr:Nat,∃ qa:Nat,∃ qf:Bool,v=.agg #[.int .i64 ((adR bs (sa,sf)).1.1),.slice Ar ((adR bs (sa,sf)).1.2.1).length cr,Str ((adR bs (sa,sf)).1.2.2.1),.int .i64 ((adR bs (sa,sf)).1.2.2.2)]∧(qa≤bs.length)∧((qf=false→isBytes bs=true))∧((qa,qf)=(adR bs (sa,sf)).2)∧SH w w' [rb] [.blk rb 133 [.slice Ab bs.length cb,I (qa:Int),.bool qf],.own Ar (((adR bs (sa,sf)).1.2.1).length) cr 3 1 (((adR bs (sa,sf)).1.2.1).map I)]):=by
 refine fE (N:=29) Tryz.func120 r0 (by kernel_rfl) r0 ?_
 have hb_m:bs.length≤9223372036854775807:=Nat.le_trans hb.cap hb.capMax
 have hs0:SH w w [rb] [.blk rb 133 [(Z10 Ab bs cb),I (sa:Int),.bool sf]]:=SH.entry1 hr
 refine sr (al (v:=.agg #[I 0,ns,Str [],I 0]) (cs:=[I 0,ns,Str [],I 0]) hs0 tz43 r0 trivial r0 (fun b1 w1 hs1=>?_))
 refine nx (al (v:=.agg #[I 0,ns,Str [],I 0]) (cs:=[I 0,ns,Str [],I 0]) hs1 tz43 r0 trivial r0 (fun b2 w2 hs2=>?_))
 refine nx (tm (pB rb) r0 (cL r0 (rdByte (rb:=rb) (Ab:=Ab) (cb:=cb) (bs:=bs) (sa:=sa) (sf:=sf) (w:=_) (hr:=(blk_heap hs2 0 r0)) (hb:=(hb.up hs2 (fun _ h=>h) (fun _ h=>.inl h))) (hbv:=‹_›) (hsa:=(by(first | assumption | omega | (simp; done))))) ?_))
 rintro _ w3 ⟨qa1,qf1,rfl,p1,p2,p3,hs3⟩
 replace hs3:SH w w3 [rb] [(Z14 b1),(Z14 b2),.blk rb 133 [(Z10 Ab bs cb),I (qa1:Int),.bool qf1]]:=SH.callK (K:=[.blk rb 133 [(Z10 Ab bs cb),I (sa:Int),.bool sf]]) (R:=[(Z14 b1),(Z14 b2)]) hs2 hs3 r0
 refine qt r0 (fa 0 fo43_0 r0) (sT (I (byV bs (sa,sf))) hs3 1 r0 one3 (fun w4 hs4=>?_))
 refine nn (sq (sr (qt r0 (fa 0 fo43_0 r0) (qt r0 (lD (I (byV bs (sa,sf))) hs4 2 r0 one3) (nl ?_)))))
 refine nN (bl (sr (qt r0 (eqi (k:=.i64) (a:=byV bs (sa,sf)) (b:=1) r0 r0) (tA (.bool (decide ((byV bs (sa,sf))=1))) r0 (nn ?_)))))
 refine cdd (p:=(byV bs (sa,sf))=1) r0 (fun h1=>?_) (fun h1=>?_)
 ·refine rg (tm (pB rb) r0 (cL r0 (rdTake (rb:=rb) (Ab:=Ab) (cb:=cb) (bs:=bs) (sa:=qa1) (sf:=qf1) (n:=(4:Int)) (w:=_) (hr:=(blk_heap hs4 1 r0)) (hb:=(hb.up hs4 (fun _ h=>h) (fun _ h=>.inl h))) (hbv:=‹_›) (hsa:=(by(first | assumption | omega | (simp; done)))) (hn:=(by(first | omega | assumption | (simp; done) | (simp; omega))))) ?_))
  rintro _ w5 ⟨A1,c1,qa2,qf2,rfl,p4,p5,p6,hs5⟩
  replace hs5:=hs4.cK [1] [0,2] hs5 r0
  refine qt r0 (fa 1 fo43_1 r0) (sT (.slice A1 ((tkL bs (qa1,qf1) (4:Int).toNat).length) c1) hs5 1 r0 one22 (fun w6 (hs6:SH w w6 [rb] [(Z14 b1),.blk rb 133 [(Z10 Ab bs cb),I (qa2:Int),.bool qf2],.own A1 ((tkL bs (qa1,qf1) (4:Int).toNat).length) c1 3 1 ((tkL bs (qa1,qf1) (4:Int).toNat).map I),.blk b2 43 [I (byV bs (sa,sf)),.slice A1 ((tkL bs (qa1,qf1) (4:Int).toNat).length) c1,Str [],I 0]])=>?_))
  refine nl (bN (nN (sr (tm (pB rb) r0 (cL r0 (rdNumber (rb:=rb) (Ab:=Ab) (cb:=cb) (bs:=bs) (sa:=qa2) (sf:=qf2) (n:=(2:Int)) (w:=_) (hr:=(blk_heap hs6 1 r0)) (hb:=(hb.up hs6 (fun _ h=>h) (fun _ h=>.inl h))) (hbv:=‹_›) (hsa:=(by(first | assumption | omega | (simp; done)))) (hn:=(by(first | omega | assumption | (simp; done) | (simp; omega))))) ?_)))))
  rintro _ w7 ⟨qa3,qf3,rfl,p7,p8,p9,hs7⟩
  replace hs7:=hs6.cK [1] [0,2,3] hs7 r0
  refine qt r0 (fa 3 fo43_3 r0) (sT (I (ofB (tkL bs (qa2,qf2) (2:Int).toNat))) hs7 2 r0 one3 (fun w8 hs8=>?_))
  refine nn (sq (sr (qt r0 (lG [I (byV bs (sa,sf)),.slice A1 ((tkL bs (qa1,qf1) (4:Int).toNat).length) c1,Str [],I (ofB (tkL bs (qa2,qf2) (2:Int).toNat))] hs8 3 r0 ag43) (cL r0 (iAddressValid (ak:=byV bs (sa,sf)) (Aaq:=A1) (caq:=c1) (aq:=tkL bs (qa1,qf1) (4:Int).toNat) (an:=[]) (apt:=ofB (tkL bs (qa2,qf2) (2:Int).toNat)) (w:=_) (haq:=(hs8.sl0 1 r0)) (han_n:=(by((simp; done))))) ?_))))
  rintro _ w9 ⟨rfl,hs9⟩
  replace hs9:=hs8.call0 hs9
  refine qt r0 (nt (b:=addrOk (byV bs (sa,sf)) (tkL bs (qa1,qf1) (4:Int).toNat) [] (ofB (tkL bs (qa2,qf2) (2:Int).toNat))) r0) (nn ?_)
  refine cd (b:=!(addrOk (byV bs (sa,sf)) (tkL bs (qa1,qf1) (4:Int).toNat) [] (ofB (tkL bs (qa2,qf2) (2:Int).toNat)))) r0 (fun h2=>?_) (fun h2=>?_)
  ·have h3:(addrOk (byV bs (sa,sf)) (tkL bs (qa1,qf1) (4:Int).toNat) [] (ofB (tkL bs (qa2,qf2) (2:Int).toNat)))=false:=by simpa using h2
   refine rg (tm (pB rb) r0 (tn r0 (qt r0 (fa 2 fo133_2 r0) (sT (.bool true) hs9 2 r0 one4 (fun w10 hs10=>?_)))))
   refine nx (qt r0 (lG [I (byV bs (sa,sf)),.slice A1 ((tkL bs (qa1,qf1) (4:Int).toNat).length) c1,Str [],I (ofB (tkL bs (qa2,qf2) (2:Int).toNat))] hs10 2 r0 ag43) (sG [I (byV bs (sa,sf)),.slice A1 ((tkL bs (qa1,qf1) (4:Int).toNat).length) c1,Str [],I (ofB (tkL bs (qa2,qf2) (2:Int).toNat))] hs10 0 r0 ag43 (fun w11 hs11=>?_)))
   refine nn (rt (fret (v:=.agg #[I (byV bs (sa,sf)),.slice A1 ((tkL bs (qa1,qf1) (4:Int).toNat).length) c1,Str [],I (ofB (tkL bs (qa2,qf2) (2:Int).toNat))]) (resC hs11 3 r0 r0 ag43 r0 .nil) r0 ?_))
   have e1:byV bs (sa,sf)=(adR bs (sa,sf)).1.1:=by(rw[adR_1 p3 ‹_› p6 p9]; done)
   have e2:tkL bs (qa1,qf1) (4:Int).toNat=(adR bs (sa,sf)).1.2.1:=by(rw[adR_1 p3 ‹_› p6 p9]; rfl)
   have e3:=congrArg List.length e2
   have e4:[]=(adR bs (sa,sf)).1.2.2.1:=by(rw[adR_1 p3 ‹_› p6 p9]; done)
   have e5:ofB (tkL bs (qa2,qf2) (2:Int).toNat)=(adR bs (sa,sf)).1.2.2.2:=by(rw[adR_1 p3 ‹_› p6 p9]; rfl)
   exact⟨A1,c1,qa3,true,(aggv (lc (congrArg (Value.int .i64) e1) (lc (slv r0 e3 r0) (lc (congrArg (Str) e4) (lc (congrArg (Value.int .i64) e5) r0))))),‹_›,(by(simp_all; done)),(by(rw[adR_1 p3 ‹_› p6 p9]; exact(if_neg (by simp_all)).symm)),((hs11.pq [2,0] r0).cast (lc r0 (lc (own_eq (g:=I) r0 e3 r0 e2) r0)))⟩
  ·have h4:(addrOk (byV bs (sa,sf)) (tkL bs (qa1,qf1) (4:Int).toNat) [] (ofB (tkL bs (qa2,qf2) (2:Int).toNat)))=true:=by simpa using h2
   refine sk (nN (sr (qt r0 (lG [I (byV bs (sa,sf)),.slice A1 ((tkL bs (qa1,qf1) (4:Int).toNat).length) c1,Str [],I (ofB (tkL bs (qa2,qf2) (2:Int).toNat))] hs9 3 r0 ag43) (sG [I (byV bs (sa,sf)),.slice A1 ((tkL bs (qa1,qf1) (4:Int).toNat).length) c1,Str [],I (ofB (tkL bs (qa2,qf2) (2:Int).toNat))] hs9 0 r0 ag43 (fun w12 (hs12:SH w w12 [rb] [.own A1 ((tkL bs (qa1,qf1) (4:Int).toNat).length) c1 3 1 ((tkL bs (qa1,qf1) (4:Int).toNat).map I),.blk rb 133 [(Z10 Ab bs cb),I (qa3:Int),.bool qf3],.blk b2 43 [I (byV bs (sa,sf)),.slice A1 ((tkL bs (qa1,qf1) (4:Int).toNat).length) c1,Str [],I (ofB (tkL bs (qa2,qf2) (2:Int).toNat))],.blk b1 43 [I (byV bs (sa,sf)),.slice A1 ((tkL bs (qa1,qf1) (4:Int).toNat).length) c1,Str [],I (ofB (tkL bs (qa2,qf2) (2:Int).toNat))]])=>?_)))))
   refine nn (rt (fret (v:=.agg #[I (byV bs (sa,sf)),.slice A1 ((tkL bs (qa1,qf1) (4:Int).toNat).length) c1,Str [],I (ofB (tkL bs (qa2,qf2) (2:Int).toNat))]) (resC hs12 3 r0 r0 ag43 r0 .nil) r0 ?_))
   have e6:byV bs (sa,sf)=(adR bs (sa,sf)).1.1:=by(rw[adR_1 p3 ‹_› p6 p9]; done)
   have e7:tkL bs (qa1,qf1) (4:Int).toNat=(adR bs (sa,sf)).1.2.1:=by(rw[adR_1 p3 ‹_› p6 p9]; rfl)
   have e8:=congrArg List.length e7
   have e9:[]=(adR bs (sa,sf)).1.2.2.1:=by(rw[adR_1 p3 ‹_› p6 p9]; done)
   have e10:ofB (tkL bs (qa2,qf2) (2:Int).toNat)=(adR bs (sa,sf)).1.2.2.2:=by(rw[adR_1 p3 ‹_› p6 p9]; rfl)
   exact⟨A1,c1,qa3,qf3,(aggv (lc (congrArg (Value.int .i64) e6) (lc (slv r0 e8 r0) (lc (congrArg (Str) e9) (lc (congrArg (Value.int .i64) e10) r0))))),‹_›,‹_›,(by(rw[adR_1 p3 ‹_› p6 p9]; exact(if_pos ‹_›).symm)),((hs12.pq [1,0] r0).cast (lc r0 (lc (own_eq (g:=I) r0 e8 r0 e7) r0)))⟩
 ·refine sr (qt r0 (eqi (k:=.i64) (a:=byV bs (sa,sf)) (b:=3) r0 r0) (tA (.bool (decide ((byV bs (sa,sf))=3))) r0 (nn ?_)))
  refine cdd (p:=(byV bs (sa,sf))=3) r0 (fun h5=>?_) (fun h5=>?_)
  ·refine rg (tm (pB rb) r0 (cL r0 (rdText (rb:=rb) (Ab:=Ab) (cb:=cb) (bs:=bs) (sa:=qa1) (sf:=qf1) (w:=_) (hr:=(blk_heap hs4 1 r0)) (hb:=(hb.up hs4 (fun _ h=>h) (fun _ h=>.inl h))) (hbv:=‹_›) (hsa:=(by(first | assumption | omega | (simp; done))))) ?_))
   rintro _ w13 ⟨qa4,qf4,rfl,p10,p11,p12,hs13⟩
   replace hs13:=hs4.cK [1] [0,2] hs13 r0
   refine qt r0 (fa 2 fo43_2 r0) (sT (Str (txV bs (qa1,qf1))) hs13 1 r0 one9 (fun w14 hs14=>?_))
   refine nl (bN (nN (sr (tm (pB rb) r0 (cL r0 (rdNumber (rb:=rb) (Ab:=Ab) (cb:=cb) (bs:=bs) (sa:=qa4) (sf:=qf4) (n:=(2:Int)) (w:=_) (hr:=(blk_heap hs14 1 r0)) (hb:=(hb.up hs14 (fun _ h=>h) (fun _ h=>.inl h))) (hbv:=‹_›) (hsa:=(by(first | assumption | omega | (simp; done)))) (hn:=(by(first | omega | assumption | (simp; done) | (simp; omega))))) ?_)))))
   rintro _ w15 ⟨qa5,qf5,rfl,p13,p14,p15,hs15⟩
   replace hs15:SH w w15 [rb] [(Z14 b1),.blk b2 43 [I (byV bs (sa,sf)),ns,Str (txV bs (qa1,qf1)),I 0],.blk rb 133 [(Z10 Ab bs cb),I (qa5:Int),.bool qf5]]:=SH.callK (K:=[.blk rb 133 [(Z10 Ab bs cb),I (qa4:Int),.bool qf4]]) (R:=[(Z14 b1),.blk b2 43 [I (byV bs (sa,sf)),ns,Str (txV bs (qa1,qf1)),I 0]]) (hs14.pk [1,0,2] r0) hs15 r0
   refine qt r0 (fa 3 fo43_3 r0) (sT (I (ofB (tkL bs (qa4,qf4) (2:Int).toNat))) hs15 1 r0 one3 (fun w16 hs16=>?_))
   refine nn (sq (sr (qt r0 (lG [I (byV bs (sa,sf)),ns,Str (txV bs (qa1,qf1)),I (ofB (tkL bs (qa4,qf4) (2:Int).toNat))] hs16 2 r0 ag43) (cL r0 (iAddressValid (ak:=byV bs (sa,sf)) (Aaq:=none) (caq:=0) (aq:=([]:List Int)) (an:=txV bs (qa1,qf1)) (apt:=ofB (tkL bs (qa4,qf4) (2:Int).toNat)) (w:=_) (haq:=Sl.nil) (han_n:=(by(have htv:=txV_len (bs:=bs) (s:=(qa1,qf1)) p2; omega)))) ?_))))
   rintro _ w17 ⟨rfl,hs17⟩
   replace hs17:=hs16.call0 hs17
   refine qt r0 (nt (b:=addrOk (byV bs (sa,sf)) ([]:List Int) (txV bs (qa1,qf1)) (ofB (tkL bs (qa4,qf4) (2:Int).toNat))) r0) (nn ?_)
   refine cd (b:=!(addrOk (byV bs (sa,sf)) ([]:List Int) (txV bs (qa1,qf1)) (ofB (tkL bs (qa4,qf4) (2:Int).toNat)))) r0 (fun h6=>?_) (fun h6=>?_)
   ·have h7:(addrOk (byV bs (sa,sf)) ([]:List Int) (txV bs (qa1,qf1)) (ofB (tkL bs (qa4,qf4) (2:Int).toNat)))=false:=by simpa using h6
    refine rg (tm (pB rb) r0 (tn r0 (qt r0 (fa 2 fo133_2 r0) (sT (.bool true) hs17 1 r0 one4 (fun w18 (hs18:SH w w18 [rb] [(Z14 b1),.blk b2 43 [I (byV bs (sa,sf)),ns,Str (txV bs (qa1,qf1)),I (ofB (tkL bs (qa4,qf4) (2:Int).toNat))],.blk rb 133 [(Z10 Ab bs cb),I (qa5:Int),.bool true]])=>?_)))))
    refine nx (qt r0 (lG [I (byV bs (sa,sf)),ns,Str (txV bs (qa1,qf1)),I (ofB (tkL bs (qa4,qf4) (2:Int).toNat))] hs18 1 r0 ag43) (sG [I (byV bs (sa,sf)),ns,Str (txV bs (qa1,qf1)),I (ofB (tkL bs (qa4,qf4) (2:Int).toNat))] hs18 0 r0 ag43 (fun w19 hs19=>?_)))
    refine nn (rt (fret (v:=.agg #[I (byV bs (sa,sf)),ns,Str (txV bs (qa1,qf1)),I (ofB (tkL bs (qa4,qf4) (2:Int).toNat))]) (resC hs19 2 r0 r0 ag43 r0 .nil) r0 ?_))
    have hs20:=hs19.nl [.own none (([]:List Int).length) 0 3 1 (([]:List Int).map I)] r0
    have e11:byV bs (sa,sf)=(adR bs (sa,sf)).1.1:=by(rw[adR_3 p3 ‹_› ‹_› p12 p15]; done)
    have e12:([]:List Int)=(adR bs (sa,sf)).1.2.1:=by(rw[adR_3 p3 ‹_› ‹_› p12 p15]; done)
    have e13:=congrArg List.length e12
    have e14:txV bs (qa1,qf1)=(adR bs (sa,sf)).1.2.2.1:=by(rw[adR_3 p3 ‹_› ‹_› p12 p15]; done)
    have e15:ofB (tkL bs (qa4,qf4) (2:Int).toNat)=(adR bs (sa,sf)).1.2.2.2:=by(rw[adR_3 p3 ‹_› ‹_› p12 p15]; rfl)
    exact⟨none,0,qa5,true,(aggv (lc (congrArg (Value.int .i64) e11) (lc (slv r0 e13 r0) (lc (congrArg (Str) e14) (lc (congrArg (Value.int .i64) e15) r0))))),‹_›,(by(simp_all; done)),(by(rw[adR_3 p3 ‹_› ‹_› p12 p15]; exact(if_neg (by simp_all)).symm)),((hs20.pq [1,3] r0).cast (lc r0 (lc (own_eq (g:=I) r0 e13 r0 e12) r0)))⟩
   ·have h8:(addrOk (byV bs (sa,sf)) ([]:List Int) (txV bs (qa1,qf1)) (ofB (tkL bs (qa4,qf4) (2:Int).toNat)))=true:=by simpa using h6
    refine sk (nN (sr (qt r0 (lG [I (byV bs (sa,sf)),ns,Str (txV bs (qa1,qf1)),I (ofB (tkL bs (qa4,qf4) (2:Int).toNat))] hs17 2 r0 ag43) (sG [I (byV bs (sa,sf)),ns,Str (txV bs (qa1,qf1)),I (ofB (tkL bs (qa4,qf4) (2:Int).toNat))] hs17 0 r0 ag43 (fun w20 (hs21:SH w w20 [rb] [.blk rb 133 [(Z10 Ab bs cb),I (qa5:Int),.bool qf5],.blk b2 43 [I (byV bs (sa,sf)),ns,Str (txV bs (qa1,qf1)),I (ofB (tkL bs (qa4,qf4) (2:Int).toNat))],.blk b1 43 [I (byV bs (sa,sf)),ns,Str (txV bs (qa1,qf1)),I (ofB (tkL bs (qa4,qf4) (2:Int).toNat))]])=>?_)))))
    refine nn (rt (fret (v:=.agg #[I (byV bs (sa,sf)),ns,Str (txV bs (qa1,qf1)),I (ofB (tkL bs (qa4,qf4) (2:Int).toNat))]) (resC hs21 2 r0 r0 ag43 r0 .nil) r0 ?_))
    have hs22:=hs21.nl [.own none (([]:List Int).length) 0 3 1 (([]:List Int).map I)] r0
    have e16:byV bs (sa,sf)=(adR bs (sa,sf)).1.1:=by(rw[adR_3 p3 ‹_› ‹_› p12 p15]; done)
    have e17:([]:List Int)=(adR bs (sa,sf)).1.2.1:=by(rw[adR_3 p3 ‹_› ‹_› p12 p15]; done)
    have e18:=congrArg List.length e17
    have e19:txV bs (qa1,qf1)=(adR bs (sa,sf)).1.2.2.1:=by(rw[adR_3 p3 ‹_› ‹_› p12 p15]; done)
    have e20:ofB (tkL bs (qa4,qf4) (2:Int).toNat)=(adR bs (sa,sf)).1.2.2.2:=by(rw[adR_3 p3 ‹_› ‹_› p12 p15]; rfl)
    exact⟨none,0,qa5,qf5,(aggv (lc (congrArg (Value.int .i64) e16) (lc (slv r0 e18 r0) (lc (congrArg (Str) e19) (lc (congrArg (Value.int .i64) e20) r0))))),‹_›,‹_›,(by(rw[adR_3 p3 ‹_› ‹_› p12 p15]; exact(if_pos ‹_›).symm)),((hs22.pq [0,3] r0).cast (lc r0 (lc (own_eq (g:=I) r0 e18 r0 e17) r0)))⟩
  ·refine sk (bN (nN (sr (tm (pB rb) r0 (cL r0 (rdNumber (rb:=rb) (Ab:=Ab) (cb:=cb) (bs:=bs) (sa:=qa1) (sf:=qf1) (n:=(2:Int)) (w:=_) (hr:=(blk_heap hs4 1 r0)) (hb:=(hb.up hs4 (fun _ h=>h) (fun _ h=>.inl h))) (hbv:=‹_›) (hsa:=(by(first | assumption | omega | (simp; done)))) (hn:=(by(first | omega | assumption | (simp; done) | (simp; omega))))) ?_)))))
   rintro _ w21 ⟨qa6,qf6,rfl,p16,p17,p18,hs23⟩
   replace hs23:=hs4.cK [1] [0,2] hs23 r0
   refine qt r0 (fa 3 fo43_3 r0) (sT (I (ofB (tkL bs (qa1,qf1) (2:Int).toNat))) hs23 1 r0 one3 (fun w22 (hs24:SH w w22 [rb] [(Z14 b1),.blk rb 133 [(Z10 Ab bs cb),I (qa6:Int),.bool qf6],.blk b2 43 [I (byV bs (sa,sf)),ns,Str [],I (ofB (tkL bs (qa1,qf1) (2:Int).toNat))]])=>?_))
   refine nn (sq (sr (qt r0 (lG [I (byV bs (sa,sf)),ns,Str [],I (ofB (tkL bs (qa1,qf1) (2:Int).toNat))] hs24 2 r0 ag43) (cL r0 (iAddressValid (ak:=byV bs (sa,sf)) (Aaq:=none) (caq:=0) (aq:=([]:List Int)) (an:=[]) (apt:=ofB (tkL bs (qa1,qf1) (2:Int).toNat)) (w:=_) (haq:=Sl.nil) (han_n:=(by((simp; done))))) ?_))))
   rintro _ w23 ⟨rfl,hs25⟩
   replace hs25:=hs24.call0 hs25
   refine qt r0 (nt (b:=addrOk (byV bs (sa,sf)) ([]:List Int) [] (ofB (tkL bs (qa1,qf1) (2:Int).toNat))) r0) (nn ?_)
   refine cd (b:=!(addrOk (byV bs (sa,sf)) ([]:List Int) [] (ofB (tkL bs (qa1,qf1) (2:Int).toNat)))) r0 (fun h9=>?_) (fun h9=>?_)
   ·have h10:(addrOk (byV bs (sa,sf)) ([]:List Int) [] (ofB (tkL bs (qa1,qf1) (2:Int).toNat)))=false:=by simpa using h9
    refine rg (tm (pB rb) r0 (tn r0 (qt r0 (fa 2 fo133_2 r0) (sT (.bool true) hs25 1 r0 one4 (fun w24 hs26=>?_)))))
    refine nx (qt r0 (lG [I (byV bs (sa,sf)),ns,Str [],I (ofB (tkL bs (qa1,qf1) (2:Int).toNat))] hs26 1 r0 ag43) (sG [I (byV bs (sa,sf)),ns,Str [],I (ofB (tkL bs (qa1,qf1) (2:Int).toNat))] hs26 0 r0 ag43 (fun w25 (hs27:SH w w25 [rb] [.blk b2 43 [I (byV bs (sa,sf)),ns,Str [],I (ofB (tkL bs (qa1,qf1) (2:Int).toNat))],.blk rb 133 [(Z10 Ab bs cb),I (qa6:Int),.bool true],.blk b1 43 [I (byV bs (sa,sf)),ns,Str [],I (ofB (tkL bs (qa1,qf1) (2:Int).toNat))]])=>?_)))
    refine nn (rt (fret (v:=.agg #[I (byV bs (sa,sf)),ns,Str [],I (ofB (tkL bs (qa1,qf1) (2:Int).toNat))]) (resC hs27 2 r0 r0 ag43 r0 .nil) r0 ?_))
    have hs28:=hs27.nl [.own none (([]:List Int).length) 0 3 1 (([]:List Int).map I)] r0
    have e21:byV bs (sa,sf)=(adR bs (sa,sf)).1.1:=by(rw[adR_0 p3 ‹_› ‹_› p18]; done)
    have e22:([]:List Int)=(adR bs (sa,sf)).1.2.1:=by(rw[adR_0 p3 ‹_› ‹_› p18]; done)
    have e23:=congrArg List.length e22
    have e24:[]=(adR bs (sa,sf)).1.2.2.1:=by(rw[adR_0 p3 ‹_› ‹_› p18]; done)
    have e25:ofB (tkL bs (qa1,qf1) (2:Int).toNat)=(adR bs (sa,sf)).1.2.2.2:=by(rw[adR_0 p3 ‹_› ‹_› p18]; rfl)
    exact⟨none,0,qa6,true,(aggv (lc (congrArg (Value.int .i64) e21) (lc (slv r0 e23 r0) (lc (congrArg (Str) e24) (lc (congrArg (Value.int .i64) e25) r0))))),‹_›,(by(simp_all; done)),(by(rw[adR_0 p3 ‹_› ‹_› p18]; exact(if_neg (by simp_all)).symm)),((hs28.pq [1,3] r0).cast (lc r0 (lc (own_eq (g:=I) r0 e23 r0 e22) r0)))⟩
   ·have h11:(addrOk (byV bs (sa,sf)) ([]:List Int) [] (ofB (tkL bs (qa1,qf1) (2:Int).toNat)))=true:=by simpa using h9
    refine sk (nN (sr (qt r0 (lG [I (byV bs (sa,sf)),ns,Str [],I (ofB (tkL bs (qa1,qf1) (2:Int).toNat))] hs25 2 r0 ag43) (sG [I (byV bs (sa,sf)),ns,Str [],I (ofB (tkL bs (qa1,qf1) (2:Int).toNat))] hs25 0 r0 ag43 (fun w26 hs29=>?_)))))
    refine nn (rt (fret (v:=.agg #[I (byV bs (sa,sf)),ns,Str [],I (ofB (tkL bs (qa1,qf1) (2:Int).toNat))]) (resC hs29 2 r0 r0 ag43 r0 .nil) r0 ?_))
    have hs30:SH w w26 [rb] [.blk rb 133 [(Z10 Ab bs cb),I (qa6:Int),.bool qf6],.blk b2 43 [I (byV bs (sa,sf)),ns,Str [],I (ofB (tkL bs (qa1,qf1) (2:Int).toNat))],.blk b1 43 [I (byV bs (sa,sf)),ns,Str [],I (ofB (tkL bs (qa1,qf1) (2:Int).toNat))],.own none (([]:List Int).length) 0 3 1 (([]:List Int).map I)]:=SH.nils (by intro i hi; simp at hi; subst hi; exact nilItem) hs29
    have e26:byV bs (sa,sf)=(adR bs (sa,sf)).1.1:=by(rw[adR_0 p3 ‹_› ‹_› p18]; done)
    have e27:([]:List Int)=(adR bs (sa,sf)).1.2.1:=by(rw[adR_0 p3 ‹_› ‹_› p18]; done)
    have e28:=congrArg List.length e27
    have e29:[]=(adR bs (sa,sf)).1.2.2.1:=by(rw[adR_0 p3 ‹_› ‹_› p18]; done)
    have e30:ofB (tkL bs (qa1,qf1) (2:Int).toNat)=(adR bs (sa,sf)).1.2.2.2:=by(rw[adR_0 p3 ‹_› ‹_› p18]; rfl)
    exact⟨none,0,qa6,qf6,(aggv (lc (congrArg (Value.int .i64) e26) (lc (slv r0 e28 r0) (lc (congrArg (Str) e29) (lc (congrArg (Value.int .i64) e30) r0))))),‹_›,‹_›,(by(rw[adR_0 p3 ‹_› ‹_› p18]; exact(if_pos ‹_›).symm)),((hs30.pq [0,3] r0).cast (lc r0 (lc (own_eq (g:=I) r0 e28 r0 e27) r0)))⟩
theorem iHelloFrom {Abs:Option Addr} {cbs:Nat} (bs:List Int) (w:World) (hbs:Sl w [] 1 Abs bs.length cbs (bs.map I)):Does Tryz.prog 106 [.slice Abs bs.length cbs] w (fun v w'=>∃ Ar:Option Addr,∃ cr:Nat,v=.tuple #[.slice Ar ((helloFrom bs).1).length cr,.int .i64 ((helloFrom bs).2.1),.bool ((helloFrom bs).2.2)]∧SH w w' [] [.own Ar (((helloFrom bs).1).length) cr 3 1 (((helloFrom bs).1).map I)]):=by
 refine fE (N:=30) Tryz.func106 r0 (by kernel_rfl) r0 ?_
 have hs0:=SH.refl w []
 have hbs_m:bs.length≤9223372036854775807:=Nat.le_trans hbs.cap hbs.capMax
 refine sr (tA ns r0 (tA (I 0) r0 (tA (.bool false) r0 (nn (sq ?_)))))
 refine rg (tm (Z13 Abs bs cbs) r0 (cL r0 (newReader (Abs:=Abs) (cbs:=cbs) (bs:=bs) (w:=_) (hbs:=(hbs.up0 hs0))) ?_))
 rintro _ w1 ⟨g1,rfl,hs1⟩
 replace hs1:=hs0.call0 hs1
 refine tA (pB g1) r0 (nx (tm (pB g1) r0 (bsk hs1 sl22 [I 5] [I 5] trivial r0 (fun b1 w2 hs2=>?_))))
 refine cL r0 (rdExpect (rb:=g1) (Ab:=Abs) (cb:=cbs) (bs:=bs) (sa:=0) (sf:=(!isBytes bs)) (Aws:=(Z6 b1)) (cws:=1) (ws:=([5]:List Int)) (w:=_) (hr:=(blk_heap hs2 0 r0)) (hb:=(hbs.up hs2 (by simp) (fun k h=>.inr (hs2.lo1 0 r0 k h)))) (hbv:=(by(simp; done))) (hsa:=(by(first | assumption | omega | (simp; done)))) (hws:=(hs2.sl 1 r0 (by intro k hk; simp at hk; subst hk; exact⟨_,memi 0 r0,rfl⟩))) (hw:=(by(first | omega | assumption | (simp; done) | (simp; omega))))) ?_
 rintro _ w3 ⟨qa1,qf1,rfl,p1,p2,p3,hs3⟩
 replace hs3:=hs2.cK [0] [1] hs3 r0
 refine nx (tm (pB g1) r0 (tm (pB g1) r0 (cL r0 (rdByte (rb:=g1) (Ab:=Abs) (cb:=cbs) (bs:=bs) (sa:=qa1) (sf:=qf1) (w:=_) (hr:=(blk_heap hs3 1 r0)) (hb:=(hbs.up hs3 (by simp) (fun k h=>.inr (hs3.lo1 1 r0 k h)))) (hbv:=‹_›) (hsa:=(by(first | assumption | omega | (simp; done))))) ?_)))
 rintro _ w4 ⟨qa2,qf2,rfl,p4,p5,p6,hs4⟩
 replace hs4:=hs3.cK [1] [0] hs4 r0
 refine cL r0 (rdTake (rb:=g1) (Ab:=Abs) (cb:=cbs) (bs:=bs) (sa:=qa2) (sf:=qf2) (n:=byV bs (qa1,qf1)) (w:=_) (hr:=(blk_heap hs4 1 r0)) (hb:=(hbs.up hs4 (by simp) (fun k h=>.inr (hs4.lo1 1 r0 k h)))) (hbv:=‹_›) (hsa:=(by(first | assumption | omega | (simp; done)))) (hn:=(by(have hb1:=byV_bd (bs:=bs) (s:=(qa1,qf1)) p2; first | omega | assumption | (simp; done) | (simp; omega))))) ?_
 rintro _ w5 ⟨A1,c1,qa3,qf3,rfl,p7,p8,p9,hs5⟩
 replace hs5:=hs4.cK [1] [0] hs5 r0
 refine tA (.slice A1 ((tkL bs (qa2,qf2) (byV bs (qa1,qf1)).toNat).length) c1) r0 (nn (sq (sr (tm (pB g1) r0 (tn r0 ?_)))))
 refine qt r0 (fa 2 fo133_2 r0) (qt r0 (lD (.bool qf3) hs5 1 r0 one4) (tm (.bool qf3) r0 ?_))
 refine spl (b:=qf3) 20 r0 (fun h1=>?_) (fun h1=>?_)
 ·refine gt5 r0 (gt5 r0 (gt5 r0 (qt r0 (pt (v:=.bool true) r0 r0) (nn (cdt r0 (sq ?_))))))
  refine rg (tA ns r0 (tA (I 0) r0 (tA (.bool false) r0 (nn (rt (tR ?_))))))
  refine fret (v:=.tuple #[ns,I 0,.bool false]) (.tmp (.tmp (.tmp .nil))) r0 ?_
  have hs6:=hs5.nl [.own none (([]:List Int).length) 0 3 1 (([]:List Int).map I)] r0
  have e1:helloFrom bs=(([]:List Int),0,false):=by(rw[hello_r p3 p6 p9]; simp[h1])
  have e2:=pj1 e1
  have e3:=congrArg List.length e2
  have e4:=pj21 e1
  have e5:=pj22 e1
  exact⟨none,0,(tup3 (slv r0 e3 r0) (congrArg (Value.int .i64) e4) (congrArg (Value.bool) e5)),((hs6.pq [3] r0).cast (lc (own_eq (g:=I) r0 e3 r0 e2) r0))⟩
 ·refine q ⟨_,rfl,rfl⟩ r0 r0 (mv (v:=.slice A1 ((tkL bs (qa2,qf2) (byV bs (qa1,qf1)).toNat).length) c1) r0) (cl ⟨_,rfl,rfl⟩ r0 (iAreMethods (Ams:=A1) (cms:=c1) (ms:=tkL bs (qa2,qf2) (byV bs (qa1,qf1)).toNat) (w:=_) (hms:=(hs5.sl0 2 r0))) ?_)
  rintro _ w6 ⟨rfl,hs7⟩
  replace hs7:=hs5.call0 hs7
  refine q ⟨_,rfl,rfl⟩ r0 r0 (nt (b:=methOk (tkL bs (qa2,qf2) (byV bs (qa1,qf1)).toNat)) r0) (qt r0 (pf (v:=.bool (!(methOk (tkL bs (qa2,qf2) (byV bs (qa1,qf1)).toNat)))) r0 r0) (nn ?_))
  refine cd (b:=!(methOk (tkL bs (qa2,qf2) (byV bs (qa1,qf1)).toNat))) r0 (fun h2=>?_) (fun h2=>?_)
  ·have h3:(methOk (tkL bs (qa2,qf2) (byV bs (qa1,qf1)).toNat))=false:=by simpa using h2
   refine sr (tA ns r0 (tA (I 0) r0 (tA (.bool false) r0 (nn (rt (tR ?_))))))
   refine fret (v:=.tuple #[ns,I 0,.bool false]) (.tmp (.tmp (.tmp .nil))) r0 ?_
   have hs8:=hs7.nl [.own none (([]:List Int).length) 0 3 1 (([]:List Int).map I)] r0
   have e6:helloFrom bs=(([]:List Int),0,false):=by(rw[hello_r p3 p6 p9]; simp[h1,h3])
   have e7:=pj1 e6
   have e8:=congrArg List.length e7
   have e9:=pj21 e6
   have e10:=pj22 e6
   exact⟨none,0,(tup3 (slv r0 e8 r0) (congrArg (Value.int .i64) e9) (congrArg (Value.bool) e10)),((hs8.pq [3] r0).cast (lc (own_eq (g:=I) r0 e8 r0 e7) r0))⟩
  ·have h4:(methOk (tkL bs (qa2,qf2) (byV bs (qa1,qf1)).toNat))=true:=by simpa using h2
   refine sk (nN (sq (rq (fun w'=>SH w w' [] [oI b1 ([5]:List Int) 1 3,.blk g1 133 [(Z10 Abs bs cbs),I (qa3:Int),.bool qf3],.own A1 ((tkL bs (qa2,qf2) (byV bs (qa1,qf1)).toNat).length) c1 3 1 ((tkL bs (qa2,qf2) (byV bs (qa1,qf1)).toNat).map I)]) mixed (by kernel_rfl) hs7.drew (qA r0 (mv (v:=.slice A1 ((tkL bs (qa2,qf2) (byV bs (qa1,qf1)).toNat).length) c1) r0) (qA r0 (mv (v:=pB g1) r0) (qA r0 (nc r0) (qA r0 (fa 1 fo133_1 r0) ?_)))))))
   refine qB r0 (fun hsq=>lD (I (qa3:Int)) hsq 1 r0 one3) (qA r0 (asg (v:=.slice A1 ((tkL bs (qa2,qf2) (byV bs (qa1,qf1)).toNat).length) c1) r0) (qA r0 (asg (v:=I (qa3:Int)) r0) (qA r0 (asg (v:=.bool true) r0) (qn (fun w7 hs9=>?_)))))
   refine nN (rt (fret (v:=.tuple #[.slice A1 ((tkL bs (qa2,qf2) (byV bs (qa1,qf1)).toNat).length) c1,I (qa3:Int),.bool true]) (.tmp (.tmp (.tmp .nil))) r0 ?_))
   have e11:helloFrom bs=(tkL bs (qa2,qf2) (byV bs (qa1,qf1)).toNat,(qa3:Int),true):=by(rw[hello_r p3 p6 p9]; simp[h1,h4])
   have e12:=pj1 e11
   have e13:=congrArg List.length e12
   have e14:=pj21 e11
   have e15:=pj22 e11
   exact⟨A1,c1,(tup3 (slv r0 e13 r0) (congrArg (Value.int .i64) e14) (congrArg (Value.bool) e15)),((hs9.pq [2] r0).cast (lc (own_eq (g:=I) r0 e13 r0 e12) r0))⟩
theorem iLoginFrom {Abs:Option Addr} {cbs:Nat} (bs:List Int) (w:World) (hbs:Sl w [] 1 Abs bs.length cbs (bs.map I)):Does Tryz.prog 108 [.slice Abs bs.length cbs] w (fun v w'=>v=.tuple #[.agg #[Str ((loginFrom bs).1.1),Str ((loginFrom bs).1.2)],.int .i64 ((loginFrom bs).2.1),.bool ((loginFrom bs).2.2)]∧SH w w' [] []):=by
 refine fE (N:=33) Tryz.func108 r0 (by kernel_rfl) r0 ?_
 have hs0:SH w w [] []:=SH.refl w []
 have hbs_m:bs.length≤9223372036854775807:=Nat.le_trans hbs.cap hbs.capMax
 refine sr (al (v:=.agg #[Str [],Str []]) (cs:=[Str [],Str []]) hs0 tz51 r0 trivial r0 (fun b1 w1 hs1=>?_))
 refine tA (I 0) r0 (tA (.bool false) r0 (nx (tm (Z13 Abs bs cbs) r0 (cL r0 (newReader (Abs:=Abs) (cbs:=cbs) (bs:=bs) (w:=_) (hbs:=(hbs.up0 hs1))) ?_))))
 rintro _ w2 ⟨g1,rfl,hs2⟩
 replace hs2:=hs1.call0 hs2
 refine tA (pB g1) r0 (nx (tm (pB g1) r0 (bsk hs2 sl22 [I 1] [I 1] trivial r0 (fun b2 w3 (hs3:SH w w3 [] [.blk b1 51 [Str [],Str []],.blk g1 133 [(Z10 Abs bs cbs),I 0,.bool (!isBytes bs)],oI b2 ([1]:List Int) 1 3])=>?_))))
 refine cL r0 (rdExpect (rb:=g1) (Ab:=Abs) (cb:=cbs) (bs:=bs) (sa:=0) (sf:=(!isBytes bs)) (Aws:=(Z6 b2)) (cws:=1) (ws:=([1]:List Int)) (w:=_) (hr:=(blk_heap hs3 1 r0)) (hb:=(hbs.up hs3 (by simp) (fun k h=>.inr (hs3.lo1 1 r0 k h)))) (hbv:=(by(simp; done))) (hsa:=(by(first | assumption | omega | (simp; done)))) (hws:=(hs3.sl 2 r0 (by intro k hk; simp at hk; subst hk; exact⟨_,memi 1 r0,rfl⟩))) (hw:=(by(first | omega | assumption | (simp; done) | (simp; omega))))) ?_
 rintro _ w4 ⟨qa1,qf1,rfl,p1,p2,p3,hs4⟩
 replace hs4:=hs3.cK [1] [0,2] hs4 r0
 refine nx (al (v:=.agg #[Str [],Str []]) (cs:=[Str [],Str []]) hs4 tz51 r0 trivial r0 (fun b3 w5 hs5=>?_))
 refine nx (tm (pB g1) r0 (cL r0 (rdText (rb:=g1) (Ab:=Abs) (cb:=cbs) (bs:=bs) (sa:=qa1) (sf:=qf1) (w:=_) (hr:=(blk_heap hs5 2 r0)) (hb:=(hbs.up hs5 (by simp) (fun k h=>.inr (hs5.lo1 2 r0 k h)))) (hbv:=‹_›) (hsa:=(by(first | assumption | omega | (simp; done))))) ?_))
 rintro _ w6 ⟨qa2,qf2,rfl,p4,p5,p6,hs6⟩
 replace hs6:SH w w6 [] [.blk b1 51 [Str [],Str []],oI b2 ([1]:List Int) 1 3,.blk b3 51 [Str [],Str []],.blk g1 133 [(Z10 Abs bs cbs),I (qa2:Int),.bool qf2]]:=SH.callK (K:=[.blk g1 133 [(Z10 Abs bs cbs),I (qa1:Int),.bool qf1]]) (R:=[.blk b1 51 [Str [],Str []],oI b2 ([1]:List Int) 1 3,.blk b3 51 [Str [],Str []]]) (hs5.pk [2,0,1,3] r0) hs6 r0
 refine qt r0 (fa 0 fo51_0 r0) (sT (Str (txV bs (qa1,qf1))) hs6 2 r0 one9 (fun w7 hs7=>?_))
 refine nx (tm (pB g1) r0 (cL r0 (rdText (rb:=g1) (Ab:=Abs) (cb:=cbs) (bs:=bs) (sa:=qa2) (sf:=qf2) (w:=_) (hr:=(blk_heap hs7 2 r0)) (hb:=(hbs.up hs7 (by simp) (fun k h=>.inr (hs7.lo1 2 r0 k h)))) (hbv:=‹_›) (hsa:=(by(first | assumption | omega | (simp; done))))) ?_))
 rintro _ w8 ⟨qa3,qf3,rfl,p7,p8,p9,hs8⟩
 replace hs8:=hs7.cK [2] [0,1,3] hs8 r0
 refine qt r0 (fa 1 fo51_1 r0) (sT (Str (txV bs (qa2,qf2))) hs8 2 r0 one9 (fun w9 (hs9:SH w w9 [] [.blk b1 51 [Str [],Str []],oI b2 ([1]:List Int) 1 3,.blk g1 133 [(Z10 Abs bs cbs),I (qa3:Int),.bool qf3],.blk b3 51 [Str (txV bs (qa1,qf1)),Str (txV bs (qa2,qf2))]])=>?_))
 refine nn (sq (sr (tm (pB g1) r0 (tn r0 (qt r0 (fa 2 fo133_2 r0) ?_)))))
 refine qt r0 (lD (.bool qf3) hs9 2 r0 one4) (tm (.bool qf3) r0 ?_)
 refine spl (b:=qf3) 22 r0 (fun h1=>?_) (fun h1=>?_)
 ·refine gt5 r0 (gt5 r0 (gt5 r0 (qt r0 (pt (v:=.bool true) r0 r0) (nn (cdt r0 (sq ?_))))))
  refine rg (qt r0 (bdv (v:=.agg #[Str [],Str []]) [] r0 (fun _=>by kernel_rfl)) (sG [Str [],Str []] hs9 0 r0 ag51 (fun w10 hs10=>?_)))
  refine tA (I 0) r0 (tA (.bool false) r0 (nn ?_))
  have hs11:=hs10.pq [3] r0
  refine rt (tR ?_)
  refine fret (v:=.tuple #[.agg #[Str [],Str []],I 0,.bool false]) (resC hs11 0 r0 r0 ag51 r0 (.tmp (.tmp .nil))) r0 ?_
  have e1:loginFrom bs=(([],[]),0,false):=by(rw[login_r p3 p6 p9]; simp[h1])
  have e2:=pj11 e1
  have e3:=pj12 e1
  have e4:=pj21 e1
  have e5:=pj22 e1
  exact⟨(tup3 (aggv (lc (congrArg (Str) e2) (lc (congrArg (Str) e3) r0))) (congrArg (Value.int .i64) e4) (congrArg (Value.bool) e5)),(hs11.pk [] r0)⟩
 ·refine q ⟨_,rfl,rfl⟩ r0 r0 (lG [Str (txV bs (qa1,qf1)),Str (txV bs (qa2,qf2))] hs9 3 r0 ag51) (cl ⟨_,rfl,rfl⟩ r0 (iIsLogin (lu:=txV bs (qa1,qf1)) (lw:=txV bs (qa2,qf2)) (w:=_) (hlu_n:=(by(have ht1:=txV_len (bs:=bs) (s:=(qa1,qf1)) p2; have ht2:=txV_len (bs:=bs) (s:=(qa2,qf2)) p5; omega))) (hlw_n:=(by(have ht1:=txV_len (bs:=bs) (s:=(qa1,qf1)) p2; have ht2:=txV_len (bs:=bs) (s:=(qa2,qf2)) p5; omega)))) ?_)
  rintro _ w11 ⟨rfl,hs12⟩
  replace hs12:=hs9.call0 hs12
  refine q ⟨_,rfl,rfl⟩ r0 r0 (nt (b:=loginOk (txV bs (qa1,qf1)) (txV bs (qa2,qf2))) r0) (qt r0 (pf (v:=.bool (!(loginOk (txV bs (qa1,qf1)) (txV bs (qa2,qf2))))) r0 r0) (nn ?_))
  refine cd (b:=!(loginOk (txV bs (qa1,qf1)) (txV bs (qa2,qf2)))) r0 (fun h2=>?_) (fun h2=>?_)
  ·have h3:(loginOk (txV bs (qa1,qf1)) (txV bs (qa2,qf2)))=false:=by simpa using h2
   refine sr (qt r0 (bdv (v:=.agg #[Str [],Str []]) [] r0 (fun _=>by kernel_rfl)) (sG [Str [],Str []] hs12 0 r0 ag51 (fun w12 hs13=>?_)))
   refine tA (I 0) r0 (tA (.bool false) r0 (nn ?_))
   have hs14:=hs13.pq [3] r0
   refine rt (tR ?_)
   refine fret (v:=.tuple #[.agg #[Str [],Str []],I 0,.bool false]) (resC hs14 0 r0 r0 ag51 r0 (.tmp (.tmp .nil))) r0 ?_
   have e6:loginFrom bs=(([],[]),0,false):=by(rw[login_r p3 p6 p9]; simp[h1,h3])
   have e7:=pj11 e6
   have e8:=pj12 e6
   have e9:=pj21 e6
   have e10:=pj22 e6
   exact⟨(tup3 (aggv (lc (congrArg (Str) e7) (lc (congrArg (Str) e8) r0))) (congrArg (Value.int .i64) e9) (congrArg (Value.bool) e10)),(hs14.pk [] r0)⟩
  ·have h4:(loginOk (txV bs (qa1,qf1)) (txV bs (qa2,qf2)))=true:=by simpa using h2
   refine sk (nN (sq (ra (fun w'=>∃ L,SH w w' [] L∧(.blk g1 133 [(Z10 Abs bs cbs),I (qa3:Int),.bool qf3])∈L∧(.blk b3 51 [Str (txV bs (qa1,qf1)),Str (txV bs (qa2,qf2))])∈L∧True) mixed ?_)))
   have hs15:=hs12.drew
   refine tk (fuel:=3) (is:=[0,1,2,3,4]) (.cons r0 (.cons r0 (.cons r0 (.cons r0 (.cons r0 (.nil)))))) (by kernel_rfl) (by kernel_rfl) ⟨_,hs15,memi 2 r0,memi 3 r0,trivial⟩ (yB r0 (fun ⟨Lq,hsq,mh0,mh1,_⟩=>ldgm (vs:=[Str (txV bs (qa1,qf1)),Str (txV bs (qa2,qf2))]) hsq mh1 r0 r0 r0 ag51) (yA r0 (mv (v:=pB g1) r0) (yA r0 (nc r0) (yA r0 (fa 1 fo133_1 r0) (yB r0 (fun ⟨Lq,hsq,mh0,mh1,_⟩=>lM (I (qa3:Int)) hsq mh0 r0 one3) (.nil (a1 (i:=5) (by kernel_rfl) ?_)))))))
   refine one_ r0 (sG [Str (txV bs (qa1,qf1)),Str (txV bs (qa2,qf2))] hs15 0 r0 ag51 (fun w13 hs16=>?_))
   refine nk ⟨_,hs16,memi 1 r0,memi 2 r0,trivial⟩ ?_
   refine tk (fuel:=0) (is:=[6,7]) (.cons r0 (.cons r0 (.nil))) (by kernel_rfl) (by kernel_rfl) ⟨_,hs16,memi 1 r0,memi 2 r0,trivial⟩ (yA r0 (asg (v:=I (qa3:Int)) r0) (yA r0 (asg (v:=.bool true) r0) (.nil (ad (by kernel_rfl) (nN ?_)))))
   have hs17:=hs16.pq [3] r0
   refine rt (fret (v:=.tuple #[.agg #[Str (txV bs (qa1,qf1)),Str (txV bs (qa2,qf2))],I (qa3:Int),.bool true]) (resC hs17 0 r0 r0 ag51 r0 (.tmp (.tmp .nil))) r0 ?_)
   have e11:loginFrom bs=((txV bs (qa1,qf1),txV bs (qa2,qf2)),(qa3:Int),true):=by(rw[login_r p3 p6 p9]; simp[h1,h4])
   have e12:=pj11 e11
   have e13:=pj12 e11
   have e14:=pj21 e11
   have e15:=pj22 e11
   exact⟨(tup3 (aggv (lc (congrArg (Str) e12) (lc (congrArg (Str) e13) r0))) (congrArg (Value.int .i64) e14) (congrArg (Value.bool) e15)),(hs17.pk [] r0)⟩
set_option maxHeartbeats 8000000 in
theorem iCodeFrom {Abs:Option Addr} {cbs:Nat} (bs:List Int) (w:World) (hbs:Sl w [] 1 Abs bs.length cbs (bs.map I)):Does Tryz.prog 60 [.slice Abs bs.length cbs] w (fun v w'=>∃ Aqr:Option Addr,∃ cqr:Nat,v=.tuple #[.int .i64 ((codeR bs).1),.agg #[.int .i64 ((codeR bs).2.1.1),.slice Aqr ((codeR bs).2.1.2.1).length cqr,Str ((codeR bs).2.1.2.2.1),.int .i64 ((codeR bs).2.1.2.2.2)],.int .i64 ((codeR bs).2.2.1),.bool ((codeR bs).2.2.2)]∧SH w w' [] [.own Aqr (((codeR bs).2.1.2.1).length) cqr 3 1 (((codeR bs).2.1.2.1).map I)]):=by
 refine fE (N:=32) Tryz.func60 r0 (by kernel_rfl) r0 ?_
 have hs0:SH w w [] []:=SH.refl w []
 have hbs_m:bs.length≤9223372036854775807:=Nat.le_trans hbs.cap hbs.capMax
 refine sr (tA (I 0) r0 (al (v:=.agg #[I 0,ns,Str [],I 0]) (cs:=[I 0,ns,Str [],I 0]) hs0 tz43 r0 trivial r0 (fun b1 w1 hs1=>?_)))
 refine tA (I 0) r0 (tA (.bool false) r0 (nx (tm (Z13 Abs bs cbs) r0 (cL r0 (newReader (Abs:=Abs) (cbs:=cbs) (bs:=bs) (w:=_) (hbs:=(hbs.up0 hs1))) ?_))))
 rintro _ w2 ⟨g1,rfl,hs2⟩
 replace hs2:=hs1.call0 hs2
 refine tA (pB g1) r0 (nx (tm (pB g1) r0 (bsk hs2 sl22 [I 5] [I 5] trivial r0 (fun b2 w3 (hs3:SH w w3 [] [(Z14 b1),.blk g1 133 [(Z10 Abs bs cbs),I 0,.bool (!isBytes bs)],oI b2 ([5]:List Int) 1 3])=>?_))))
 refine cL r0 (rdExpect (rb:=g1) (Ab:=Abs) (cb:=cbs) (bs:=bs) (sa:=0) (sf:=(!isBytes bs)) (Aws:=(Z6 b2)) (cws:=1) (ws:=([5]:List Int)) (w:=_) (hr:=(blk_heap hs3 1 r0)) (hb:=(hbs.up hs3 (by simp) (fun k h=>.inr (hs3.lo1 1 r0 k h)))) (hbv:=(by(simp; done))) (hsa:=(by omega)) (hws:=(hs3.sl 2 r0 (by intro k hk; simp at hk; subst hk; exact⟨_,memi 1 r0,rfl⟩))) (hw:=(by(simp; done)))) ?_
 rintro _ w4 ⟨qa1,qf1,rfl,p1,p2,p3,hs4⟩
 replace hs4:=hs3.cK [1] [0,2] hs4 r0
 refine nx (tm (pB g1) r0 (cL r0 (rdByte (rb:=g1) (Ab:=Abs) (cb:=cbs) (bs:=bs) (sa:=qa1) (sf:=qf1) (w:=_) (hr:=(blk_heap hs4 2 r0)) (hb:=(hbs.up hs4 (by simp) (fun k h=>.inr (hs4.lo1 2 r0 k h)))) (hbv:=‹_›) (hsa:=‹_›)) ?_))
 rintro _ w5 ⟨qa2,qf2,rfl,p4,p5,p6,hs5⟩
 replace hs5:=hs4.cK [2] [0,1] hs5 r0
 refine tA (I (byV bs (qa1,qf1))) r0 (nx (tm (pB g1) r0 (bsk hs5 sl22 [I 0] [I 0] trivial r0 (fun b3 w6 (hs6:SH w w6 [] [(Z14 b1),oI b2 ([5]:List Int) 1 3,.blk g1 133 [(Z10 Abs bs cbs),I (qa2:Int),.bool qf2],(Z17 b3)])=>?_))))
 refine cL r0 (rdExpect (rb:=g1) (Ab:=Abs) (cb:=cbs) (bs:=bs) (sa:=qa2) (sf:=qf2) (Aws:=(Z6 b3)) (cws:=1) (ws:=([0]:List Int)) (w:=_) (hr:=(blk_heap hs6 2 r0)) (hb:=(hbs.up hs6 (by simp) (fun k h=>.inr (hs6.lo1 2 r0 k h)))) (hbv:=‹_›) (hsa:=‹_›) (hws:=(hs6.sl 3 r0 (by intro k hk; simp at hk; subst hk; exact⟨_,memi 2 r0,rfl⟩))) (hw:=(by(simp; done)))) ?_
 rintro _ w7 ⟨qa3,qf3,rfl,p7,p8,p9,hs7⟩
 replace hs7:=hs6.cK [2] [0,1,3] hs7 r0
 refine nn ?_
 have hs8:=hs7.pq [0,3] r0
 refine sr (tm (pB g1) r0 (cL r0 (rdAddress (rb:=g1) (Ab:=Abs) (cb:=cbs) (bs:=bs) (sa:=qa3) (sf:=qf3) (w:=_) (hr:=(blk_heap hs8 1 r0)) (hb:=(hbs.up hs8 (by simp) (fun k h=>.inr (hs8.lo1 1 r0 k h)))) (hbv:=‹_›) (hsa:=‹_›)) ?_))
 rintro _ w8 ⟨A1,c1,qa4,qf4,rfl,p10,p11,p12,hs9⟩
 replace hs9:SH w w8 [] [(Z14 b1),.blk g1 133 [(Z10 Abs bs cbs),I (qa4:Int),.bool qf4],.own A1 (((adR bs (qa3,qf3)).1.2.1).length) c1 3 1 (((adR bs (qa3,qf3)).1.2.1).map I)]:=SH.callK (K:=[.blk g1 133 [(Z10 Abs bs cbs),I (qa3:Int),.bool qf3]]) (R:=[(Z14 b1)]) (hs8.pk [1,0] r0) hs9 r0
 refine al (v:=.agg #[I 0,ns,Str [],I 0]) (cs:=[I 0,ns,Str [],I 0]) hs9 tz43 r0 trivial r0 (fun b4 w9 hs10=>?_)
 refine sG [I ((adR bs (qa3,qf3)).1.1),.slice A1 (((adR bs (qa3,qf3)).1.2.1).length) c1,Str ((adR bs (qa3,qf3)).1.2.2.1),I ((adR bs (qa3,qf3)).1.2.2.2)] hs10 3 r0 ag43 (fun w10 hs11=>?_)
 refine nn (sq ?_)
 refine raJ (fun w'=>∃ L,SH w w' [] L∧(.blk g1 133 [(Z10 Abs bs cbs),I (qa4:Int),.bool qf4])∈L∧(.blk b4 43 [I ((adR bs (qa3,qf3)).1.1),.slice A1 (((adR bs (qa3,qf3)).1.2.1).length) c1,Str ((adR bs (qa3,qf3)).1.2.2.1),I ((adR bs (qa3,qf3)).1.2.2.2)])∈L∧True) (fun f w'=>Hz f [(2,I (byV bs (qa1,qf1))),(3,pB b1),(4,I (qa4:Int)),(5,.bool (!qf4))]∧SH w w' [] [.blk b1 43 [I ((adR bs (qa3,qf3)).1.1),.slice A1 (((adR bs (qa3,qf3)).1.2.1).length) c1,Str ((adR bs (qa3,qf3)).1.2.2.1),I ((adR bs (qa3,qf3)).1.2.2.2)],.blk g1 133 [(Z10 Abs bs cbs),I (qa4:Int),.bool qf4],.own A1 (((adR bs (qa3,qf3)).1.2.1).length) c1 3 1 (((adR bs (qa3,qf3)).1.2.1).map I),.blk b4 43 [I ((adR bs (qa3,qf3)).1.1),.slice A1 (((adR bs (qa3,qf3)).1.2.1).length) c1,Str ((adR bs (qa3,qf3)).1.2.2.1),I ((adR bs (qa3,qf3)).1.2.2.2)]]) mixed ?_ ?_
 ·refine dG 3 15 4095 (fun f w'=>Hz f [(2,I (byV bs (qa1,qf1))),(3,pB b1),(4,I 0),(5,.bool false),(22,.agg #[I ((adR bs (qa3,qf3)).1.1),.slice A1 (((adR bs (qa3,qf3)).1.2.1).length) c1,Str ((adR bs (qa3,qf3)).1.2.2.1),I ((adR bs (qa3,qf3)).1.2.2.2)]),(26,I (qa4:Int)),(31,.bool (!qf4))]∧SH w w' [] [(Z14 b1),.blk g1 133 [(Z10 Abs bs cbs),I (qa4:Int),.bool qf4],.own A1 (((adR bs (qa3,qf3)).1.2.1).length) c1 3 1 (((adR bs (qa3,qf3)).1.2.1).map I),.blk b4 43 [I ((adR bs (qa3,qf3)).1.1),.slice A1 (((adR bs (qa3,qf3)).1.2.1).length) c1,Str ((adR bs (qa3,qf3)).1.2.2.1),I ((adR bs (qa3,qf3)).1.2.2.2)]]) ?_ (fun D_6_0=>?_)
  ·rintro f w11 ⟨⟨g2,rfl⟩,hs12⟩
   refine aO 12 r0 (sG [I ((adR bs (qa3,qf3)).1.1),.slice A1 (((adR bs (qa3,qf3)).1.2.1).length) c1,Str ((adR bs (qa3,qf3)).1.2.2.1),I ((adR bs (qa3,qf3)).1.2.2.2)] hs12 0 r0 ag43 (fun w12 hs13=>?_))
   refine nk ⟨_,hs13,memi 0 r0,memi 2 r0,trivial⟩ ?_
   refine tk (fuel:=0) (is:=[13,14]) (.cons r0 (.cons r0 (.nil))) (by kernel_rfl) (by kernel_rfl) ⟨_,hs13,memi 0 r0,memi 2 r0,trivial⟩ (yA r0 (asg (v:=I (qa4:Int)) r0) (yA r0 (asg (v:=.bool (!qf4)) r0) (.nil (ad (by kernel_rfl) ?_))))
   exact⟨(zR r0),(hs13.pk [3,0,1,2] r0)⟩
  have hs14:=hs11.drew
  refine tk (fuel:=3) (is:=[0,1,2,3,4,5,6,7,8,9,10,11]) (.cons r0 (.cons r0 (.cons r0 (.cons r0 (.cons r0 (.cons r0 (.cons r0 (.cons r0 (.cons r0 (.cons r0 (.cons r0 (.cons r0 (.nil))))))))))))) (by kernel_rfl) (by kernel_rfl) ⟨_,hs14,memi 1 r0,memi 3 r0,trivial⟩ (yA r0 (mv (v:=I (byV bs (qa1,qf1))) r0) (yB r0 (fun ⟨Lq,hsq,mh0,mh1,_⟩=>ldgm (vs:=[I ((adR bs (qa3,qf3)).1.1),.slice A1 (((adR bs (qa3,qf3)).1.2.1).length) c1,Str ((adR bs (qa3,qf3)).1.2.2.1),I ((adR bs (qa3,qf3)).1.2.2.2)]) hsq mh1 r0 r0 r0 ag43) (yA r0 (mv (v:=pB g1) r0) (yA r0 (nc r0) (yA r0 (fa 1 fo133_1 r0) (yB r0 (fun ⟨Lq,hsq,mh0,mh1,_⟩=>lM (I (qa4:Int)) hsq mh0 r0 one3) (yA r0 (mv (v:=pB g1) r0) ?_)))))))
  refine yA r0 (nc r0) (yA r0 (fa 2 fo133_2 r0) (yB r0 (fun ⟨Lq,hsq,mh0,mh1,_⟩=>lM (.bool qf4) hsq mh0 r0 one4) (yA r0 (nt (b:=qf4) r0) (yA r0 (asg (v:=I (byV bs (qa1,qf1))) r0) (.nil ?_)))))
  exact alc D_6_0 ⟨(zR r0),hs14⟩
 rintro f w13 ⟨⟨g3,rfl⟩,hs15⟩
 refine nN ?_
 have hs16:=hs15.pq [0,2] r0
 refine rt (fret (v:=.tuple #[I (byV bs (qa1,qf1)),.agg #[I ((adR bs (qa3,qf3)).1.1),.slice A1 (((adR bs (qa3,qf3)).1.2.1).length) c1,Str ((adR bs (qa3,qf3)).1.2.2.1),I ((adR bs (qa3,qf3)).1.2.2.2)],I (qa4:Int),.bool (!qf4)]) (.tmp (resC hs16 0 r0 r0 ag43 r0 (.tmp (.tmp .nil)))) r0 ?_)
 have e1:codeR bs=(byV bs (qa1,qf1),((adR bs (qa3,qf3)).1.1,(adR bs (qa3,qf3)).1.2.1,(adR bs (qa3,qf3)).1.2.2.1,(adR bs (qa3,qf3)).1.2.2.2),(qa4:Int),(!qf4)):=by(rw[code_r p3 p6 p9 p12]; done)
 have e2:=pj1 e1
 have e3:(adR bs (qa3,qf3)).1.1=(codeR bs).2.1.1:=by rw[e1]
 have e4:(adR bs (qa3,qf3)).1.2.1=(codeR bs).2.1.2.1:=by rw[e1]
 have e5:=congrArg List.length e4
 have e6:(adR bs (qa3,qf3)).1.2.2.1=(codeR bs).2.1.2.2.1:=by rw[e1]
 have e7:(adR bs (qa3,qf3)).1.2.2.2=(codeR bs).2.1.2.2.2:=by rw[e1]
 have e8:=pj221 e1
 have e9:=pj222 e1
 exact⟨A1,c1,(tup4 (congrArg (Value.int .i64) e2) (aggv (lc (congrArg (Value.int .i64) e3) (lc (slv r0 e5 r0) (lc (congrArg (Str) e6) (lc (congrArg (Value.int .i64) e7) r0))))) (congrArg (Value.int .i64) e8) (congrArg (Value.bool) e9)),((hs16.pq [1] r0).cast (lc (own_eq (g:=I) r0 e5 r0 e4) r0))⟩
theorem iRequestFrom {Abs:Option Addr} {cbs:Nat} (bs:List Int) (w:World) (hbs:Sl w [] 1 Abs bs.length cbs (bs.map I)):Does Tryz.prog 25 [.slice Abs bs.length cbs] w (fun v w'=>∃ Aqr:Option Addr,∃ cqr:Nat,v=.tuple #[.agg #[.int .i64 ((reqFrom bs).1.1),.int .i64 ((reqFrom bs).1.2.1),.slice Aqr ((reqFrom bs).1.2.2.1).length cqr,Str ((reqFrom bs).1.2.2.2.1),.int .i64 ((reqFrom bs).1.2.2.2.2)],.int .i64 ((reqFrom bs).2.1),.bool ((reqFrom bs).2.2)]∧SH w w' [] [.own Aqr (((reqFrom bs).1.2.2.1).length) cqr 3 1 (((reqFrom bs).1.2.2.1).map I)]):=by
 refine fE (N:=30) Tryz.func25 r0 (by kernel_rfl) r0 ?_
 have hs0:=SH.refl w []
 have hbs_m:bs.length≤9223372036854775807:=Nat.le_trans hbs.cap hbs.capMax
 refine sr (al (v:=.agg #[I 0,I 0,ns,Str [],I 0]) (cs:=[I 0,I 0,ns,Str [],I 0]) hs0 tz45 r0 trivial r0 (fun b1 w1 hs1=>?_))
 refine tA (I 0) r0 (tA (.bool false) r0 (nx (tm (Z13 Abs bs cbs) r0 (cL r0 (iCodeFrom (Abs:=Abs) (cbs:=cbs) (bs:=bs) (w:=_) (hbs:=(hbs.up0 hs1))) ?_))))
 rintro _ w2 ⟨Aq1,cq1,rfl,hs2⟩
 replace hs2:=hs1.call0 hs2
 refine tm (.tuple #[I ((codeR bs).1),.agg #[I ((codeR bs).2.1.1),.slice Aq1 (((codeR bs).2.1.2.1).length) cq1,Str ((codeR bs).2.1.2.2.1),I ((codeR bs).2.1.2.2.2)],I ((codeR bs).2.2.1),.bool ((codeR bs).2.2.2)]) r0 (qt r0 (xt 0 (v:=I ((codeR bs).1)) r0 r0) (qt r0 (xt 1 (v:=.agg #[I ((codeR bs).2.1.1),.slice Aq1 (((codeR bs).2.1.2.1).length) cq1,Str ((codeR bs).2.1.2.2.1),I ((codeR bs).2.1.2.2.2)]) r0 r0) (qt r0 (xt 2 (v:=I ((codeR bs).2.2.1)) r0 r0) (qt r0 (xt 3 (v:=.bool ((codeR bs).2.2.2)) r0 r0) (al (v:=.agg #[I 0,ns,Str [],I 0]) (cs:=[I 0,ns,Str [],I 0]) hs2 tz43 r0 trivial r0 (fun b2 w3 hs3=>?_))))))
 refine tA (I ((codeR bs).1)) r0 (sG [I ((codeR bs).2.1.1),.slice Aq1 (((codeR bs).2.1.2.1).length) cq1,Str ((codeR bs).2.1.2.2.1),I ((codeR bs).2.1.2.2.2)] hs3 2 r0 ag43 (fun w4 hs4=>?_))
 refine tA (I ((codeR bs).2.2.1)) r0 (tA (.bool ((codeR bs).2.2.2)) r0 (nx (tm (I ((codeR bs).1)) r0 (qt r0 (lG [I ((codeR bs).2.1.1),.slice Aq1 (((codeR bs).2.1.2.1).length) cq1,Str ((codeR bs).2.1.2.2.1),I ((codeR bs).2.1.2.2.2)] hs4 2 r0 ag43) ?_))))
 refine qt r0 (bdv (v:=.agg #[I ((codeR bs).1),I ((codeR bs).2.1.1),.slice Aq1 (((codeR bs).2.1.2.1).length) cq1,Str ((codeR bs).2.1.2.2.1),I ((codeR bs).2.1.2.2.2)]) [(0,I ((codeR bs).1)),(1,.agg #[I ((codeR bs).2.1.1),.slice Aq1 (((codeR bs).2.1.2.1).length) cq1,Str ((codeR bs).2.1.2.2.1),I ((codeR bs).2.1.2.2.2)])] r0 (fun _=>by kernel_rfl)) (al (v:=.agg #[I 0,I 0,ns,Str [],I 0]) (cs:=[I 0,I 0,ns,Str [],I 0]) hs4 tz45 r0 trivial r0 (fun b3 w5 hs5=>?_))
 refine sG [I ((codeR bs).1),I ((codeR bs).2.1.1),.slice Aq1 (((codeR bs).2.1.2.1).length) cq1,Str ((codeR bs).2.1.2.2.1),I ((codeR bs).2.1.2.2.2)] hs5 3 r0 ag45 (fun w6 hs6=>?_)
 refine nn (sq (sr (tm (.bool ((codeR bs).2.2.2)) r0 (qt r0 (nt (b:=(codeR bs).2.2.2) r0) (tm (.bool (!((codeR bs).2.2.2))) r0 ?_)))))
 refine spl (b:=!((codeR bs).2.2.2)) 22 r0 (fun h1=>?_) (fun h1=>?_)
 ·have h2:((codeR bs).2.2.2)=false:=by simpa using h1
  refine gt5 r0 (gt5 r0 (gt5 r0 (qt r0 (pt (v:=.bool true) r0 r0) (nn (cdt r0 (sq ?_))))))
  refine rg (qt r0 (bdv (v:=.agg #[I 0,I 0,ns,Str [],I 0]) [] r0 (fun _=>by kernel_rfl)) (sG [I 0,I 0,ns,Str [],I 0] hs6 0 r0 ag45 (fun w7 hs7=>?_)))
  refine tA (I 0) r0 (tA (.bool false) r0 (nn ?_))
  have hs8:=hs7.pq [3] r0
  refine rt (tR ?_)
  refine fret (v:=.tuple #[.agg #[I 0,I 0,ns,Str [],I 0],I 0,.bool false]) (resC hs8 0 r0 r0 ag45 r0 (.tmp (.tmp .nil))) r0 ?_
  have hs9:=hs8.nl [.own none (([]:List Int).length) 0 3 1 (([]:List Int).map I)] r0
  have e1:reqFrom bs=((0,(0,([]:List Int),[],0)),0,false):=by(rw[req_code]; simp[h2])
  have e2:=pj11 e1
  have e3:=pj121 e1
  have e4:=pj1221 e1
  have e5:=congrArg List.length e4
  have e6:[]=(reqFrom bs).1.2.2.2.1:=by rw[e1]
  have e7:0=(reqFrom bs).1.2.2.2.2:=by rw[e1]
  have e8:=pj21 e1
  have e9:=pj22 e1
  exact⟨none,0,(tup3 (aggv (lc (congrArg (Value.int .i64) e2) (lc (congrArg (Value.int .i64) e3) (lc (slv r0 e5 r0) (lc (congrArg (Str) e6) (lc (congrArg (Value.int .i64) e7) r0)))))) (congrArg (Value.int .i64) e8) (congrArg (Value.bool) e9)),((hs9.pq [1] r0).cast (lc (own_eq (g:=I) r0 e5 r0 e4) r0))⟩
 ·have h3:((codeR bs).2.2.2)=true:=by simpa using h1
  refine q ⟨_,rfl,rfl⟩ r0 r0 (lG [I ((codeR bs).1),I ((codeR bs).2.1.1),.slice Aq1 (((codeR bs).2.1.2.1).length) cq1,Str ((codeR bs).2.1.2.2.1),I ((codeR bs).2.1.2.2.2)] hs6 3 r0 ag45) (cl ⟨_,rfl,rfl⟩ r0 (iIsRequest (n:=(codeR bs).1) (ak:=(codeR bs).2.1.1) (Aaq:=Aq1) (caq:=cq1) (aq:=(codeR bs).2.1.2.1) (an:=(codeR bs).2.1.2.2.1) (apt:=(codeR bs).2.1.2.2.2) (w:=_) (haq:=(hs6.sl0 1 r0)) (han_n:=(by(have hcn:=codeR_nm bs; omega)))) ?_)
  rintro _ w8 ⟨rfl,hs10⟩
  replace hs10:=hs6.call0 hs10
  refine q ⟨_,rfl,rfl⟩ r0 r0 (nt (b:=reqOk ((codeR bs).1) ((codeR bs).2.1.1) ((codeR bs).2.1.2.1) ((codeR bs).2.1.2.2.1) ((codeR bs).2.1.2.2.2)) r0) (qt r0 (pf (v:=.bool (!(reqOk ((codeR bs).1) ((codeR bs).2.1.1) ((codeR bs).2.1.2.1) ((codeR bs).2.1.2.2.1) ((codeR bs).2.1.2.2.2)))) r0 r0) (nn ?_))
  refine cd (b:=!(reqOk ((codeR bs).1) ((codeR bs).2.1.1) ((codeR bs).2.1.2.1) ((codeR bs).2.1.2.2.1) ((codeR bs).2.1.2.2.2))) r0 (fun h4=>?_) (fun h4=>?_)
  ·have h5:(reqOk ((codeR bs).1) ((codeR bs).2.1.1) ((codeR bs).2.1.2.1) ((codeR bs).2.1.2.2.1) ((codeR bs).2.1.2.2.2))=false:=by simpa using h4
   refine sr (qt r0 (bdv (v:=.agg #[I 0,I 0,ns,Str [],I 0]) [] r0 (fun _=>by kernel_rfl)) (sG [I 0,I 0,ns,Str [],I 0] hs10 0 r0 ag45 (fun w9 hs11=>?_)))
   refine tA (I 0) r0 (tA (.bool false) r0 (nn ?_))
   have hs12:=hs11.pq [3] r0
   refine rt (tR ?_)
   refine fret (v:=.tuple #[.agg #[I 0,I 0,ns,Str [],I 0],I 0,.bool false]) (resC hs12 0 r0 r0 ag45 r0 (.tmp (.tmp .nil))) r0 ?_
   have hs13:=hs12.nl [.own none (([]:List Int).length) 0 3 1 (([]:List Int).map I)] r0
   have e10:reqFrom bs=((0,(0,([]:List Int),[],0)),0,false):=by(rw[req_code]; simp[h3,h5])
   have e11:=pj11 e10
   have e12:=pj121 e10
   have e13:=pj1221 e10
   have e14:=congrArg List.length e13
   have e15:[]=(reqFrom bs).1.2.2.2.1:=by rw[e10]
   have e16:0=(reqFrom bs).1.2.2.2.2:=by rw[e10]
   have e17:=pj21 e10
   have e18:=pj22 e10
   exact⟨none,0,(tup3 (aggv (lc (congrArg (Value.int .i64) e11) (lc (congrArg (Value.int .i64) e12) (lc (slv r0 e14 r0) (lc (congrArg (Str) e15) (lc (congrArg (Value.int .i64) e16) r0)))))) (congrArg (Value.int .i64) e17) (congrArg (Value.bool) e18)),((hs13.pq [1] r0).cast (lc (own_eq (g:=I) r0 e14 r0 e13) r0))⟩
  ·have h6:(reqOk ((codeR bs).1) ((codeR bs).2.1.1) ((codeR bs).2.1.2.1) ((codeR bs).2.1.2.2.1) ((codeR bs).2.1.2.2.2))=true:=by simpa using h4
   refine sk (nN (sr (qt r0 (lG [I ((codeR bs).1),I ((codeR bs).2.1.1),.slice Aq1 (((codeR bs).2.1.2.1).length) cq1,Str ((codeR bs).2.1.2.2.1),I ((codeR bs).2.1.2.2.2)] hs10 3 r0 ag45) (tm (I ((codeR bs).2.2.1)) r0 (sG [I ((codeR bs).1),I ((codeR bs).2.1.1),.slice Aq1 (((codeR bs).2.1.2.1).length) cq1,Str ((codeR bs).2.1.2.2.1),I ((codeR bs).2.1.2.2.2)] hs10 0 r0 ag45 (fun w10 hs14=>?_))))))
   refine tA (I ((codeR bs).2.2.1)) r0 (tA (.bool true) r0 (nn ?_))
   have hs15:=hs14.pq [0,3] r0
   refine rt (fret (v:=.tuple #[.agg #[I ((codeR bs).1),I ((codeR bs).2.1.1),.slice Aq1 (((codeR bs).2.1.2.1).length) cq1,Str ((codeR bs).2.1.2.2.1),I ((codeR bs).2.1.2.2.2)],I ((codeR bs).2.2.1),.bool true]) (resC hs15 1 r0 r0 ag45 r0 (.tmp (.tmp .nil))) r0 ?_)
   have e19:reqFrom bs=(((codeR bs).1,((codeR bs).2.1.1,(codeR bs).2.1.2.1,(codeR bs).2.1.2.2.1,(codeR bs).2.1.2.2.2)),(codeR bs).2.2.1,true):=by(rw[req_code]; simp[h3,h6])
   have e20:=pj11 e19
   have e21:=pj121 e19
   have e22:=pj1221 e19
   have e23:=congrArg List.length e22
   have e24:(codeR bs).2.1.2.2.1=(reqFrom bs).1.2.2.2.1:=by rw[e19]
   have e25:(codeR bs).2.1.2.2.2=(reqFrom bs).1.2.2.2.2:=by rw[e19]
   have e26:=pj21 e19
   have e27:=pj22 e19
   exact⟨Aq1,cq1,(tup3 (aggv (lc (congrArg (Value.int .i64) e20) (lc (congrArg (Value.int .i64) e21) (lc (slv r0 e23 r0) (lc (congrArg (Str) e24) (lc (congrArg (Value.int .i64) e25) r0)))))) (congrArg (Value.int .i64) e26) (congrArg (Value.bool) e27)),((hs15.pq [0] r0).cast (lc (own_eq (g:=I) r0 e23 r0 e22) r0))⟩
theorem iPickBytes (m:Int) (w:World) (hm:0≤m∧m≤255):Does Tryz.prog 107 [I m] w (fun v w'=>∃ Ar:Option Addr,∃ cr:Nat,v=.tuple #[.slice Ar [5,m].length cr,.bool true]∧SH w w' [] [.own Ar ([5,m].length) cr 3 1 ([5,m].map I)]):=by
 refine fE (N:=9) Tryz.func107 r0 (by kernel_rfl) r0 ?_
 have hs0:=SH.refl w []
 refine sr (tA ns r0 (tA (.bool false) r0 (nn (sq (sq ?_)))))
 refine rg (tm (I m) r0 (cL r0 (iWithin (x:=m) (lo:=0) (hi:=255) (w:=_)) ?_))
 rintro _ w1 ⟨rfl,hs1⟩
 replace hs1:=hs0.call0 hs1
 refine qt r0 (nd (p:=0≤m∧m≤255) r0) (nn ?_)
 refine cdd (p:=¬ (0≤m∧m≤255)) r0 (fun h1=>absurd h1 (by exact fun h=>h hm)) (fun h1=>?_)
 refine sk (nN (sr (tm (I m) r0 (bsk hs1 sl22 [I 5,I m] [I 5,I m] trivial r0 (fun b1 w2 hs2=>?_)))))
 refine tA (sb b1 (([5,m]:List Int).length) 2) r0 (tA (.bool true) r0 (nn (rt (fret (v:=.tuple #[sb b1 (([5,m]:List Int).length) 2,.bool true]) (.tmp (.tmp .nil)) r0 ?_))))
 have e1:([5,m]:List Int)=[5,m]:=by rfl
 have e2:=congrArg List.length e1
 exact⟨(Z6 b1),2,(tup2 (slv r0 e2 r0) r0),(hs2.cast (lc (own_eq (g:=I) r0 e2 r0 e1) r0))⟩
theorem sPickBytes (m:Int) (w:World) (hm:0≤m∧m≤255):Does Tryz.prog 96 [I m] w (fun v w'=>∃ Ar:Option Addr,∃ cr:Nat,v=.tuple #[.slice Ar [5,m].length cr,.bool true]∧SH w w' [] [.own Ar ([5,m].length) cr 3 1 ([5,m].map I)]):=by
 refine fE (N:=10) Tryz.func96 r0 (by kernel_rfl) r0 ?_
 have hs0:=SH.refl w []
 refine sr (tA ns r0 (tA (.bool false) r0 (nn (sq (sq ?_)))))
 refine rg (tm (I m) r0 (cL r0 (sIn (x:=m) (lo:=0) (hi:=255) (w:=_)) ?_))
 rintro _ w1 ⟨rfl,hs1⟩
 replace hs1:=hs0.call0 hs1
 refine qt r0 (nd (p:=0≤m∧m≤255) r0) (nn ?_)
 refine cdd (p:=¬ (0≤m∧m≤255)) r0 (fun h1=>absurd h1 (by exact fun h=>h hm)) (fun h1=>?_)
 refine sk (nN (sr (tm (I m) r0 (bsk hs1 sl22 [I 5,I m] [I 5,I m] trivial r0 (fun b1 w2 hs2=>?_)))))
 refine tA (sb b1 (([5,m]:List Int).length) 2) r0 (tA (.bool true) r0 (nn (rt (fret (v:=.tuple #[sb b1 (([5,m]:List Int).length) 2,.bool true]) (.tmp (.tmp .nil)) r0 ?_))))
 have e1:([5,m]:List Int)=[5,m]:=by rfl
 have e2:=congrArg List.length e1
 exact⟨(Z6 b1),2,(tup2 (slv r0 e2 r0) r0),(hs2.cast (lc (own_eq (g:=I) r0 e2 r0 e1) r0))⟩
theorem iLoginReply (f:Bool) (w:World):Does Tryz.prog 109 [.bool f] w (fun v w'=>∃ Ar:Option Addr,∃ cr:Nat,v=.slice Ar (lrB f).length cr∧SH w w' [] [.own Ar ((lrB f).length) cr 3 1 ((lrB f).map I)]):=by
 refine fE (N:=6) Tryz.func109 r0 (by kernel_rfl) r0 ?_
 have hs0:=SH.refl w []
 refine sr (tA ns r0 (nn (sq (sr ?_))))
 refine tm (.bool f) r0 (nn ?_)
 refine cd (b:=f) r0 (fun h1=>?_) (fun h1=>?_)
 ·refine sr (bsk hs0 sl22 [I 1,I 0] [I 1,I 0] trivial r0 (fun b1 w1 hs1=>?_))
  refine tA (sb b1 (([1,0]:List Int).length) 2) r0 (nn (rt (tR ?_)))
  refine fT (sb b1 (([1,0]:List Int).length) 2) r0 ?_
  have e1:([1,0]:List Int)=lrB f:=by simp[lrB,h1]
  have e2:=congrArg List.length e1
  exact⟨(Z6 b1),2,(slv r0 e2 r0),(hs1.cast (lc (own_eq (g:=I) r0 e2 r0 e1) r0))⟩
 ·refine sk (nN (sr (bsk hs0 sl22 [I 1,I 1] [I 1,I 1] trivial r0 (fun b2 w2 hs2=>?_))))
  refine tA (sb b2 (([1,1]:List Int).length) 2) r0 (nn (rt (fT (sb b2 (([1,1]:List Int).length) 2) r0 ?_)))
  have e3:([1,1]:List Int)=lrB f:=by simp[lrB,h1]
  have e4:=congrArg List.length e3
  exact⟨(Z6 b2),2,(slv r0 e4 r0),(hs2.cast (lc (own_eq (g:=I) r0 e4 r0 e3) r0))⟩
theorem sLoginReply (f:Bool) (w:World):Does Tryz.prog 99 [.bool f] w (fun v w'=>∃ Ar:Option Addr,∃ cr:Nat,v=.slice Ar (lrB f).length cr∧SH w w' [] [.own Ar ((lrB f).length) cr 3 1 ((lrB f).map I)]):=by
 refine fE (N:=6) Tryz.func99 r0 (by kernel_rfl) r0 ?_
 have hs0:=SH.refl w []
 refine sr (tA ns r0 (nn (sq (sr ?_))))
 refine tm (.bool f) r0 (nn ?_)
 refine cd (b:=f) r0 (fun h1=>?_) (fun h1=>?_)
 ·refine sr (bsk hs0 sl22 [I 1,I 0] [I 1,I 0] trivial r0 (fun b1 w1 hs1=>?_))
  refine tA (sb b1 (([1,0]:List Int).length) 2) r0 (nn (rt (tR ?_)))
  refine fT (sb b1 (([1,0]:List Int).length) 2) r0 ?_
  have e1:([1,0]:List Int)=lrB f:=by simp[lrB,h1]
  have e2:=congrArg List.length e1
  exact⟨(Z6 b1),2,(slv r0 e2 r0),(hs1.cast (lc (own_eq (g:=I) r0 e2 r0 e1) r0))⟩
 ·refine sk (nN (sr (bsk hs0 sl22 [I 1,I 1] [I 1,I 1] trivial r0 (fun b2 w2 hs2=>?_))))
  refine tA (sb b2 (([1,1]:List Int).length) 2) r0 (nn (rt (fT (sb b2 (([1,1]:List Int).length) 2) r0 ?_)))
  have e3:([1,1]:List Int)=lrB f:=by simp[lrB,h1]
  have e4:=congrArg List.length e3
  exact⟨(Z6 b2),2,(slv r0 e4 r0),(hs2.cast (lc (own_eq (g:=I) r0 e4 r0 e3) r0))⟩
theorem iHelloPick {Awt:Option Addr} {cwt:Nat} (wt:List Int) {Ams:Option Addr} {cms:Nat} (ms:List Int) (w:World) (hwt:Sl w [] 1 Awt wt.length cwt (wt.map I)) (hms:Sl w [] 1 Ams ms.length cms (ms.map I)):Does Tryz.prog 33 [.slice Awt wt.length cwt,.slice Ams ms.length cms] w (fun v w'=>v=.int .i64 (helloPick wt ms)∧SH w w' [] []):=by
 refine fE (N:=26) Tryz.func33 r0 (by kernel_rfl) r0 ?_
 have hs0:=SH.refl w []
 have hwt_m:wt.length≤9223372036854775807:=Nat.le_trans hwt.cap hwt.capMax
 have hms_m:ms.length≤9223372036854775807:=Nat.le_trans hms.cap hms.capMax
 refine sr (tA (I 0) r0 (nn (sq (sr ?_))))
 refine tm (Z13 Awt wt cwt) r0 (cL r0 (iAreMethods (Ams:=Awt) (cms:=cwt) (ms:=wt) (w:=_) (hms:=(hwt.up0 hs0))) ?_)
 rintro _ w1 ⟨rfl,hs1⟩
 replace hs1:=hs0.call0 hs1
 refine qt r0 (nt (b:=methOk wt) r0) (tm (.bool (!(methOk wt))) r0 ?_)
 refine spl (b:=!(methOk wt)) 10 r0 (fun h1=>?_) (fun h1=>?_)
 ·have h2:(methOk wt)=false:=by simpa using h1
  refine gt5 r0 (gt5 r0 (gt5 r0 (qt r0 (pt (v:=.bool true) r0 r0) (nn (cdt r0 (sq ?_))))))
  refine rg (tA (I 255) r0 (nn (rt (tR ?_))))
  refine fT (I 255) r0 ?_
  have e1:255=helloPick wt ms:=by exact Eq.symm (pick_bad (by simp[h2]))
  exact⟨(congrArg (Value.int .i64) e1),hs1⟩
 ·have h3:(methOk wt)=true:=by simpa using h1
  refine q ⟨_,rfl,rfl⟩ r0 r0 (mv (v:=.slice Ams ms.length cms) r0) (cl ⟨_,rfl,rfl⟩ r0 (iAreMethods (Ams:=Ams) (cms:=cms) (ms:=ms) (w:=_) (hms:=(hms.up0 hs1))) ?_)
  rintro _ w2 ⟨rfl,hs2⟩
  replace hs2:=hs1.call0 hs2
  refine q ⟨_,rfl,rfl⟩ r0 r0 (nt (b:=methOk ms) r0) (qt r0 (pf (v:=.bool (!(methOk ms))) r0 r0) (nn ?_))
  refine cd (b:=!(methOk ms)) r0 (fun h4=>?_) (fun h4=>?_)
  ·have h5:(methOk ms)=false:=by simpa using h4
   refine sr (tA (I 255) r0 (nn (rt (tR ?_))))
   refine fT (I 255) r0 ?_
   have e2:255=helloPick wt ms:=by exact Eq.symm (pick_bad (by simp[h3,h5]))
   exact⟨(congrArg (Value.int .i64) e2),hs2⟩
  ·have h6:(methOk ms)=true:=by simpa using h4
   refine sk (nN (sq (sr (tm (Z13 Awt wt cwt) r0 (qt r0 (lnA (n:=wt.length) sl22 r0) (tm (I 0) r0 ?_))))))
   refine nn (bl (lp (σ:=Nat) (fun(k:Nat) f w'=>Hz f [(1,.slice Ams ms.length cms),(15,.slice Awt wt.length cwt),(16,I (wt.length:Int)),(17,I (k:Int))]∧(k≤wt.length)∧(∀ j,j<k→wt.getD j 0 ∉ ms)∧SH w w' [] []) (fun k=>wt.length-k) 0 ⟨(zR r0),(by simp),(by intro j hj; omega),hs2⟩ ?_))
   rintro k f w3 ⟨⟨g1,rfl⟩,hk,hn,hs3⟩
   refine sr (qt r0 (lss (k:=.i64) (a:=(k:Int)) (b:=(wt.length:Int)) r0 r0) (nn (sq ?_)))
   refine cdd (p:=(k:Int)<(wt.length:Int)) r0 (fun h7=>?_) (fun h7=>?_)
   ·refine sk (nN (sq (bl (sr (ixw1 k sl22 r0 r0 hwt (by omega) (getm I 0 (by omega)) trivial r0 (fun a1 ha1=>?_))))))
    refine qt r0 (lda (v:=I (wt.getD k 0)) hs3 ha1 (fun _ h=>h) r0 r0 one3) (tA (I (wt.getD k 0)) r0 (nx (tm (Z13 Ams ms cms) r0 (tm (I (wt.getD k 0)) r0 ?_))))
    refine cL r0 (slContains (Azs:=Ams) (czs:=cms) (zs:=ms) (n:=wt.getD k 0) (w:=_) (hzs:=(hms.up0 hs3))) ?_
    rintro _ w4 ⟨rfl,hs4⟩
    replace hs4:=hs3.call0 hs4
    refine nn ?_
    refine cdd (p:=(wt.getD k 0)∈ms) r0 (fun h8=>?_) (fun h8=>?_)
    ·refine sr (tm (I (wt.getD k 0)) r0 (tA (I (wt.getD k 0)) r0 (nn ?_)))
     refine rt (bR (tR (tR (bR (tR ?_)))))
     refine fT (I (wt.getD k 0)) r0 ?_
     have e3:wt.getD k 0=helloPick wt ms:=by exact Eq.symm (pick_yes ‹_› ‹_› (by omega) hn ‹_›)
     exact⟨(congrArg (Value.int .i64) e3),hs4⟩
    ·refine sk (bN (nN (rg (qt r0 (add (a:=(k:Int)) (b:=1) r0 r0 (by exact⟨by omega,by omega⟩)) (tm (I ((k:Int)+1)) r0 (nn ?_))))))
     refine⟨(k+1),⟨(zR r0),(by omega),(by intro j hj; rcases Nat.lt_succ_iff_lt_or_eq.1 hj with h | h; exact hn j h; subst h; assumption),hs4⟩,?_⟩
     omega
   ·refine ex (tE (tE (bE ?_)))
    refine nN (sr (tA (I 255) r0 (nn (rt (fT (I 255) r0 ?_)))))
    have e4:255=helloPick wt ms:=by exact Eq.symm (pick_none (by omega) hn)
    exact⟨(congrArg (Value.int .i64) e4),hs3⟩
theorem sL1Bytes {Azs:Option Addr} {czs:Nat} (zs:List Int) (w:World) (hzs:Sl w [] 1 Azs zs.length czs (zs.map I)) (hz: ∀ x∈zs,0≤x∧x≤255) (hzl:zs.length≤65535):Does Tryz.prog 144 [.slice Azs zs.length czs] w (fun v w'=>v=Str (bT zs)∧SH w w' [] []):=by
 refine fE (N:=22) Tryz.func144 r0 (by kernel_rfl) r0 ?_
 have hs0:=SH.refl w []
 have hzs_m:zs.length≤9223372036854775807:=Nat.le_trans hzs.cap hzs.capMax
 refine sr (tA (Str []) r0 (nx (bsk hs0 sl39 [] [] trivial r0 (fun b1 w1 hs1=>?_))))
 refine tA (sb b1 (([]:List UInt8).length) 0) r0 (nn (sq (sr (tA (I 0) r0 (nl ?_)))))
 refine nN (bl ?_)
 have e1:([]:List UInt8)=(bT zs).take 0:=by simp
 have e2:([]:List UInt8).length=((bT zs).take 0).length:=by rw[e1]
 refine lp (σ:=(Option Addr)×Nat×Nat) (fun⟨Ag3,cg3,k⟩ f w'=>Hz f [(0,.slice Azs zs.length czs),(3,.slice Ag3 (((bT zs).take k).length) cg3),(4,I (k:Int))]∧(k≤zs.length)∧SH w w' [] [.own Ag3 (((bT zs).take k).length) cg3 5 1 (((bT zs).take k).map U)]) (fun⟨Ag3,cg3,k⟩=>zs.length-k) ((Z6 b1),0,0) ⟨(zH ⟨rfl,(show (.slice (Z6 b1) (([]:List UInt8).length) 0:Value)=.slice (Z6 b1) (((bT zs).take 0).length) 0 from slv r0 e2 r0),rfl,trivial⟩),(by simp),(hs1.cast (lc (own_eq (g:=U) r0 e2 r0 e1) r0))⟩ ?_
 rintro ⟨Ag3,cg3,k⟩ f w2 ⟨⟨g1,rfl⟩,hk,hs2⟩
 refine sq (sr (tm (I (k:Int)) r0 (tm (Z13 Azs zs czs) r0 (qt r0 (lnA (n:=zs.length) sl22 r0) (qt r0 (lss (k:=.i64) (a:=(k:Int)) (b:=(zs.length:Int)) r0 r0) (nl ?_))))))
 refine nN ?_
 refine cdd (p:=(k:Int)<(zs.length:Int)) r0 (fun h1=>?_) (fun h1=>?_)
 ·refine sk (nN (sq (bl (rg (tm (.slice Ag3 (((bT zs).take k).length) cg3) r0 (tm (Z13 Azs zs czs) r0 (tm (I (k:Int)) r0 ?_)))))))
  refine ixw1 k sl22 r0 r0 hzs (by omega) (getm I 0 (by omega)) trivial r0 (fun a1 ha1=>?_)
  refine qt r0 (lda (v:=I (zs.getD k 0)) hs2 ha1 (fun _ h=>h) r0 r0 one3) (qt r0 (cvB (a:=zs.getD k 0) (s:=.i64) ti3 ti5 r0 (by have hgb:=getD_byte hz k; omega) (by have hgb:=getD_byte hz k; omega)) (bsk hs2 sl39 [.int .u8 (((UInt8.ofNat (zs.getD k 0).toNat).toNat:Nat):Int)] [.int .u8 (((UInt8.ofNat (zs.getD k 0).toNat).toNat:Nat):Int)] trivial r0 (fun b2 w3 hs3=>?_)))
  refine apm (g:=U) (ys:=(bT zs).take k) (zs:=([(UInt8.ofNat (zs.getD k 0).toNat)]:List UInt8)) hs3 0 r0 sl39 r0 r0 r0 (hs3.sl0 1 r0) (fun _=>rfl) (by unfold maxLen; have hbt:=bT_len zs; simp only[List.length_take,List.length_cons,List.length_nil]; omega) (by have hbt:=bT_len zs; simp only[List.length_take,List.length_cons,List.length_nil]; omega) trivial r0 (fun A1 c1 w4 hs4=>?_)
  refine tA (.slice A1 ((((bT zs).take k)++([(UInt8.ofNat (zs.getD k 0).toNat)]:List UInt8)).length) c1) r0 (nl (bN (nN (rg (tm (I (k:Int)) r0 (qt r0 (add (a:=(k:Int)) (b:=1) r0 r0 (by exact⟨by omega,by omega⟩)) (tA (I ((k:Int)+1)) r0 ?_)))))))
  refine nn ?_
  have e3:((bT zs).take k)++([(UInt8.ofNat (zs.getD k 0).toNat)]:List UInt8)=(bT zs).take (k+1):=by exact bT_app (by omega)
  have e4:(((bT zs).take k)++([(UInt8.ofNat (zs.getD k 0).toNat)]:List UInt8)).length=((bT zs).take (k+1)).length:=by rw[e3]
  refine⟨(A1,c1,k+1),⟨(zH ⟨rfl,(show (.slice A1 ((((bT zs).take k)++([(UInt8.ofNat (zs.getD k 0).toNat)]:List UInt8)).length) c1:Value)=.slice A1 (((bT zs).take (k+1)).length) c1 from slv r0 e4 r0),rfl,trivial⟩),(by omega),((hs4.pq [1] r0).cast (lc (own_eq (g:=U) r0 e4 r0 e3) r0))⟩,?_⟩
  show zs.length-(k+1)<zs.length-k
  omega
 ·refine ex (tE (tE (bE ?_)))
  refine nN (sr (tm (.slice Ag3 (((bT zs).take k).length) cg3) r0 (qt r0 (cvS (l:=(bT zs).take k) us39 ti5 st9 r0 (hs2.sl0 0 r0)) (tA (Str ((bT zs).take k)) r0 (nn ?_)))))
  refine rt (fT (Str ((bT zs).take k)) r0 ?_)
  have e5:(bT zs).take k=bT zs:=by exact bT_all (by omega)
  exact⟨(congrArg (Str) e5),(hs2.pk [] r0)⟩
theorem sL1Of {Azs:Option Addr} {czs:Nat} (zs:List Int) (w:World) (hzs:Sl w [] 1 Azs zs.length czs (zs.map I)) (hz: ∀ x∈zs,0≤x∧x≤255) (hzl:zs.length≤2):Does Tryz.prog 187 [.slice Azs zs.length czs] w (fun v w'=>v=.int .i64 (ofB zs)∧SH w w' [] []):=by
 refine fE (N:=19) Tryz.func187 r0 (by kernel_rfl) r0 ?_
 have hs0:=SH.refl w []
 have hzs_m:zs.length≤9223372036854775807:=Nat.le_trans hzs.cap hzs.capMax
 refine sr (tA (I 0) r0 (nx (tA (I 0) r0 ?_)))
 refine nn (sq (sr (tA (I 0) r0 (nn ?_))))
 refine bl (lp (σ:=Nat) (fun(k:Nat) f w'=>Hz f [(0,.slice Azs zs.length czs),(3,I (ofB (zs.take k))),(4,I (k:Int))]∧(k≤zs.length)∧SH w w' [] []) (fun k=>zs.length-k) 0 ⟨(zH ⟨rfl,(show (I 0:Value)=I (ofB (zs.take 0)) from congrArg (Value.int .i64) (by rfl)),rfl,trivial⟩),(by simp),hs0⟩ ?_)
 rintro k f w1 ⟨⟨g1,rfl⟩,hk,hs1⟩
 refine sq (sr (tm (I (k:Int)) r0 (tm (Z13 Azs zs czs) r0 (qt r0 (lnA (n:=zs.length) sl22 r0) (qt r0 (lss (k:=.i64) (a:=(k:Int)) (b:=(zs.length:Int)) r0 r0) (nl ?_))))))
 refine nN ?_
 refine cdd (p:=(k:Int)<(zs.length:Int)) r0 (fun h1=>?_) (fun h1=>?_)
 ·refine sk (nN (sq (bl (rg (tm (I (ofB (zs.take k))) r0 (qt r0 (mul (a:=256) (b:=ofB (zs.take k)) r0 r0 (by(have hob:=ofB_bd hz k hzl; have hgb:=getD_byte hz k; have hk1:k≤1:=(by omega); exact⟨by omega,by omega⟩))) (tm (Z13 Azs zs czs) r0 ?_)))))))
  refine tm (I (k:Int)) r0 (ixw1 k sl22 r0 r0 hzs (by(omega)) (getm I 0 (by(omega))) trivial r0 (fun a1 ha1=>?_))
  refine qt r0 (lda (v:=I (zs.getD k 0)) hs1 ha1 (fun _ h=>h) r0 r0 one3) (qt r0 (add (a:=256*(ofB (zs.take k))) (b:=zs.getD k 0) r0 r0 (by(have hob:=ofB_bd hz k hzl; have hgb:=getD_byte hz k; have hk1:k≤1:=(by omega); exact⟨by omega,by omega⟩))) (tA (I ((256*(ofB (zs.take k)))+(zs.getD k 0))) r0 (nl (bN (nN (rg (tm (I (k:Int)) r0 ?_)))))))
  refine qt r0 (add (a:=(k:Int)) (b:=1) r0 r0 (by(exact⟨by omega,by omega⟩))) (tA (I ((k:Int)+1)) r0 (nn ?_))
  refine⟨(k+1),⟨(zH ⟨rfl,(show (I ((256*(ofB (zs.take k)))+(zs.getD k 0)):Value)=I (ofB (zs.take (k+1))) from congrArg (Value.int .i64) (by exact(ofB_take (by omega)).symm)),rfl,trivial⟩),(by omega),hs1⟩,?_⟩
  omega
 ·refine ex (tE (tE (bE ?_)))
  refine nN (sr (tm (I (ofB (zs.take k))) r0 (tA (I (ofB (zs.take k))) r0 (nn (rt ?_)))))
  refine fT (I (ofB (zs.take k))) r0 ?_
  have e1:ofB (zs.take k)=ofB zs:=by rw[List.take_of_length_le (by omega)]
  exact⟨(congrArg (Value.int .i64) e1),hs1⟩
theorem sHelloFrom {Abs:Option Addr} {cbs:Nat} (bs:List Int) (w:World) (hbs:Sl w [] 1 Abs bs.length cbs (bs.map I)):Does Tryz.prog 94 [.slice Abs bs.length cbs] w (fun v w'=>∃ Ar:Option Addr,∃ cr:Nat,v=.tuple #[.slice Ar ((helloFrom bs).1).length cr,.int .i64 ((helloFrom bs).2.1),.bool ((helloFrom bs).2.2)]∧SH w w' [] [.own Ar (((helloFrom bs).1).length) cr 3 1 (((helloFrom bs).1).map I)]):=by
 refine fE (N:=46) Tryz.func94 r0 (by kernel_rfl) r0 ?_
 have hs0:=SH.refl w []
 have hbs_m:bs.length≤9223372036854775807:=Nat.le_trans hbs.cap hbs.capMax
 refine sr (tA ns r0 (tA (I 0) r0 (tA (.bool false) r0 (nn (sq ?_)))))
 refine sr (tm (Z13 Abs bs cbs) r0 (cL r0 (sBytesValid (Azs:=Abs) (czs:=cbs) (zs:=bs) (w:=_) (hzs:=(hbs.up0 hs0))) ?_))
 rintro _ w1 ⟨rfl,hs1⟩
 replace hs1:=hs0.call0 hs1
 refine qt r0 (nt (b:=isBytes bs) r0) (tm (.bool (!(isBytes bs))) r0 ?_)
 refine spl (b:=!(isBytes bs)) 9 r0 (fun h1=>?_) (fun h1=>?_)
 ·have h2:(isBytes bs)=false:=by simpa using h1
  refine gt5 r0 (gt5 r0 (gt5 r0 (qt r0 (pt (v:=.bool true) r0 r0) (tm (.bool true) r0 (gt5 r0 (gt5 r0 (gt5 r0 ?_)))))))
  refine gt5 r0 (qt r0 (pt (v:=.bool true) r0 r0) (tm (.bool true) r0 (gt5 r0 (gt5 r0 (gt5 r0 (gt5 r0 (gt5 r0 ?_)))))))
  refine gt5 r0 (gt5 r0 (qt r0 (pt (v:=.bool true) r0 r0) (nn (cdt r0 (sr ?_)))))
  refine bsk hs1 sl22 [] [] trivial r0 (fun b1 w2 hs2=>?_)
  refine tA (sb b1 (([]:List Int).length) 0) r0 (tA (I 0) r0 (tA (.bool false) r0 (nn (rt (tR ?_)))))
  refine fret (v:=.tuple #[sb b1 (([]:List Int).length) 0,I 0,.bool false]) (.tmp (.tmp (.tmp .nil))) r0 ?_
  have e1:helloFrom bs=(([]:List Int),0,false):=by exact hello_n (.inl ‹_›)
  have e2:=pj1 e1
  have e3:=congrArg List.length e2
  have e4:=pj21 e1
  have e5:=pj22 e1
  exact⟨(Z6 b1),0,(tup3 (slv r0 e3 r0) (congrArg (Value.int .i64) e4) (congrArg (Value.bool) e5)),(hs2.cast (lc (own_eq (g:=I) r0 e3 r0 e2) r0))⟩
 ·have h3:(isBytes bs)=true:=by simpa using h1
  refine q ⟨_,rfl,rfl⟩ r0 r0 (mv (v:=.slice Abs bs.length cbs) r0) (q ⟨_,rfl,rfl⟩ r0 r0 (lnA (n:=bs.length) sl22 r0) (q ⟨_,rfl,rfl⟩ r0 r0 (lss (k:=.i64) (a:=(bs.length:Int)) (b:=3) r0 r0) (qt r0 (pf (v:=.bool (decide ((bs.length:Int)<3))) r0 r0) (tm (.bool (decide ((bs.length:Int)<3))) r0 ?_))))
  refine spd (p:=(bs.length:Int)<3) 14 r0 (fun h4=>?_) (fun h4=>?_)
  ·refine gt5 r0 (gt5 r0 (gt5 r0 (gt5 r0 (qt r0 (pt (v:=.bool true) r0 r0) (tm (.bool true) r0 (gt5 r0 (gt5 r0 ?_)))))))
   refine gt5 r0 (gt5 r0 (gt5 r0 (gt5 r0 (gt5 r0 (qt r0 (pt (v:=.bool true) r0 r0) (nn ?_))))))
   refine cdt r0 (sr (bsk hs1 sl22 [] [] trivial r0 (fun b2 w3 hs3=>?_)))
   refine tA (sb b2 (([]:List Int).length) 0) r0 (tA (I 0) r0 (tA (.bool false) r0 (nn (rt (tR ?_)))))
   refine fret (v:=.tuple #[sb b2 (([]:List Int).length) 0,I 0,.bool false]) (.tmp (.tmp (.tmp .nil))) r0 ?_
   have e6:helloFrom bs=(([]:List Int),0,false):=by exact hello_n (.inr (.inl (by omega)))
   have e7:=pj1 e6
   have e8:=congrArg List.length e7
   have e9:=pj21 e6
   have e10:=pj22 e6
   exact⟨(Z6 b2),0,(tup3 (slv r0 e8 r0) (congrArg (Value.int .i64) e9) (congrArg (Value.bool) e10)),(hs3.cast (lc (own_eq (g:=I) r0 e8 r0 e7) r0))⟩
  ·refine q ⟨_,rfl,rfl⟩ r0 r0 (mv (v:=.slice Abs bs.length cbs) r0) (ixw1 0 sl22 r0 r0 hbs (by(omega)) (getm I 0 (by(omega))) ⟨_,rfl,rfl⟩ r0 (fun a1 ha1=>?_))
   refine q ⟨_,rfl,rfl⟩ r0 r0 (lda (v:=I (bs.getD 0 0)) hs1 ha1 (fun _ h=>h) r0 r0 one3) (q ⟨_,rfl,rfl⟩ r0 r0 (nei (k:=.i64) (a:=bs.getD 0 0) (b:=5) r0 r0) (qt r0 (pf (v:=.bool (decide ((bs.getD 0 0)≠5))) r0 r0) (tm (.bool (decide ((bs.getD 0 0)≠5))) r0 ?_)))
   refine spd (p:=(bs.getD 0 0)≠5) 20 r0 (fun h5=>?_) (fun h5=>?_)
   ·refine gt5 r0 (gt5 r0 (gt5 r0 (gt5 r0 (gt5 r0 (gt5 r0 (gt5 r0 (qt r0 (pt (v:=.bool true) r0 r0) ?_)))))))
    refine nn (cdt r0 (sr (bsk hs1 sl22 [] [] trivial r0 (fun b3 w4 hs4=>?_))))
    refine tA (sb b3 (([]:List Int).length) 0) r0 (tA (I 0) r0 (tA (.bool false) r0 (nn (rt (tR ?_)))))
    refine fret (v:=.tuple #[sb b3 (([]:List Int).length) 0,I 0,.bool false]) (.tmp (.tmp (.tmp .nil))) r0 ?_
    have e11:helloFrom bs=(([]:List Int),0,false):=by exact hello_n (.inr (.inr (.inl ‹_›)))
    have e12:=pj1 e11
    have e13:=congrArg List.length e12
    have e14:=pj21 e11
    have e15:=pj22 e11
    exact⟨(Z6 b3),0,(tup3 (slv r0 e13 r0) (congrArg (Value.int .i64) e14) (congrArg (Value.bool) e15)),(hs4.cast (lc (own_eq (g:=I) r0 e13 r0 e12) r0))⟩
   ·refine q ⟨_,rfl,rfl⟩ r0 r0 (mv (v:=.slice Abs bs.length cbs) r0) (ixw1 1 sl22 r0 r0 hbs (by(omega)) (getm I 0 (by(omega))) ⟨_,rfl,rfl⟩ r0 (fun a2 ha2=>?_))
    refine q ⟨_,rfl,rfl⟩ r0 r0 (lda (v:=I (bs.getD 1 0)) hs1 ha2 (fun _ h=>h) r0 r0 one3) (q ⟨_,rfl,rfl⟩ r0 r0 (mv (v:=.slice Abs bs.length cbs) r0) (q ⟨_,rfl,rfl⟩ r0 r0 (lnA (n:=bs.length) sl22 r0) (q ⟨_,rfl,rfl⟩ r0 r0 (sub (a:=(bs.length:Int)) (b:=2) r0 r0 (by(exact⟨by omega,by omega⟩))) (q ⟨_,rfl,rfl⟩ r0 r0 (gtr (k:=.i64) (a:=bs.getD 1 0) (b:=(bs.length:Int)-2) r0 r0) (qt r0 (pf (v:=.bool (decide (((bs.length:Int)-2)<(bs.getD 1 0)))) r0 r0) (nn ?_))))))
    refine cdd (p:=((bs.length:Int)-2)<(bs.getD 1 0)) r0 (fun h6=>?_) (fun h6=>?_)
    ·refine sr (bsk hs1 sl22 [] [] trivial r0 (fun b4 w5 hs5=>?_))
     refine tA (sb b4 (([]:List Int).length) 0) r0 (tA (I 0) r0 (tA (.bool false) r0 (nn (rt (tR ?_)))))
     refine fret (v:=.tuple #[sb b4 (([]:List Int).length) 0,I 0,.bool false]) (.tmp (.tmp (.tmp .nil))) r0 ?_
     have e16:helloFrom bs=(([]:List Int),0,false):=by exact hello_n (.inr (.inr (.inr (.inl (by omega)))))
     have e17:=pj1 e16
     have e18:=congrArg List.length e17
     have e19:=pj21 e16
     have e20:=pj22 e16
     exact⟨(Z6 b4),0,(tup3 (slv r0 e18 r0) (congrArg (Value.int .i64) e19) (congrArg (Value.bool) e20)),(hs5.cast (lc (own_eq (g:=I) r0 e18 r0 e17) r0))⟩
    ·refine sk (nN (sr (bsk hs1 sl22 [] [] trivial r0 (fun b5 w6 hs6=>?_))))
     refine tm (Z13 Abs bs cbs) r0 (tm (Z13 Abs bs cbs) r0 (ixw1 1 sl22 r0 r0 hbs (by(omega)) (getm I 0 (by(omega))) trivial r0 (fun a3 ha3=>?_)))
     refine qt r0 (lda (v:=I (bs.getD 1 0)) hs6 ha3 (fun _ h=>h) r0 r0 one3) (qt r0 (add (a:=2) (b:=bs.getD 1 0) r0 r0 (by have hg1:=isBytes_get (by assumption:isBytes bs=true) (k:=1) (by omega); (try simp only[List.length_drop,List.length_take]); have hbl:=isBytes_len (by assumption:isBytes bs=true); exact⟨by omega,by omega⟩)) (qt r0 (cum (zs:=bs) 2 ((2+(bs.getD 1 0)).toNat) sl22 r0 r0 (ieq (x:=2+(bs.getD 1 0)) (by(have hg1:=isBytes_get (by assumption:isBytes bs=true) (k:=1) (by omega); omega))) (by(have hg1:=isBytes_get (by assumption:isBytes bs=true) (k:=1) (by omega); omega)) (by(omega)) hbs.cap) (apm (g:=I) (ys:=([]:List Int)) (zs:=(bs.take ((2+(bs.getD 1 0)).toNat)).drop 2) hs6 0 r0 sl22 r0 r0 r0 (Sl.cutm (hbs.up0 hs6) (by(have hg1:=isBytes_get (by assumption:isBytes bs=true) (k:=1) (by omega); omega)) (by(omega))) (fun _=>rfl) (by unfold maxLen; have hg1:=isBytes_get (by assumption:isBytes bs=true) (k:=1) (by omega); simp only[List.length_nil,List.length_drop,List.length_take]; have hbl:=isBytes_len (by assumption:isBytes bs=true); omega) (by have hg1:=isBytes_get (by assumption:isBytes bs=true) (k:=1) (by omega); simp only[List.length_nil,List.length_drop,List.length_take]; have hbl:=isBytes_len (by assumption:isBytes bs=true); omega) trivial r0 (fun A1 c1 w7 hs7=>?_))))
     refine tA (.slice A1 (((bs.take ((2+(bs.getD 1 0)).toNat)).drop 2).length) c1) r0 (nn (sq (sr (tm (.slice A1 (((bs.take ((2+(bs.getD 1 0)).toNat)).drop 2).length) c1) r0 (cL r0 (sL5Ok (Ams:=A1) (cms:=c1) (ms:=(bs.take ((2+(bs.getD 1 0)).toNat)).drop 2) (w:=_) (hms:=(hs7.sl0 0 r0))) ?_)))))
     rintro _ w8 ⟨rfl,hs8⟩
     replace hs8:=hs7.call0 hs8
     refine qt r0 (nt (b:=methOk ((bs.take ((2+(bs.getD 1 0)).toNat)).drop 2)) r0) (nn ?_)
     refine cd (b:=!(methOk ((bs.take ((2+(bs.getD 1 0)).toNat)).drop 2))) r0 (fun h7=>?_) (fun h7=>?_)
     ·have h8:(methOk ((bs.take ((2+(bs.getD 1 0)).toNat)).drop 2))=false:=by simpa using h7
      refine sr (bsk hs8 sl22 [] [] trivial r0 (fun b6 w9 hs9=>?_))
      refine tA (sb b6 (([]:List Int).length) 0) r0 (tA (I 0) r0 (tA (.bool false) r0 (nn (rt (tR ?_)))))
      refine fret (v:=.tuple #[sb b6 (([]:List Int).length) 0,I 0,.bool false]) (.tmp (.tmp (.tmp .nil))) r0 ?_
      have e21:helloFrom bs=(([]:List Int),0,false):=by exact hello_n (.inr (.inr (.inr (.inr ⟨by assumption,by omega,by assumption⟩))))
      have e22:=pj1 e21
      have e23:=congrArg List.length e22
      have e24:=pj21 e21
      have e25:=pj22 e21
      exact⟨(Z6 b6),0,(tup3 (slv r0 e23 r0) (congrArg (Value.int .i64) e24) (congrArg (Value.bool) e25)),((hs9.pq [1] r0).cast (lc (own_eq (g:=I) r0 e23 r0 e22) r0))⟩
     ·have h9:(methOk ((bs.take ((2+(bs.getD 1 0)).toNat)).drop 2))=true:=by simpa using h7
      refine sk (nN (sr (tm (.slice A1 (((bs.take ((2+(bs.getD 1 0)).toNat)).drop 2).length) c1) r0 (tm (.slice A1 (((bs.take ((2+(bs.getD 1 0)).toNat)).drop 2).length) c1) r0 (qt r0 (lnA (n:=((bs.take ((2+(bs.getD 1 0)).toNat)).drop 2).length) sl22 r0) (qt r0 (add (a:=2) (b:=((((bs.take ((2+(bs.getD 1 0)).toNat)).drop 2).length:Nat):Int)) r0 r0 (by have hg1:=isBytes_get (by assumption:isBytes bs=true) (k:=1) (by omega); (try simp only[List.length_drop,List.length_take]); have hbl:=isBytes_len (by assumption:isBytes bs=true); exact⟨by omega,by omega⟩)) ?_))))))
      refine tA (.slice A1 (((bs.take ((2+(bs.getD 1 0)).toNat)).drop 2).length) c1) r0 (tA (I (2+((((bs.take ((2+(bs.getD 1 0)).toNat)).drop 2).length:Nat):Int))) r0 (tA (.bool true) r0 (nn (rt (fret (v:=.tuple #[.slice A1 (((bs.take ((2+(bs.getD 1 0)).toNat)).drop 2).length) c1,I (2+((((bs.take ((2+(bs.getD 1 0)).toNat)).drop 2).length:Nat):Int)),.bool true]) (.tmp (.tmp (.tmp .nil))) r0 ?_)))))
      have e26:helloFrom bs=((bs.take ((2+(bs.getD 1 0)).toNat)).drop 2,2+((((bs.take ((2+(bs.getD 1 0)).toNat)).drop 2).length:Nat):Int),true):=by exact hello_y ‹_› (by omega) (Decidable.not_not.1 ‹_›) (by omega) ‹_›
      have e27:=pj1 e26
      have e28:=congrArg List.length e27
      have e29:=pj21 e26
      have e30:=pj22 e26
      exact⟨A1,c1,(tup3 (slv r0 e28 r0) (congrArg (Value.int .i64) e29) (congrArg (Value.bool) e30)),(hs8.cast (lc (own_eq (g:=I) r0 e28 r0 e27) r0))⟩
theorem sHelloPick {Awt:Option Addr} {cwt:Nat} (wt:List Int) {Ams:Option Addr} {cms:Nat} (ms:List Int) (w:World) (hwt:Sl w [] 1 Awt wt.length cwt (wt.map I)) (hms:Sl w [] 1 Ams ms.length cms (ms.map I)):Does Tryz.prog 95 [.slice Awt wt.length cwt,.slice Ams ms.length cms] w (fun v w'=>v=.int .i64 (helloPick wt ms)∧SH w w' [] []):=by
 refine fE (N:=30) Tryz.func95 r0 (by kernel_rfl) r0 ?_
 have hs0:=SH.refl w []
 have hwt_m:wt.length≤9223372036854775807:=Nat.le_trans hwt.cap hwt.capMax
 have hms_m:ms.length≤9223372036854775807:=Nat.le_trans hms.cap hms.capMax
 refine sr (tA (I 0) r0 (nn (sq (sr ?_))))
 refine tm (Z13 Awt wt cwt) r0 (cL r0 (sL5Ok (Ams:=Awt) (cms:=cwt) (ms:=wt) (w:=_) (hms:=(hwt.up0 hs0))) ?_)
 rintro _ w1 ⟨rfl,hs1⟩
 replace hs1:=hs0.call0 hs1
 refine qt r0 (nt (b:=methOk wt) r0) (tm (.bool (!(methOk wt))) r0 ?_)
 refine spl (b:=!(methOk wt)) 9 r0 (fun h1=>?_) (fun h1=>?_)
 ·have h2:(methOk wt)=false:=by simpa using h1
  refine gt5 r0 (gt5 r0 (gt5 r0 (qt r0 (pt (v:=.bool true) r0 r0) (nn (cdt r0 (sq ?_))))))
  refine rg (tA (I 255) r0 (nn (rt (tR ?_))))
  refine fT (I 255) r0 ?_
  have e1:255=helloPick wt ms:=by exact Eq.symm (pick_bad (by simp[h2]))
  exact⟨(congrArg (Value.int .i64) e1),hs1⟩
 ·have h3:(methOk wt)=true:=by simpa using h1
  refine q ⟨_,rfl,rfl⟩ r0 r0 (mv (v:=.slice Ams ms.length cms) r0) (cl ⟨_,rfl,rfl⟩ r0 (sL5Ok (Ams:=Ams) (cms:=cms) (ms:=ms) (w:=_) (hms:=(hms.up0 hs1))) ?_)
  rintro _ w2 ⟨rfl,hs2⟩
  replace hs2:=hs1.call0 hs2
  refine q ⟨_,rfl,rfl⟩ r0 r0 (nt (b:=methOk ms) r0) (qt r0 (pf (v:=.bool (!(methOk ms))) r0 r0) (nn ?_))
  refine cd (b:=!(methOk ms)) r0 (fun h4=>?_) (fun h4=>?_)
  ·have h5:(methOk ms)=false:=by simpa using h4
   refine sr (tA (I 255) r0 (nn (rt (tR ?_))))
   refine fT (I 255) r0 ?_
   have e2:255=helloPick wt ms:=by exact Eq.symm (pick_bad (by simp[h3,h5]))
   exact⟨(congrArg (Value.int .i64) e2),hs2⟩
  ·have h6:(methOk ms)=true:=by simpa using h4
   refine sk (nN (sq (sr (tA (I 0) r0 (nn ?_)))))
   refine bl (lp (σ:=Nat) (fun(k:Nat) f w'=>Hz f [(0,.slice Awt wt.length cwt),(1,.slice Ams ms.length cms),(5,I (k:Int))]∧(k≤wt.length)∧(∀ j,j<k→wt.getD j 0 ∉ ms)∧SH w w' [] []) (fun k=>wt.length-k) 0 ⟨(zR r0),(by simp),(by intro j hj; omega),hs2⟩ ?_)
   rintro k f w3 ⟨⟨g1,rfl⟩,hk,hn,hs3⟩
   refine sq (sr (tm (I (k:Int)) r0 (tm (Z13 Awt wt cwt) r0 (qt r0 (lnA (n:=wt.length) sl22 r0) (qt r0 (lss (k:=.i64) (a:=(k:Int)) (b:=(wt.length:Int)) r0 r0) (nl ?_))))))
   refine nN ?_
   refine cdd (p:=(k:Int)<(wt.length:Int)) r0 (fun h7=>?_) (fun h7=>?_)
   ·refine sk (nN (sq (bl (sr (tm (Z13 Ams ms cms) r0 (tm (Z13 Awt wt cwt) r0 ?_))))))
    refine tm (I (k:Int)) r0 (ixw1 k sl22 r0 r0 hwt (by omega) (getm I 0 (by omega)) trivial r0 (fun a1 ha1=>?_))
    refine qt r0 (lda (v:=I (wt.getD k 0)) hs3 ha1 (fun _ h=>h) r0 r0 one3) (cL r0 (l5Has (Azs:=Ams) (czs:=cms) (zs:=ms) (n:=wt.getD k 0) (w:=_) (hzs:=(hms.up0 hs3))) ?_)
    rintro _ w4 ⟨rfl,hs4⟩
    replace hs4:=hs3.call0 hs4
    refine nn ?_
    refine cdd (p:=(wt.getD k 0)∈ms) r0 (fun h8=>?_) (fun h8=>?_)
    ·refine sr (tm (Z13 Awt wt cwt) r0 (tm (I (k:Int)) r0 (ixw1 k sl22 r0 r0 hwt (by omega) (getm I 0 (by omega)) trivial r0 (fun a2 ha2=>?_))))
     refine qt r0 (lda (v:=I (wt.getD k 0)) hs4 ha2 (fun _ h=>h) r0 r0 one3) (tA (I (wt.getD k 0)) r0 (nn ?_))
     refine rt (bR (tR (tR (bR (tR ?_)))))
     refine fT (I (wt.getD k 0)) r0 ?_
     have e3:wt.getD k 0=helloPick wt ms:=by exact Eq.symm (pick_yes ‹_› ‹_› (by omega) hn ‹_›)
     exact⟨(congrArg (Value.int .i64) e3),hs4⟩
    ·refine sk (bN (nN (rg (tm (I (k:Int)) r0 (qt r0 (add (a:=(k:Int)) (b:=1) r0 r0 (by exact⟨by omega,by omega⟩)) (tA (I ((k:Int)+1)) r0 (nl ?_)))))))
     refine nN ?_
     refine⟨(k+1),⟨(zR r0),(by omega),(by intro j hj; rcases Nat.lt_succ_iff_lt_or_eq.1 hj with h | h; exact hn j h; subst h; assumption),hs4⟩,?_⟩
     omega
   ·refine ex (tE (tE (bE ?_)))
    refine nN (sr (tA (I 255) r0 (nn (rt (fT (I 255) r0 ?_)))))
    have e4:255=helloPick wt ms:=by exact Eq.symm (pick_none (by omega) hn)
    exact⟨(congrArg (Value.int .i64) e4),hs3⟩
set_option maxHeartbeats 8000000 in
theorem sLoginFrom {Abs:Option Addr} {cbs:Nat} (bs:List Int) (w:World) (hbs:Sl w [] 1 Abs bs.length cbs (bs.map I)):Does Tryz.prog 97 [.slice Abs bs.length cbs] w (fun v w'=>v=.tuple #[.agg #[Str ((loginFrom bs).1.1),Str ((loginFrom bs).1.2)],.int .i64 ((loginFrom bs).2.1),.bool ((loginFrom bs).2.2)]∧SH w w' [] []):=by
 refine fE (N:=71) Tryz.func97 r0 (by kernel_rfl) r0 ?_
 have hs0:=SH.refl w []
 have hbs_m:bs.length≤9223372036854775807:=Nat.le_trans hbs.cap hbs.capMax
 refine sr (al (v:=.agg #[Str [],Str []]) (cs:=[Str [],Str []]) hs0 tz51 r0 trivial r0 (fun b1 w1 hs1=>?_))
 refine tA (I 0) r0 (tA (.bool false) r0 (nn (sq (sr (tm (Z13 Abs bs cbs) r0 ?_)))))
 refine cL r0 (sBytesValid (Azs:=Abs) (czs:=cbs) (zs:=bs) (w:=_) (hzs:=(hbs.up0 hs1))) ?_
 rintro _ w2 ⟨rfl,hs2⟩
 replace hs2:=hs1.call0 hs2
 refine qt r0 (nt (b:=isBytes bs) r0) (tm (.bool (!(isBytes bs))) r0 ?_)
 refine spl (b:=!(isBytes bs)) 11 r0 (fun h1=>?_) (fun h1=>?_)
 ·have h2:(isBytes bs)=false:=by simpa using h1
  refine gt5 r0 (gt5 r0 (gt5 r0 (qt r0 (pt (v:=.bool true) r0 r0) (tm (.bool true) r0 (gt5 r0 (gt5 r0 (gt5 r0 ?_)))))))
  refine gt5 r0 (qt r0 (pt (v:=.bool true) r0 r0) (tm (.bool true) r0 (gt5 r0 (gt5 r0 (gt5 r0 (gt5 r0 (gt5 r0 ?_)))))))
  refine gt5 r0 (gt5 r0 (qt r0 (pt (v:=.bool true) r0 r0) (nn (cdt r0 (sr ?_)))))
  refine qt r0 (bdv (v:=.agg #[Str [],Str []]) [] r0 (fun _=>by kernel_rfl)) (sG [Str [],Str []] hs2 0 r0 ag51 (fun w3 hs3=>?_))
  refine tA (I 0) r0 (tA (.bool false) r0 (nn (rt (tR ?_))))
  refine fret (v:=.tuple #[.agg #[Str [],Str []],I 0,.bool false]) (resC hs3 0 r0 r0 ag51 r0 (.tmp (.tmp .nil))) r0 ?_
  have e1:loginFrom bs=(([],[]),0,false):=by exact login_no (.inl ‹_›)
  have e2:=pj11 e1
  have e3:=pj12 e1
  have e4:=pj21 e1
  have e5:=pj22 e1
  exact⟨(tup3 (aggv (lc (congrArg (Str) e2) (lc (congrArg (Str) e3) r0))) (congrArg (Value.int .i64) e4) (congrArg (Value.bool) e5)),(hs3.pk [] r0)⟩
 ·have h3:(isBytes bs)=true:=by simpa using h1
  refine q ⟨_,rfl,rfl⟩ r0 r0 (mv (v:=.slice Abs bs.length cbs) r0) (q ⟨_,rfl,rfl⟩ r0 r0 (lnA (n:=bs.length) sl22 r0) (q ⟨_,rfl,rfl⟩ r0 r0 (lss (k:=.i64) (a:=(bs.length:Int)) (b:=5) r0 r0) (qt r0 (pf (v:=.bool (decide ((bs.length:Int)<5))) r0 r0) (tm (.bool (decide ((bs.length:Int)<5))) r0 ?_))))
  refine spd (p:=(bs.length:Int)<5) 16 r0 (fun h4=>?_) (fun h4=>?_)
  ·refine gt5 r0 (gt5 r0 (gt5 r0 (gt5 r0 (qt r0 (pt (v:=.bool true) r0 r0) (tm (.bool true) r0 (gt5 r0 (gt5 r0 ?_)))))))
   refine gt5 r0 (gt5 r0 (gt5 r0 (gt5 r0 (gt5 r0 (qt r0 (pt (v:=.bool true) r0 r0) (nn ?_))))))
   refine cdt r0 (sr (qt r0 (bdv (v:=.agg #[Str [],Str []]) [] r0 (fun _=>by kernel_rfl)) (sG [Str [],Str []] hs2 0 r0 ag51 (fun w4 hs4=>?_))))
   refine tA (I 0) r0 (tA (.bool false) r0 (nn (rt (tR ?_))))
   refine fret (v:=.tuple #[.agg #[Str [],Str []],I 0,.bool false]) (resC hs4 0 r0 r0 ag51 r0 (.tmp (.tmp .nil))) r0 ?_
   have e6:loginFrom bs=(([],[]),0,false):=by exact login_no (.inr (.inl (by omega)))
   have e7:=pj11 e6
   have e8:=pj12 e6
   have e9:=pj21 e6
   have e10:=pj22 e6
   exact⟨(tup3 (aggv (lc (congrArg (Str) e7) (lc (congrArg (Str) e8) r0))) (congrArg (Value.int .i64) e9) (congrArg (Value.bool) e10)),(hs4.pk [] r0)⟩
  ·refine q ⟨_,rfl,rfl⟩ r0 r0 (mv (v:=.slice Abs bs.length cbs) r0) (ixw1 0 sl22 r0 r0 hbs (by(omega)) (getm I 0 (by(omega))) ⟨_,rfl,rfl⟩ r0 (fun a1 ha1=>?_))
   refine q ⟨_,rfl,rfl⟩ r0 r0 (lda (v:=I (bs.getD 0 0)) hs2 ha1 (fun _ h=>h) r0 r0 one3) (q ⟨_,rfl,rfl⟩ r0 r0 (nei (k:=.i64) (a:=bs.getD 0 0) (b:=1) r0 r0) (qt r0 (pf (v:=.bool (decide ((bs.getD 0 0)≠1))) r0 r0) (tm (.bool (decide ((bs.getD 0 0)≠1))) r0 ?_)))
   refine spd (p:=(bs.getD 0 0)≠1) 22 r0 (fun h5=>?_) (fun h5=>?_)
   ·refine gt5 r0 (gt5 r0 (gt5 r0 (gt5 r0 (gt5 r0 (gt5 r0 (gt5 r0 (qt r0 (pt (v:=.bool true) r0 r0) ?_)))))))
    refine nn (cdt r0 (sr (qt r0 (bdv (v:=.agg #[Str [],Str []]) [] r0 (fun _=>by kernel_rfl)) (sG [Str [],Str []] hs2 0 r0 ag51 (fun w5 hs5=>?_)))))
    refine tA (I 0) r0 (tA (.bool false) r0 (nn (rt (tR ?_))))
    refine fret (v:=.tuple #[.agg #[Str [],Str []],I 0,.bool false]) (resC hs5 0 r0 r0 ag51 r0 (.tmp (.tmp .nil))) r0 ?_
    have e11:loginFrom bs=(([],[]),0,false):=by exact login_no (.inr (.inr (.inl ‹_›)))
    have e12:=pj11 e11
    have e13:=pj12 e11
    have e14:=pj21 e11
    have e15:=pj22 e11
    exact⟨(tup3 (aggv (lc (congrArg (Str) e12) (lc (congrArg (Str) e13) r0))) (congrArg (Value.int .i64) e14) (congrArg (Value.bool) e15)),(hs5.pk [] r0)⟩
   ·refine q ⟨_,rfl,rfl⟩ r0 r0 (mv (v:=.slice Abs bs.length cbs) r0) (ixw1 1 sl22 r0 r0 hbs (by(omega)) (getm I 0 (by(omega))) ⟨_,rfl,rfl⟩ r0 (fun a2 ha2=>?_))
    refine q ⟨_,rfl,rfl⟩ r0 r0 (lda (v:=I (bs.getD 1 0)) hs2 ha2 (fun _ h=>h) r0 r0 one3) (q ⟨_,rfl,rfl⟩ r0 r0 (mv (v:=.slice Abs bs.length cbs) r0) (q ⟨_,rfl,rfl⟩ r0 r0 (lnA (n:=bs.length) sl22 r0) (q ⟨_,rfl,rfl⟩ r0 r0 (sub (a:=(bs.length:Int)) (b:=3) r0 r0 (by(exact⟨by omega,by omega⟩))) (q ⟨_,rfl,rfl⟩ r0 r0 (gtr (k:=.i64) (a:=bs.getD 1 0) (b:=(bs.length:Int)-3) r0 r0) (qt r0 (pf (v:=.bool (decide (((bs.length:Int)-3)<(bs.getD 1 0)))) r0 r0) (nn ?_))))))
    refine cdd (p:=((bs.length:Int)-3)<(bs.getD 1 0)) r0 (fun h6=>?_) (fun h6=>?_)
    ·refine sr (qt r0 (bdv (v:=.agg #[Str [],Str []]) [] r0 (fun _=>by kernel_rfl)) (sG [Str [],Str []] hs2 0 r0 ag51 (fun w6 hs6=>?_)))
     refine tA (I 0) r0 (tA (.bool false) r0 (nn (rt (tR ?_))))
     refine fret (v:=.tuple #[.agg #[Str [],Str []],I 0,.bool false]) (resC hs6 0 r0 r0 ag51 r0 (.tmp (.tmp .nil))) r0 ?_
     have e16:loginFrom bs=(([],[]),0,false):=by exact login_no (.inr (.inr (.inr (.inl (by omega)))))
     have e17:=pj11 e16
     have e18:=pj12 e16
     have e19:=pj21 e16
     have e20:=pj22 e16
     exact⟨(tup3 (aggv (lc (congrArg (Str) e17) (lc (congrArg (Str) e18) r0))) (congrArg (Value.int .i64) e19) (congrArg (Value.bool) e20)),(hs6.pk [] r0)⟩
    ·refine sk (nN (sr (tm (Z13 Abs bs cbs) r0 (ixw1 1 sl22 r0 r0 hbs (by(omega)) (getm I 0 (by(omega))) trivial r0 (fun a3 ha3=>?_)))))
     refine qt r0 (lda (v:=I (bs.getD 1 0)) hs2 ha3 (fun _ h=>h) r0 r0 one3) (qt r0 (add (a:=2) (b:=bs.getD 1 0) r0 r0 (by((first | (have hg1:=isBytes_get (by assumption:isBytes bs=true) (k:=1) (by omega); have hg2:=isBytes_get (by assumption:isBytes bs=true) (k:=2+(bs.getD 1 0).toNat) (by omega); have hbl:=isBytes_len (by assumption:isBytes bs=true)) | (have hg1:=isBytes_get (by assumption:isBytes bs=true) (k:=1) (by omega))); exact⟨by omega,by omega⟩))) (tA (I (2+(bs.getD 1 0))) r0 ?_))
     have e21:2+(bs.getD 1 0)=((2+(bs.getD 1 0).toNat:Nat):Int):=by have hg1:=isBytes_get (by assumption:isBytes bs=true) (k:=1) (by omega); omega
     refine re 5 (v:=I ((2+(bs.getD 1 0).toNat:Nat):Int)) (congrArg (Value.int .i64) e21) (nn (sq (sr (tm (Z13 Abs bs cbs) r0 (tm (I ((2+(bs.getD 1 0).toNat:Nat):Int)) r0 ?_)))))
     refine ixw1 (2+(bs.getD 1 0).toNat) sl22 r0 r0 hbs (by(omega)) (getm I 0 (by(omega))) trivial r0 (fun a4 ha4=>?_)
     refine qt r0 (lda (v:=I (bs.getD (2+(bs.getD 1 0).toNat) 0)) hs2 ha4 (fun _ h=>h) r0 r0 one3) (tm (Z13 Abs bs cbs) r0 (qt r0 (lnA (n:=bs.length) sl22 r0) (tm (I ((2+(bs.getD 1 0).toNat:Nat):Int)) r0 (qt r0 (sub (a:=(bs.length:Int)) (b:=((2+(bs.getD 1 0).toNat:Nat):Int)) r0 r0 (by(exact⟨by omega,by omega⟩))) (qt r0 (sub (a:=(bs.length:Int)-((2+(bs.getD 1 0).toNat:Nat):Int)) (b:=1) r0 r0 (by(exact⟨by omega,by omega⟩))) (qt r0 (gtr (k:=.i64) (a:=bs.getD (2+(bs.getD 1 0).toNat) 0) (b:=((bs.length:Int)-((2+(bs.getD 1 0).toNat:Nat):Int))-1) r0 r0) (nl ?_)))))))
     refine nN ?_
     refine cdd (p:=(((bs.length:Int)-((2+(bs.getD 1 0).toNat:Nat):Int))-1)<(bs.getD (2+(bs.getD 1 0).toNat) 0)) r0 (fun h7=>?_) (fun h7=>?_)
     ·refine sr (qt r0 (bdv (v:=.agg #[Str [],Str []]) [] r0 (fun _=>by kernel_rfl)) (sG [Str [],Str []] hs2 0 r0 ag51 (fun w7 hs7=>?_)))
      refine tA (I 0) r0 (tA (.bool false) r0 (nn (rt (tR ?_))))
      refine fret (v:=.tuple #[.agg #[Str [],Str []],I 0,.bool false]) (resC hs7 0 r0 r0 ag51 r0 (.tmp (.tmp .nil))) r0 ?_
      have e22:loginFrom bs=(([],[]),0,false):=by exact login_no (.inr (.inr (.inr (.inr (by omega)))))
      have e23:=pj11 e22
      have e24:=pj12 e22
      have e25:=pj21 e22
      have e26:=pj22 e22
      exact⟨(tup3 (aggv (lc (congrArg (Str) e23) (lc (congrArg (Str) e24) r0))) (congrArg (Value.int .i64) e25) (congrArg (Value.bool) e26)),(hs7.pk [] r0)⟩
     ·refine sk (nN (sr (tm (I ((2+(bs.getD 1 0).toNat:Nat):Int)) r0 (qt r0 (add (a:=((2+(bs.getD 1 0).toNat:Nat):Int)) (b:=1) r0 r0 (by(exact⟨by omega,by omega⟩))) (tm (Z13 Abs bs cbs) r0 (tm (I ((2+(bs.getD 1 0).toNat:Nat):Int)) r0 ?_))))))
      refine ixw1 (2+(bs.getD 1 0).toNat) sl22 r0 r0 hbs (by(omega)) (getm I 0 (by(omega))) trivial r0 (fun a5 ha5=>?_)
      refine qt r0 (lda (v:=I (bs.getD (2+(bs.getD 1 0).toNat) 0)) hs2 ha5 (fun _ h=>h) r0 r0 one3) (qt r0 (add (a:=((2+(bs.getD 1 0).toNat:Nat):Int)+1) (b:=bs.getD (2+(bs.getD 1 0).toNat) 0) r0 r0 (by((first | (have hg1:=isBytes_get (by assumption:isBytes bs=true) (k:=1) (by omega); have hg2:=isBytes_get (by assumption:isBytes bs=true) (k:=2+(bs.getD 1 0).toNat) (by omega); have hbl:=isBytes_len (by assumption:isBytes bs=true)) | (have hg1:=isBytes_get (by assumption:isBytes bs=true) (k:=1) (by omega))); exact⟨by omega,by omega⟩))) (tA (I ((((2+(bs.getD 1 0).toNat:Nat):Int)+1)+(bs.getD (2+(bs.getD 1 0).toNat) 0))) r0 ?_))
      have e27:(((2+(bs.getD 1 0).toNat:Nat):Int)+1)+(bs.getD (2+(bs.getD 1 0).toNat) 0)=((2+(bs.getD 1 0).toNat+1+(bs.getD (2+(bs.getD 1 0).toNat) 0).toNat:Nat):Int):=by have hg1:=isBytes_get (by assumption:isBytes bs=true) (k:=1) (by omega); have hg2:=isBytes_get (by assumption:isBytes bs=true) (k:=2+(bs.getD 1 0).toNat) (by omega); have hbl:=isBytes_len (by assumption:isBytes bs=true); omega
      refine re 6 (v:=I ((2+(bs.getD 1 0).toNat+1+(bs.getD (2+(bs.getD 1 0).toNat) 0).toNat:Nat):Int)) (congrArg (Value.int .i64) e27) (nn (sq ?_))
      refine raJ (fun w'=>∃ L,SH w w' [] L∧(.blk b1 51 [Str [],Str []])∈L∧True) (fun f w'=>∃ (b11':Nat),Hz f [(2,pB b1),(6,I ((2+(bs.getD 1 0).toNat+1+(bs.getD (2+(bs.getD 1 0).toNat) 0).toNat:Nat):Int)),(7,pB b11')]∧SH w w' [] [.blk b1 51 [Str [],Str []],.blk b11' 51 [Str (bT ((bs.take (2+(bs.getD 1 0).toNat)).drop 2)),Str (bT ((bs.take (2+(bs.getD 1 0).toNat+1+(bs.getD (2+(bs.getD 1 0).toNat) 0).toNat)).drop ((2+(bs.getD 1 0).toNat)+1)))]]) mixed ?_ ?_
      ·refine dG 1 13 4095 (fun f w'=>∃ (b11':Nat),Hz f [(2,pB b1),(6,I ((2+(bs.getD 1 0).toNat+1+(bs.getD (2+(bs.getD 1 0).toNat) 0).toNat:Nat):Int)),(7,pB b11'),(64,.agg #[Str (bT ((bs.take (2+(bs.getD 1 0).toNat)).drop 2)),Str (bT ((bs.take (2+(bs.getD 1 0).toNat+1+(bs.getD (2+(bs.getD 1 0).toNat) 0).toNat)).drop ((2+(bs.getD 1 0).toNat)+1)))])]∧SH w w' [] [.blk b1 51 [Str [],Str []],.blk b11' 51 [Str [],Str []]]) ?_ (fun D_7_0=>?_)
       ·rintro f w8 ⟨b11',⟨g1,rfl⟩,hs8⟩
        refine aO 12 r0 (sG [Str (bT ((bs.take (2+(bs.getD 1 0).toNat)).drop 2)),Str (bT ((bs.take (2+(bs.getD 1 0).toNat+1+(bs.getD (2+(bs.getD 1 0).toNat) 0).toNat)).drop ((2+(bs.getD 1 0).toNat)+1)))] hs8 1 r0 ag51 (fun w9 hs9=>?_))
        refine nk (m1 hs9 0 r0) ?_
        refine ad (by kernel_rfl) ?_
        exact⟨b11',(zR r0),hs9⟩
       refine dG 2 13 2047 (fun f w'=>Hz f [(2,pB b1),(6,I ((2+(bs.getD 1 0).toNat+1+(bs.getD (2+(bs.getD 1 0).toNat) 0).toNat:Nat):Int)),(64,.agg #[Str (bT ((bs.take (2+(bs.getD 1 0).toNat)).drop 2)),Str (bT ((bs.take (2+(bs.getD 1 0).toNat+1+(bs.getD (2+(bs.getD 1 0).toNat) 0).toNat)).drop ((2+(bs.getD 1 0).toNat)+1)))])]∧SH w w' [] [.blk b1 51 [Str [],Str []]]) ?_ (fun D_7_1=>?_)
       ·rintro f w10 ⟨⟨g2,rfl⟩,hs10⟩
        refine aO 11 r0 (al (v:=.agg #[Str [],Str []]) (cs:=[Str [],Str []]) hs10 tz51 r0 trivial r0 (fun b11' w11 hs11=>?_))
        exact nk (m1 hs11 0 r0) (alc D_7_0 ⟨b11',(zR r0),hs11⟩)
       refine dG 3 13 2559 (fun f w'=>∃ (b11':Nat),Hz f [(2,pB b1),(6,I ((2+(bs.getD 1 0).toNat+1+(bs.getD (2+(bs.getD 1 0).toNat) 0).toNat:Nat):Int)),(7,pB b11'),(57,Str (bT ((bs.take (2+(bs.getD 1 0).toNat)).drop 2))),(62,.slice (if cbs=(2+(bs.getD 1 0).toNat)+1 then Abs else Abs.map (·.add (((2+(bs.getD 1 0).toNat)+1)*1))) (((bs.take (2+(bs.getD 1 0).toNat+1+(bs.getD (2+(bs.getD 1 0).toNat) 0).toNat)).drop ((2+(bs.getD 1 0).toNat)+1)).length) (cbs-((2+(bs.getD 1 0).toNat)+1)))]∧SH w w' [] [.blk b1 51 [Str [],Str []],.blk b11' 51 [Str [],Str []]]) ?_ (fun D_7_2=>?_)
       ·rintro f w12 ⟨b11',⟨g3,rfl⟩,hs12⟩
        refine aO 9 r0 (cL r0 (sL1Bytes (Azs:=if cbs=(2+(bs.getD 1 0).toNat)+1 then Abs else Abs.map (·.add (((2+(bs.getD 1 0).toNat)+1)*1))) (czs:=cbs-((2+(bs.getD 1 0).toNat)+1)) (zs:=(bs.take (2+(bs.getD 1 0).toNat+1+(bs.getD (2+(bs.getD 1 0).toNat) 0).toNat)).drop ((2+(bs.getD 1 0).toNat)+1)) (w:=_) (hzs:=(Sl.cutm (hbs.up0 hs12) (by(omega)) (by(omega)))) (hz:=(by intro x hx; exact(isBytes_iff.1 (by assumption:isBytes bs=true)).1 x (List.mem_of_mem_take (List.mem_of_mem_drop hx)))) (hzl:=(by have hbl:=isBytes_len (by assumption:isBytes bs=true); simp only[List.length_drop,List.length_take]; omega))) ?_)
        rintro _ w13 ⟨rfl,hs13⟩
        replace hs13:=hs12.call0 hs13
        refine nk (m1 hs13 0 r0) ?_
        refine tk (fuel:=1) (is:=[10]) (.cons r0 (.nil)) (by kernel_rfl) (by kernel_rfl) (m1 hs13 0 r0) (yA r0 (bdv (v:=.agg #[Str (bT ((bs.take (2+(bs.getD 1 0).toNat)).drop 2)),Str (bT ((bs.take (2+(bs.getD 1 0).toNat+1+(bs.getD (2+(bs.getD 1 0).toNat) 0).toNat)).drop ((2+(bs.getD 1 0).toNat)+1)))]) [(0,Str (bT ((bs.take (2+(bs.getD 1 0).toNat)).drop 2))),(1,Str (bT ((bs.take (2+(bs.getD 1 0).toNat+1+(bs.getD (2+(bs.getD 1 0).toNat) 0).toNat)).drop ((2+(bs.getD 1 0).toNat)+1))))] r0 (fun _=>by kernel_rfl)) (.nil ?_))
        exact alc D_7_0 ⟨b11',(zR r0),hs13⟩
       refine dG 4 13 511 (fun f w'=>Hz f [(2,pB b1),(6,I ((2+(bs.getD 1 0).toNat+1+(bs.getD (2+(bs.getD 1 0).toNat) 0).toNat:Nat):Int)),(57,Str (bT ((bs.take (2+(bs.getD 1 0).toNat)).drop 2))),(62,.slice (if cbs=(2+(bs.getD 1 0).toNat)+1 then Abs else Abs.map (·.add (((2+(bs.getD 1 0).toNat)+1)*1))) (((bs.take (2+(bs.getD 1 0).toNat+1+(bs.getD (2+(bs.getD 1 0).toNat) 0).toNat)).drop ((2+(bs.getD 1 0).toNat)+1)).length) (cbs-((2+(bs.getD 1 0).toNat)+1)))]∧SH w w' [] [.blk b1 51 [Str [],Str []]]) ?_ (fun D_7_3=>?_)
       ·rintro f w14 ⟨⟨g4,rfl⟩,hs14⟩
        refine aaL [9,11] (fa_cons ?_ (fa_one ?_))
        ·refine one_ r0 (cL r0 (sL1Bytes (Azs:=if cbs=(2+(bs.getD 1 0).toNat)+1 then Abs else Abs.map (·.add (((2+(bs.getD 1 0).toNat)+1)*1))) (czs:=cbs-((2+(bs.getD 1 0).toNat)+1)) (zs:=(bs.take (2+(bs.getD 1 0).toNat+1+(bs.getD (2+(bs.getD 1 0).toNat) 0).toNat)).drop ((2+(bs.getD 1 0).toNat)+1)) (w:=_) (hzs:=(Sl.cutm (hbs.up0 hs14) (by(omega)) (by(omega)))) (hz:=(by intro x hx; exact(isBytes_iff.1 (by assumption:isBytes bs=true)).1 x (List.mem_of_mem_take (List.mem_of_mem_drop hx)))) (hzl:=(by have hbl:=isBytes_len (by assumption:isBytes bs=true); simp only[List.length_drop,List.length_take]; omega))) ?_)
         rintro _ w15 ⟨rfl,hs15⟩
         replace hs15:=hs14.call0 hs15
         refine nk (m1 hs15 0 r0) ?_
         refine tk (fuel:=2) (is:=[10]) (.cons r0 (.nil)) (by kernel_rfl) (by kernel_rfl) (m1 hs15 0 r0) (yA r0 (bdv (v:=.agg #[Str (bT ((bs.take (2+(bs.getD 1 0).toNat)).drop 2)),Str (bT ((bs.take (2+(bs.getD 1 0).toNat+1+(bs.getD (2+(bs.getD 1 0).toNat) 0).toNat)).drop ((2+(bs.getD 1 0).toNat)+1)))]) [(0,Str (bT ((bs.take (2+(bs.getD 1 0).toNat)).drop 2))),(1,Str (bT ((bs.take (2+(bs.getD 1 0).toNat+1+(bs.getD (2+(bs.getD 1 0).toNat) 0).toNat)).drop ((2+(bs.getD 1 0).toNat)+1))))] r0 (fun _=>by kernel_rfl)) (.nil ?_))
         exact alc D_7_1 ⟨(zR r0),hs15⟩
        ·refine one_ r0 (al (v:=.agg #[Str [],Str []]) (cs:=[Str [],Str []]) hs14 tz51 r0 trivial r0 (fun b11' w16 hs16=>?_))
         exact nk (m1 hs16 0 r0) (alc D_7_2 ⟨b11',(zR r0),hs16⟩)
       refine dG 4 13 2551 (fun f w'=>∃ (b11':Nat),Hz f [(2,pB b1),(6,I ((2+(bs.getD 1 0).toNat+1+(bs.getD (2+(bs.getD 1 0).toNat) 0).toNat:Nat):Int)),(7,pB b11'),(56,.slice (if cbs=2 then Abs else Abs.map (·.add (2*1))) (((bs.take (2+(bs.getD 1 0).toNat)).drop 2).length) (cbs-2)),(62,.slice (if cbs=(2+(bs.getD 1 0).toNat)+1 then Abs else Abs.map (·.add (((2+(bs.getD 1 0).toNat)+1)*1))) (((bs.take (2+(bs.getD 1 0).toNat+1+(bs.getD (2+(bs.getD 1 0).toNat) 0).toNat)).drop ((2+(bs.getD 1 0).toNat)+1)).length) (cbs-((2+(bs.getD 1 0).toNat)+1)))]∧SH w w' [] [.blk b1 51 [Str [],Str []],.blk b11' 51 [Str [],Str []]]) ?_ (fun D_7_4=>?_)
       ·rintro f w17 ⟨b11',⟨g5,rfl⟩,hs17⟩
        refine aO 3 r0 (cL r0 (sL1Bytes (Azs:=if cbs=2 then Abs else Abs.map (·.add (2*1))) (czs:=cbs-2) (zs:=(bs.take (2+(bs.getD 1 0).toNat)).drop 2) (w:=_) (hzs:=(Sl.cutm (hbs.up0 hs17) (by(omega)) (by(omega)))) (hz:=(by intro x hx; exact(isBytes_iff.1 (by assumption:isBytes bs=true)).1 x (List.mem_of_mem_take (List.mem_of_mem_drop hx)))) (hzl:=(by have hbl:=isBytes_len (by assumption:isBytes bs=true); simp only[List.length_drop,List.length_take]; omega))) ?_)
        rintro _ w18 ⟨rfl,hs18⟩
        replace hs18:=hs17.call0 hs18
        exact nk (m1 hs18 0 r0) (alc D_7_2 ⟨b11',(zR r0),hs18⟩)
       refine dG 5 13 503 (fun f w'=>Hz f [(2,pB b1),(6,I ((2+(bs.getD 1 0).toNat+1+(bs.getD (2+(bs.getD 1 0).toNat) 0).toNat:Nat):Int)),(56,.slice (if cbs=2 then Abs else Abs.map (·.add (2*1))) (((bs.take (2+(bs.getD 1 0).toNat)).drop 2).length) (cbs-2)),(62,.slice (if cbs=(2+(bs.getD 1 0).toNat)+1 then Abs else Abs.map (·.add (((2+(bs.getD 1 0).toNat)+1)*1))) (((bs.take (2+(bs.getD 1 0).toNat+1+(bs.getD (2+(bs.getD 1 0).toNat) 0).toNat)).drop ((2+(bs.getD 1 0).toNat)+1)).length) (cbs-((2+(bs.getD 1 0).toNat)+1)))]∧SH w w' [] [.blk b1 51 [Str [],Str []]]) ?_ (fun D_7_5=>?_)
       ·rintro f w19 ⟨⟨g6,rfl⟩,hs19⟩
        refine aaL [3,11] (fa_cons ?_ (fa_one ?_))
        ·refine one_ r0 (cL r0 (sL1Bytes (Azs:=if cbs=2 then Abs else Abs.map (·.add (2*1))) (czs:=cbs-2) (zs:=(bs.take (2+(bs.getD 1 0).toNat)).drop 2) (w:=_) (hzs:=(Sl.cutm (hbs.up0 hs19) (by(omega)) (by(omega)))) (hz:=(by intro x hx; exact(isBytes_iff.1 (by assumption:isBytes bs=true)).1 x (List.mem_of_mem_take (List.mem_of_mem_drop hx)))) (hzl:=(by have hbl:=isBytes_len (by assumption:isBytes bs=true); simp only[List.length_drop,List.length_take]; omega))) ?_)
         rintro _ w20 ⟨rfl,hs20⟩
         replace hs20:=hs19.call0 hs20
         exact nk (m1 hs20 0 r0) (alc D_7_3 ⟨(zR r0),hs20⟩)
        ·refine one_ r0 (al (v:=.agg #[Str [],Str []]) (cs:=[Str [],Str []]) hs19 tz51 r0 trivial r0 (fun b11' w21 hs21=>?_))
         exact nk (m1 hs21 0 r0) (alc D_7_4 ⟨b11',(zR r0),hs21⟩)
       have hs22:=hs2.drew
       refine tk (fuel:=5) (is:=[0,1,2,4,5,6,7,8]) (.cons r0 (.cons r0 (.cons r0 (.cons r0 (.cons r0 (.cons r0 (.cons r0 (.cons r0 (.nil))))))))) (by kernel_rfl) (by kernel_rfl) (m1 hs22 0 r0) (yA r0 (mv (v:=.slice Abs bs.length cbs) r0) (yA r0 (mv (v:=I ((2+(bs.getD 1 0).toNat:Nat):Int)) r0) (yA r0 (cum (zs:=bs) 2 (2+(bs.getD 1 0).toNat) sl22 r0 r0 r0 (by(omega)) (by(omega)) hbs.cap) (yA r0 (mv (v:=.slice Abs bs.length cbs) r0) (yA r0 (mv (v:=I ((2+(bs.getD 1 0).toNat:Nat):Int)) r0) (yA r0 (add (a:=((2+(bs.getD 1 0).toNat:Nat):Int)) (b:=1) r0 r0 (by(exact⟨by omega,by omega⟩))) (yA r0 (mv (v:=I ((2+(bs.getD 1 0).toNat+1+(bs.getD (2+(bs.getD 1 0).toNat) 0).toNat:Nat):Int)) r0) ?_)))))))
       refine yA r0 (cum (zs:=bs) ((2+(bs.getD 1 0).toNat)+1) (2+(bs.getD 1 0).toNat+1+(bs.getD (2+(bs.getD 1 0).toNat) 0).toNat) sl22 r0 r0 r0 (by(omega)) (by(omega)) hbs.cap) (.nil ?_)
       exact alc D_7_5 ⟨(zR r0),hs22⟩
      rintro f w22 ⟨b11',⟨g7,rfl⟩,hs23⟩
      refine nN (sq (sr (qt r0 (lG [Str (bT ((bs.take (2+(bs.getD 1 0).toNat)).drop 2)),Str (bT ((bs.take (2+(bs.getD 1 0).toNat+1+(bs.getD (2+(bs.getD 1 0).toNat) 0).toNat)).drop ((2+(bs.getD 1 0).toNat)+1)))] hs23 1 r0 ag51) (cL r0 (sL11Ok (lu:=bT ((bs.take (2+(bs.getD 1 0).toNat)).drop 2)) (lw:=bT ((bs.take (2+(bs.getD 1 0).toNat+1+(bs.getD (2+(bs.getD 1 0).toNat) 0).toNat)).drop ((2+(bs.getD 1 0).toNat)+1))) (w:=_) (hlu_n:=(by have hbl:=isBytes_len (by assumption:isBytes bs=true); simp only[bT_len,List.length_drop,List.length_take]; omega)) (hlw_n:=(by have hbl:=isBytes_len (by assumption:isBytes bs=true); simp only[bT_len,List.length_drop,List.length_take]; omega))) ?_))))
      rintro _ w23 ⟨rfl,hs24⟩
      replace hs24:=hs23.call0 hs24
      refine qt r0 (nt (b:=loginOk (bT ((bs.take (2+(bs.getD 1 0).toNat)).drop 2)) (bT ((bs.take (2+(bs.getD 1 0).toNat+1+(bs.getD (2+(bs.getD 1 0).toNat) 0).toNat)).drop ((2+(bs.getD 1 0).toNat)+1)))) r0) (nn ?_)
      refine cd (b:=!(loginOk (bT ((bs.take (2+(bs.getD 1 0).toNat)).drop 2)) (bT ((bs.take (2+(bs.getD 1 0).toNat+1+(bs.getD (2+(bs.getD 1 0).toNat) 0).toNat)).drop ((2+(bs.getD 1 0).toNat)+1))))) r0 (fun h8=>?_) (fun h8=>?_)
      ·have h9:(loginOk (bT ((bs.take (2+(bs.getD 1 0).toNat)).drop 2)) (bT ((bs.take (2+(bs.getD 1 0).toNat+1+(bs.getD (2+(bs.getD 1 0).toNat) 0).toNat)).drop ((2+(bs.getD 1 0).toNat)+1))))=false:=by simpa using h8
       refine sr (qt r0 (bdv (v:=.agg #[Str [],Str []]) [] r0 (fun _=>by kernel_rfl)) (sG [Str [],Str []] hs24 0 r0 ag51 (fun w24 hs25=>?_)))
       refine tA (I 0) r0 (tA (.bool false) r0 (nn (rt (tR ?_))))
       refine fret (v:=.tuple #[.agg #[Str [],Str []],I 0,.bool false]) (resC hs25 1 r0 r0 ag51 r0 (.tmp (.tmp .nil))) r0 ?_
       have e28:loginFrom bs=(([],[]),0,false):=by(rw[login_eq ‹_› (by omega) (Decidable.not_not.1 ‹_›) (by omega) r0 r0 (by omega) r0 r0]; first | exact if_pos ‹_› | exact if_neg (ne_true ‹_›))
       have e29:=pj11 e28
       have e30:=pj12 e28
       have e31:=pj21 e28
       have e32:=pj22 e28
       exact⟨(tup3 (aggv (lc (congrArg (Str) e29) (lc (congrArg (Str) e30) r0))) (congrArg (Value.int .i64) e31) (congrArg (Value.bool) e32)),(hs25.pk [] r0)⟩
      ·have h10:(loginOk (bT ((bs.take (2+(bs.getD 1 0).toNat)).drop 2)) (bT ((bs.take (2+(bs.getD 1 0).toNat+1+(bs.getD (2+(bs.getD 1 0).toNat) 0).toNat)).drop ((2+(bs.getD 1 0).toNat)+1))))=true:=by simpa using h8
       refine sk (nN (sr (qt r0 (lG [Str (bT ((bs.take (2+(bs.getD 1 0).toNat)).drop 2)),Str (bT ((bs.take (2+(bs.getD 1 0).toNat+1+(bs.getD (2+(bs.getD 1 0).toNat) 0).toNat)).drop ((2+(bs.getD 1 0).toNat)+1)))] hs24 1 r0 ag51) (tm (I ((2+(bs.getD 1 0).toNat+1+(bs.getD (2+(bs.getD 1 0).toNat) 0).toNat:Nat):Int)) r0 (sG [Str (bT ((bs.take (2+(bs.getD 1 0).toNat)).drop 2)),Str (bT ((bs.take (2+(bs.getD 1 0).toNat+1+(bs.getD (2+(bs.getD 1 0).toNat) 0).toNat)).drop ((2+(bs.getD 1 0).toNat)+1)))] hs24 0 r0 ag51 (fun w25 hs26=>?_))))))
       refine tA (I ((2+(bs.getD 1 0).toNat+1+(bs.getD (2+(bs.getD 1 0).toNat) 0).toNat:Nat):Int)) r0 (tA (.bool true) r0 (nn (rt (fret (v:=.tuple #[.agg #[Str (bT ((bs.take (2+(bs.getD 1 0).toNat)).drop 2)),Str (bT ((bs.take (2+(bs.getD 1 0).toNat+1+(bs.getD (2+(bs.getD 1 0).toNat) 0).toNat)).drop ((2+(bs.getD 1 0).toNat)+1)))],I ((2+(bs.getD 1 0).toNat+1+(bs.getD (2+(bs.getD 1 0).toNat) 0).toNat:Nat):Int),.bool true]) (resC hs26 1 r0 r0 ag51 r0 (.tmp (.tmp .nil))) r0 ?_))))
       have e33:loginFrom bs=((bT ((bs.take (2+(bs.getD 1 0).toNat)).drop 2),bT ((bs.take (2+(bs.getD 1 0).toNat+1+(bs.getD (2+(bs.getD 1 0).toNat) 0).toNat)).drop ((2+(bs.getD 1 0).toNat)+1))),((2+(bs.getD 1 0).toNat+1+(bs.getD (2+(bs.getD 1 0).toNat) 0).toNat:Nat):Int),true):=by(rw[login_eq ‹_› (by omega) (Decidable.not_not.1 ‹_›) (by omega) r0 r0 (by omega) r0 r0]; first | exact if_pos ‹_› | exact if_neg (ne_true ‹_›))
       have e34:=pj11 e33
       have e35:=pj12 e33
       have e36:=pj21 e33
       have e37:=pj22 e33
       exact⟨(tup3 (aggv (lc (congrArg (Str) e34) (lc (congrArg (Str) e35) r0))) (congrArg (Value.int .i64) e36) (congrArg (Value.bool) e37)),(hs26.pk [] r0)⟩
theorem slIndexL {Azs:Option Addr} {czs:Nat} (zs:List (List UInt8×List UInt8)) (lu:List UInt8) (lw:List UInt8) (w:World) (hzs:Sl w [] 2 Azs zs.length czs (zs.flatMap gLogin)) (hzs_e: ∀ u∈zs,u.1.length≤9223372036854775807∧u.2.length≤9223372036854775807):Does Tryz.prog 140 [.slice Azs zs.length czs,.agg #[Str lu,Str lw]] w (fun v w'=>v=.int .i64 (idxP (fun x=>decide (x=(lu,lw))) zs)∧SH w w' [] []):=by
 refine fE (N:=19) Tryz.func140 r0 (by kernel_rfl) r0 ?_
 have hs0:=SH.refl w []
 have hzs_m:zs.length≤9223372036854775807:=Nat.le_trans hzs.cap hzs.capMax
 refine sr (bx (v:=.agg #[Str lu,Str lw]) (cs:=[Str lu,Str lw]) hs0 r0 r0 trivial r0 (fun b1 w1 hs1=>?_))
 refine tA (I 0) r0 (nn (sq (sr (tm (.slice Azs zs.length czs) r0 (qt r0 (lnA (n:=zs.length) sl27 r0) ?_)))))
 refine tm (I 0) r0 (nn (bl (lp (σ:=Nat) (fun(k:Nat) f w'=>Hz f [(0,.slice Azs zs.length czs),(3,pB b1),(7,I (zs.length:Int)),(8,I (k:Int))]∧(k≤zs.length)∧(∀ j,j<k→ ¬ zs.getD j login0=(lu,lw))∧SH w w' [] [.blk b1 51 [Str lu,Str lw]]) (fun k=>zs.length-k) 0 ⟨(zR r0),(by simp),(by intro j hj; omega),hs1⟩ ?_)))
 rintro k f w2 ⟨⟨g1,rfl⟩,hk,hn,hs2⟩
 refine sr (qt r0 (lss (k:=.i64) (a:=(k:Int)) (b:=(zs.length:Int)) r0 r0) (nn (sq ?_)))
 refine cdd (p:=(k:Int)<(zs.length:Int)) r0 (fun h1=>?_) (fun h1=>?_)
 ·refine sk (nN (sq (bl (sr (tm (I (k:Int)) r0 (tA (I (k:Int)) r0 ?_))))))
  refine nn (sq (rq (fun w'=>SH w w' [] [.blk b1 51 [Str lu,Str lw]]) mixed (by kernel_rfl) hs2.drew (qB r0 (fun hsq=>lG [Str lu,Str lw] hsq 0 r0 ag51) (qA r0 (mv (v:=.slice Azs zs.length czs) r0) (qA r0 (mv (v:=I (k:Int)) r0) (ixqf (g:=gLogin) (zs:=zs) (fun _=>rfl) login0 k sl27 r0 r0 hzs (by omega) (by omega) trivial r0 (fun a1 ha1=>?_)))))))
  refine qB r0 (fun hsq=>ldag (us:=[Str ((zs.getD k login0).1),Str ((zs.getD k login0).2)]) hsq ha1 (fun _ h=>h) r0 r0 ag51) (qA r0 (eq2 (a:=lu) (b:=lw) (c:=(zs.getD k login0).1) (e:=(zs.getD k login0).2) s2_51 r0 r0) (qn (fun w3 hs3=>?_)))
  refine nN ?_
  refine cdd (p:=lu=(zs.getD k login0).1∧lw=(zs.getD k login0).2) r0 (fun h2=>?_) (fun h2=>?_)
  ·refine sr (tm (I (k:Int)) r0 (tA (I (k:Int)) r0 (nn ?_)))
   refine rt (bR (tR (tR (bR (tR ?_)))))
   refine fT (I (k:Int)) r0 ?_
   have e1:(k:Int)=idxP (fun x=>decide (x=(lu,lw))) zs:=by exact idxP_eq (d:=login0) (by omega) (fun j hj=>decide_eq_false (hn j hj)) (decide_eq_true (pair_eq ⟨h2.1.symm,h2.2.symm⟩))
   exact⟨(congrArg (Value.int .i64) e1),(hs3.pk [] r0)⟩
  ·refine sk (bN (nN (rg (qt r0 (add (a:=(k:Int)) (b:=1) r0 r0 (by exact⟨by omega,by omega⟩)) (tm (I ((k:Int)+1)) r0 (nn ?_))))))
   refine⟨(k+1),⟨(zR r0),(by omega),(by intro j hj; rcases Nat.lt_succ_iff_lt_or_eq.1 hj with h | h; exact hn j h; subst h; intro he; refine absurd ?_ (by assumption: ¬ (_∧_)); rw[he]; exact⟨rfl,rfl⟩),hs3⟩,?_⟩
   omega
 ·refine ex (tE (tE (bE ?_)))
  refine nN (sr (tA (I (-1)) r0 (nn (rt (fT (I (-1)) r0 ?_)))))
  have e2:(-1)=idxP (fun x=>decide (x=(lu,lw))) zs:=by exact idxP_none (d:=login0) (fun j hj=>decide_eq_false (hn j (by omega)))
  exact⟨(congrArg (Value.int .i64) e2),(hs2.pk [] r0)⟩
theorem slContainsL {Azs:Option Addr} {czs:Nat} (zs:List (List UInt8×List UInt8)) (lu:List UInt8) (lw:List UInt8) (w:World) (hzs:Sl w [] 2 Azs zs.length czs (zs.flatMap gLogin)) (hzs_e: ∀ u∈zs,u.1.length≤9223372036854775807∧u.2.length≤9223372036854775807):Does Tryz.prog 82 [.slice Azs zs.length czs,.agg #[Str lu,Str lw]] w (fun v w'=>v=.bool (decide ((lu,lw)∈zs))∧SH w w' [] []):=by
 refine fE (N:=9) Tryz.func82 r0 (by kernel_rfl) r0 ?_
 have hs0:=SH.refl w []
 have hzs_m:zs.length≤9223372036854775807:=Nat.le_trans hzs.cap hzs.capMax
 refine sr (bx (v:=.agg #[Str lu,Str lw]) (cs:=[Str lu,Str lw]) hs0 r0 r0 trivial r0 (fun b1 w1 hs1=>?_))
 refine tA (.bool false) r0 (nx (tm (.slice Azs zs.length czs) r0 (qt r0 (lG [Str lu,Str lw] hs1 0 r0 ag51) (cL r0 (slIndexL (Azs:=Azs) (czs:=czs) (zs:=zs) (lu:=lu) (lw:=lw) (w:=_) (hzs:=(hzs.up0 hs1)) (hzs_e:=hzs_e)) ?_))))
 rintro _ w2 ⟨rfl,hs2⟩
 replace hs2:=hs1.call0 hs2
 refine qt r0 (geq (k:=.i64) (a:=idxP (fun x=>decide (x=(lu,lw))) zs) (b:=0) r0 r0) (tA (.bool (decide ((0:Int)≤(idxP (fun x=>decide (x=(lu,lw))) zs)))) r0 (nn (rt (fT (.bool (decide ((0:Int)≤(idxP (fun x=>decide (x=(lu,lw))) zs)))) r0 ?_))))
 have e1:(decide ((0:Int)≤(idxP (fun x=>decide (x=(lu,lw))) zs)))=(decide ((lu,lw)∈zs)):=by rw[idxP_any,Bool.eq_iff_iff]; simp
 exact⟨(congrArg (Value.bool) e1),(hs2.pk [] r0)⟩
theorem iLoginFits {Alg:Option Addr} {clg:Nat} (lg:List (List UInt8×List UInt8)) (lu:List UInt8) (lw:List UInt8) (w:World) (hlg:Sl w [] 2 Alg lg.length clg (lg.flatMap gLogin)) (hlg_e: ∀ u∈lg,u.1.length≤9223372036854775807∧u.2.length≤9223372036854775807) (hlu_n:lu.length≤9223372036854775807) (hlw_n:lw.length≤9223372036854775807):Does Tryz.prog 32 [.slice Alg lg.length clg,.agg #[Str lu,Str lw]] w (fun v w'=>v=.bool (fitsL lg lu lw)∧SH w w' [] []):=by
 refine fE (N:=12) Tryz.func32 r0 (by kernel_rfl) r0 ?_
 have hs0:=SH.refl w []
 have hlg_m:lg.length≤9223372036854775807:=Nat.le_trans hlg.cap hlg.capMax
 refine sr (bx (v:=.agg #[Str lu,Str lw]) (cs:=[Str lu,Str lw]) hs0 r0 r0 trivial r0 (fun b1 w1 hs1=>?_))
 refine tA (.bool false) r0 (nx (qt r0 (lG [Str lu,Str lw] hs1 0 r0 ag51) (cL r0 (iIsLogin (lu:=lu) (lw:=lw) (w:=_) (hlu_n:=(by omega)) (hlw_n:=(by omega))) ?_)))
 rintro _ w2 ⟨rfl,hs2⟩
 replace hs2:=hs1.call0 hs2
 refine tm (.bool (loginOk lu lw)) r0 ?_
 refine spl (b:=loginOk lu lw) 7 r0 (fun h1=>?_) (fun h1=>?_)
 ·refine q ⟨_,rfl,rfl⟩ r0 r0 (mv (v:=.slice Alg lg.length clg) r0) (q ⟨_,rfl,rfl⟩ r0 r0 (lG [Str lu,Str lw] hs2 0 r0 ag51) (cl ⟨_,rfl,rfl⟩ r0 (slContainsL (Azs:=Alg) (czs:=clg) (zs:=lg) (lu:=lu) (lw:=lw) (w:=_) (hzs:=(hlg.up0 hs2)) (hzs_e:=hlg_e)) ?_))
  rintro _ w3 ⟨rfl,hs3⟩
  replace hs3:=hs2.call0 hs3
  refine qt r0 (pt (v:=.bool (decide ((lu,lw)∈lg))) r0 r0) (tA (.bool (decide ((lu,lw)∈lg))) r0 (nn (rt (fT (.bool (decide ((lu,lw)∈lg))) r0 ?_))))
  have e1:(decide ((lu,lw)∈lg))=fitsL lg lu lw:=by simp[fitsL,h1]
  exact⟨(congrArg (Value.bool) e1),(hs3.pk [] r0)⟩
 ·refine gf5 r0 (gf5 r0 (gf5 r0 (qt r0 (pf (v:=.bool false) r0 r0) (tA (.bool false) r0 (nn (rt ?_))))))
  refine fT (.bool false) r0 ?_
  have e2:false=fitsL lg lu lw:=by simp[fitsL,h1]
  exact⟨(congrArg (Value.bool) e2),(hs2.pk [] r0)⟩
theorem sLoginFits {Alg:Option Addr} {clg:Nat} (lg:List (List UInt8×List UInt8)) (lu:List UInt8) (lw:List UInt8) (w:World) (hlg:Sl w [] 2 Alg lg.length clg (lg.flatMap gLogin)) (hlg_e: ∀ u∈lg,u.1.length≤9223372036854775807∧u.2.length≤9223372036854775807) (hlu_n:lu.length≤9223372036854775807) (hlw_n:lw.length≤9223372036854775807):Does Tryz.prog 98 [.slice Alg lg.length clg,.agg #[Str lu,Str lw]] w (fun v w'=>v=.bool (fitsL lg lu lw)∧SH w w' [] []):=by
 refine fE (N:=22) Tryz.func98 r0 (by kernel_rfl) r0 ?_
 have hs0:=SH.refl w []
 have hlg_m:lg.length≤9223372036854775807:=Nat.le_trans hlg.cap hlg.capMax
 refine sr (bx (v:=.agg #[Str lu,Str lw]) (cs:=[Str lu,Str lw]) hs0 r0 r0 trivial r0 (fun b1 w1 hs1=>?_))
 refine tA (.bool false) r0 (nn (sq (sr (tA (I 0) r0 (nl ?_)))))
 refine nN (bl (lp (σ:=Nat) (fun(k:Nat) f w'=>Hz f [(0,.slice Alg lg.length clg),(3,pB b1),(5,I (k:Int))]∧(k≤lg.length)∧(∀ j,j<k→ ¬ lg.getD j login0=(lu,lw))∧SH w w' [] [.blk b1 51 [Str lu,Str lw]]) (fun k=>lg.length-k) 0 ⟨(zR r0),(by simp),(by intro j hj; omega),hs1⟩ ?_))
 rintro k f w2 ⟨⟨g1,rfl⟩,hk,hn,hs2⟩
 refine sq (sr (tm (I (k:Int)) r0 (tm (.slice Alg lg.length clg) r0 (qt r0 (lnA (n:=lg.length) sl27 r0) (qt r0 (lss (k:=.i64) (a:=(k:Int)) (b:=(lg.length:Int)) r0 r0) (tm (.bool (decide ((k:Int)<(lg.length:Int)))) r0 ?_))))))
 refine spd (p:=(k:Int)<(lg.length:Int)) 10 r0 (fun h1=>?_) (fun h1=>?_)
 ·refine q ⟨_,rfl,rfl⟩ r0 r0 (lG [Str lu,Str lw] hs2 0 r0 ag51) (cl ⟨_,rfl,rfl⟩ r0 (sL11Ok (lu:=lu) (lw:=lw) (w:=_) (hlu_n:=(by omega)) (hlw_n:=(by omega))) ?_)
  rintro _ w3 ⟨rfl,hs3⟩
  replace hs3:=hs2.call0 hs3
  refine qt r0 (pt (v:=.bool (loginOk lu lw)) r0 r0) (nn ?_)
  refine cd (b:=loginOk lu lw) r0 (fun h2=>?_) (fun h2=>?_)
  ·refine sk (nN (sq (bl (sq (rq (fun w'=>SH w w' [] [.blk b1 51 [Str lu,Str lw]]) mixed (by kernel_rfl) hs3.drew (qA r0 (mv (v:=.slice Alg lg.length clg) r0) (qA r0 (mv (v:=I (k:Int)) r0) ?_)))))))
   refine ixqf (g:=gLogin) (zs:=lg) (fun _=>rfl) login0 k sl27 r0 r0 hlg (by omega) (by omega) trivial r0 (fun a1 ha1=>?_)
   refine qB r0 (fun hsq=>ldag (us:=[Str ((lg.getD k login0).1),Str ((lg.getD k login0).2)]) hsq ha1 (fun _ h=>h) r0 r0 ag51) (qB r0 (fun hsq=>lG [Str lu,Str lw] hsq 0 r0 ag51) (qA r0 (eq2 (a:=(lg.getD k login0).1) (b:=(lg.getD k login0).2) (c:=lu) (e:=lw) s2_51 r0 r0) (qn (fun w4 hs4=>?_))))
   refine nN ?_
   refine cdd (p:=(lg.getD k login0).1=lu∧(lg.getD k login0).2=lw) r0 (fun h3=>?_) (fun h3=>?_)
   ·refine sr (tA (.bool true) r0 (nn ?_))
    refine rt (bR (tR (tR (bR (tR ?_)))))
    refine fT (.bool true) r0 ?_
    have e1:true=fitsL lg lu lw:=by exact fits_yes (k:=k) (by omega) (pair_eq ‹_›) ‹_›
    exact⟨(congrArg (Value.bool) e1),(hs4.pk [] r0)⟩
   ·refine sk (bN (nN (rg (tm (I (k:Int)) r0 (qt r0 (add (a:=(k:Int)) (b:=1) r0 r0 (by exact⟨by omega,by omega⟩)) (tA (I ((k:Int)+1)) r0 (nl ?_)))))))
    refine nN ?_
    refine⟨(k+1),⟨(zR r0),(by omega),(by intro j hj; rcases Nat.lt_succ_iff_lt_or_eq.1 hj with h | h; exact hn j h; subst h; intro he; refine absurd ?_ (by assumption: ¬ (_∧_)); rw[he]; exact⟨rfl,rfl⟩),hs4⟩,?_⟩
    omega
  ·refine ex (tE (tE (bE ?_)))
   refine nN (sr (tA (.bool false) r0 (nn (rt (fT (.bool false) r0 ?_)))))
   have e2:false=fitsL lg lu lw:=by exact fits_no1 ‹_›
   exact⟨(congrArg (Value.bool) e2),(hs3.pk [] r0)⟩
 ·refine gf5 r0 (gf5 r0 (qt r0 (pf (v:=.bool false) r0 r0) (nn (cdf r0 ?_))))
  refine ex (tE (tE (bE ?_)))
  refine nN (sr (tA (.bool false) r0 (nn (rt (fT (.bool false) r0 ?_)))))
  have e3:false=fitsL lg lu lw:=by exact fits_no2 (by omega) hn
  exact⟨(congrArg (Value.bool) e3),(hs2.pk [] r0)⟩
theorem sL3Size {Abs:Option Addr} {cbs:Nat} (bs:List Int) (w:World) (hbs:Sl w [] 1 Abs bs.length cbs (bs.map I)) (hob:isBytes bs=true):Does Tryz.prog 186 [.slice Abs bs.length cbs] w (fun v w'=>v=.int .i64 (szA bs)∧SH w w' [] []):=by
 refine fE (N:=25) Tryz.func186 r0 (by kernel_rfl) r0 ?_
 have hs0:=SH.refl w []
 have hbs_m:bs.length≤9223372036854775807:=Nat.le_trans hbs.cap hbs.capMax
 refine sr (tA (I 0) r0 (nn (sq (sr ?_))))
 refine tm (Z13 Abs bs cbs) r0 (qt r0 (lnA (n:=bs.length) sl22 r0) (qt r0 (gtr (k:=.i64) (a:=(bs.length:Int)) (b:=0) r0 r0) (tm (.bool (decide ((0:Int)<(bs.length:Int)))) r0 ?_)))
 refine spd (p:=(0:Int)<(bs.length:Int)) 6 r0 (fun h1=>?_) (fun h1=>?_)
 ·refine q ⟨_,rfl,rfl⟩ r0 r0 (mv (v:=.slice Abs bs.length cbs) r0) (ixw1 0 sl22 r0 r0 hbs (by(omega)) (getm I 0 (by(omega))) ⟨_,rfl,rfl⟩ r0 (fun a1 ha1=>?_))
  refine q ⟨_,rfl,rfl⟩ r0 r0 (lda (v:=I (bs.getD 0 0)) hs0 ha1 (fun _ h=>h) r0 r0 one3) (q ⟨_,rfl,rfl⟩ r0 r0 (eqi (k:=.i64) (a:=bs.getD 0 0) (b:=1) r0 r0) (qt r0 (pt (v:=.bool (decide ((bs.getD 0 0)=1))) r0 r0) (nn ?_)))
  refine cdd (p:=(bs.getD 0 0)=1) r0 (fun h2=>?_) (fun h2=>?_)
  ·refine sr (tA (I 7) r0 (nn (rt (tR ?_))))
   refine fT (I 7) r0 ?_
   have e1:7=szA bs:=by(unfold szA; rw[if_pos (by exact⟨by omega,by omega⟩)]; done)
   exact⟨(congrArg (Value.int .i64) e1),hs0⟩
  ·refine sk (nN (sq (sr (tm (Z13 Abs bs cbs) r0 (qt r0 (lnA (n:=bs.length) sl22 r0) (qt r0 (gtr (k:=.i64) (a:=(bs.length:Int)) (b:=1) r0 r0) ?_))))))
   refine tm (.bool (decide ((1:Int)<(bs.length:Int)))) r0 ?_
   refine spd (p:=(1:Int)<(bs.length:Int)) 15 r0 (fun h3=>?_) (fun h3=>?_)
   ·refine q ⟨_,rfl,rfl⟩ r0 r0 (mv (v:=.slice Abs bs.length cbs) r0) (ixw1 0 sl22 r0 r0 hbs (by(omega)) (getm I 0 (by(omega))) ⟨_,rfl,rfl⟩ r0 (fun a2 ha2=>?_))
    refine q ⟨_,rfl,rfl⟩ r0 r0 (lda (v:=I (bs.getD 0 0)) hs0 ha2 (fun _ h=>h) r0 r0 one3) (q ⟨_,rfl,rfl⟩ r0 r0 (eqi (k:=.i64) (a:=bs.getD 0 0) (b:=3) r0 r0) (qt r0 (pt (v:=.bool (decide ((bs.getD 0 0)=3))) r0 r0) (nn ?_)))
    refine cdd (p:=(bs.getD 0 0)=3) r0 (fun h4=>?_) (fun h4=>?_)
    ·refine sr (tm (Z13 Abs bs cbs) r0 (ixw1 1 sl22 r0 r0 hbs (by(omega)) (getm I 0 (by(omega))) trivial r0 (fun a3 ha3=>?_)))
     refine qt r0 (lda (v:=I (bs.getD 1 0)) hs0 ha3 (fun _ h=>h) r0 r0 one3) (qt r0 (add (a:=4) (b:=bs.getD 1 0) r0 r0 (by(have hg1:=isBytes_get hob (k:=1) (by omega); exact⟨by omega,by omega⟩))) (tA (I (4+(bs.getD 1 0))) r0 (nn (rt (tR ?_)))))
     refine fT (I (4+(bs.getD 1 0))) r0 ?_
     have e2:4+(bs.getD 1 0)=szA bs:=by(unfold szA; rw[if_neg (by omega),if_pos (by exact⟨by omega,by omega⟩)]; done)
     exact⟨(congrArg (Value.int .i64) e2),hs0⟩
    ·refine sk (nN (sr (tA (I (-1)) r0 (nn (rt ?_)))))
     refine fT (I (-1)) r0 ?_
     have e3:(-1)=szA bs:=by(unfold szA; rw[if_neg (by omega),if_neg (by omega)])
     exact⟨(congrArg (Value.int .i64) e3),hs0⟩
   ·refine gf5 r0 (gf5 r0 (gf5 r0 (gf5 r0 (qt r0 (pf (v:=.bool false) r0 r0) (nn (cdf r0 ?_))))))
    refine sk (nN (sr (tA (I (-1)) r0 (nn (rt ?_)))))
    refine fT (I (-1)) r0 ?_
    have e4:(-1)=szA bs:=by(unfold szA; rw[if_neg (by omega),if_neg (by omega)])
    exact⟨(congrArg (Value.int .i64) e4),hs0⟩
 ·refine gf5 r0 (gf5 r0 (gf5 r0 (gf5 r0 (qt r0 (pf (v:=.bool false) r0 r0) (nn (cdf r0 ?_))))))
  refine sk (nN (sq (sr (tm (Z13 Abs bs cbs) r0 (qt r0 (lnA (n:=bs.length) sl22 r0) (qt r0 (gtr (k:=.i64) (a:=(bs.length:Int)) (b:=1) r0 r0) ?_))))))
  refine tm (.bool (decide ((1:Int)<(bs.length:Int)))) r0 ?_
  refine spd (p:=(1:Int)<(bs.length:Int)) 15 r0 (fun h5=>?_) (fun h5=>?_)
  ·refine q ⟨_,rfl,rfl⟩ r0 r0 (mv (v:=.slice Abs bs.length cbs) r0) (ixw1 0 sl22 r0 r0 hbs (by(omega)) (getm I 0 (by(omega))) ⟨_,rfl,rfl⟩ r0 (fun a4 ha4=>?_))
   refine q ⟨_,rfl,rfl⟩ r0 r0 (lda (v:=I (bs.getD 0 0)) hs0 ha4 (fun _ h=>h) r0 r0 one3) (q ⟨_,rfl,rfl⟩ r0 r0 (eqi (k:=.i64) (a:=bs.getD 0 0) (b:=3) r0 r0) (qt r0 (pt (v:=.bool (decide ((bs.getD 0 0)=3))) r0 r0) (nn ?_)))
   refine cdd (p:=(bs.getD 0 0)=3) r0 (fun h6=>?_) (fun h6=>?_)
   ·refine sr (tm (Z13 Abs bs cbs) r0 (ixw1 1 sl22 r0 r0 hbs (by(omega)) (getm I 0 (by(omega))) trivial r0 (fun a5 ha5=>?_)))
    refine qt r0 (lda (v:=I (bs.getD 1 0)) hs0 ha5 (fun _ h=>h) r0 r0 one3) (qt r0 (add (a:=4) (b:=bs.getD 1 0) r0 r0 (by(exact⟨by omega,by omega⟩))) (tA (I (4+(bs.getD 1 0))) r0 (nn (rt (tR ?_)))))
    refine fT (I (4+(bs.getD 1 0))) r0 ?_
    have e5:4+(bs.getD 1 0)=szA bs:=by(unfold szA; rw[if_neg (by omega),if_pos (by exact⟨by omega,by omega⟩)]; done)
    exact⟨(congrArg (Value.int .i64) e5),hs0⟩
   ·refine sk (nN (sr (tA (I (-1)) r0 (nn (rt ?_)))))
    refine fT (I (-1)) r0 ?_
    have e6:(-1)=szA bs:=by(unfold szA; rw[if_neg (by omega),if_neg (by omega)])
    exact⟨(congrArg (Value.int .i64) e6),hs0⟩
  ·refine gf5 r0 (gf5 r0 (gf5 r0 (gf5 r0 (qt r0 (pf (v:=.bool false) r0 r0) (nn (cdf r0 ?_))))))
   refine sk (nN (sr (tA (I (-1)) r0 (nn (rt ?_)))))
   refine fT (I (-1)) r0 ?_
   have e7:(-1)=szA bs:=by(unfold szA; rw[if_neg (by omega),if_neg (by omega)])
   exact⟨(congrArg (Value.int .i64) e7),hs0⟩
set_option maxHeartbeats 8000000 in
theorem sAddressOf {Abs:Option Addr} {cbs:Nat} (bs:List Int) (w:World) (hbs:Sl w [] 1 Abs bs.length cbs (bs.map I)) (hob:isBytes bs=true):Does Tryz.prog 170 [.slice Abs bs.length cbs] w (fun v w'=>∃ Aqr:Option Addr,∃ cqr:Nat,v=.tuple #[.agg #[.int .i64 ((addrD bs).1.1),.slice Aqr ((addrD bs).1.2.1).length cqr,Str ((addrD bs).1.2.2.1),.int .i64 ((addrD bs).1.2.2.2)],.int .i64 ((addrD bs).2.1),.bool ((addrD bs).2.2)]∧SH w w' [] [.own Aqr (((addrD bs).1.2.1).length) cqr 3 1 (((addrD bs).1.2.1).map I)]):=by
 refine fE (N:=56) Tryz.func170 r0 (by kernel_rfl) r0 ?_
 have hs0:=SH.refl w []
 have hbs_m:bs.length≤9223372036854775807:=Nat.le_trans hbs.cap hbs.capMax
 refine sr (al (v:=.agg #[I 0,ns,Str [],I 0]) (cs:=[I 0,ns,Str [],I 0]) hs0 tz43 r0 trivial r0 (fun b1 w1 hs1=>?_))
 refine tA (I 0) r0 (tA (.bool false) r0 (nx (tm (Z13 Abs bs cbs) r0 (cL r0 (sL3Size (Abs:=Abs) (cbs:=cbs) (bs:=bs) (w:=_) (hbs:=(hbs.up0 hs1)) (hob:=(by(first | omega | assumption | (simp; done) | (simp; omega))))) ?_))))
 rintro _ w2 ⟨rfl,hs2⟩
 replace hs2:=hs1.call0 hs2
 refine tA (I (szA bs)) r0 (nn (sq (sr (tm (Z13 Abs bs cbs) r0 (cL r0 (sBytesValid (Azs:=Abs) (czs:=cbs) (zs:=bs) (w:=_) (hzs:=(hbs.up0 hs2))) ?_)))))
 rintro _ w3 ⟨rfl,hs3⟩
 replace hs3:=hs2.call0 hs3
 refine qt r0 (nt (b:=isBytes bs) r0) (tm (.bool (!(isBytes bs))) r0 ?_)
 refine spl (b:=!(isBytes bs)) 12 r0 (fun h1=>?_) (fun h1=>?_)
 ·have h2:(isBytes bs)=false:=by simpa using h1
  refine gt5 r0 (gt5 r0 (qt r0 (pt (v:=.bool true) r0 r0) (tm (.bool true) r0 (gt5 r0 (gt5 r0 (gt5 r0 (gt5 r0 ?_)))))))
  refine qt r0 (pt (v:=.bool true) r0 r0) (nn (cdt r0 (sr (qt r0 (bdv (v:=.agg #[I 0,ns,Str [],I 0]) [] r0 (fun _=>by kernel_rfl)) (sG [I 0,ns,Str [],I 0] hs3 0 r0 ag43 (fun w4 hs4=>?_))))))
  refine tA (I 0) r0 (tA (.bool false) r0 (nn (rt (tR ?_))))
  refine fret (v:=.tuple #[.agg #[I 0,ns,Str [],I 0],I 0,.bool false]) (resC hs4 0 r0 r0 ag43 r0 (.tmp (.tmp .nil))) r0 ?_
  have hs5:=hs4.nl [.own none (([]:List Int).length) 0 3 1 (([]:List Int).map I)] r0
  have e1:addrD bs=((0,([]:List Int),[],0),0,false):=by exact addrD_no (.inl ‹_›)
  have e2:=pj11 e1
  have e3:=pj121 e1
  have e4:=congrArg List.length e3
  have e5:=pj1221 e1
  have e6:=pj1222 e1
  have e7:=pj21 e1
  have e8:=pj22 e1
  exact⟨none,0,(tup3 (aggv (lc (congrArg (Value.int .i64) e2) (lc (slv r0 e4 r0) (lc (congrArg (Str) e5) (lc (congrArg (Value.int .i64) e6) r0))))) (congrArg (Value.int .i64) e7) (congrArg (Value.bool) e8)),((hs5.pq [1] r0).cast (lc (own_eq (g:=I) r0 e4 r0 e3) r0))⟩
 ·have h3:(isBytes bs)=true:=by simpa using h1
  refine q ⟨_,rfl,rfl⟩ r0 r0 (mv (v:=I (szA bs)) r0) (q ⟨_,rfl,rfl⟩ r0 r0 (lss (k:=.i64) (a:=szA bs) (b:=0) r0 r0) (qt r0 (pf (v:=.bool (decide ((szA bs)<0))) r0 r0) (tm (.bool (decide ((szA bs)<0))) r0 ?_)))
  refine spd (p:=(szA bs)<0) 16 r0 (fun h4=>?_) (fun h4=>?_)
  ·refine gt5 r0 (gt5 r0 (gt5 r0 (gt5 r0 (qt r0 (pt (v:=.bool true) r0 r0) (nn (cdt r0 ?_))))))
   refine sr (qt r0 (bdv (v:=.agg #[I 0,ns,Str [],I 0]) [] r0 (fun _=>by kernel_rfl)) (sG [I 0,ns,Str [],I 0] hs3 0 r0 ag43 (fun w5 hs6=>?_)))
   refine tA (I 0) r0 (tA (.bool false) r0 (nn (rt (tR ?_))))
   refine fret (v:=.tuple #[.agg #[I 0,ns,Str [],I 0],I 0,.bool false]) (resC hs6 0 r0 r0 ag43 r0 (.tmp (.tmp .nil))) r0 ?_
   have hs7:=hs6.nl [.own none (([]:List Int).length) 0 3 1 (([]:List Int).map I)] r0
   have e9:addrD bs=((0,([]:List Int),[],0),0,false):=by exact addrD_no (.inr (.inl ‹_›))
   have e10:=pj11 e9
   have e11:=pj121 e9
   have e12:=congrArg List.length e11
   have e13:=pj1221 e9
   have e14:=pj1222 e9
   have e15:=pj21 e9
   have e16:=pj22 e9
   exact⟨none,0,(tup3 (aggv (lc (congrArg (Value.int .i64) e10) (lc (slv r0 e12 r0) (lc (congrArg (Str) e13) (lc (congrArg (Value.int .i64) e14) r0))))) (congrArg (Value.int .i64) e15) (congrArg (Value.bool) e16)),((hs7.pq [1] r0).cast (lc (own_eq (g:=I) r0 e12 r0 e11) r0))⟩
  ·refine q ⟨_,rfl,rfl⟩ r0 r0 (mv (v:=I (szA bs)) r0) (q ⟨_,rfl,rfl⟩ r0 r0 (mv (v:=.slice Abs bs.length cbs) r0) (q ⟨_,rfl,rfl⟩ r0 r0 (lnA (n:=bs.length) sl22 r0) (q ⟨_,rfl,rfl⟩ r0 r0 (gtr (k:=.i64) (a:=szA bs) (b:=(bs.length:Int)) r0 r0) (qt r0 (pf (v:=.bool (decide ((bs.length:Int)<(szA bs)))) r0 r0) (nn ?_)))))
   refine cdd (p:=(bs.length:Int)<(szA bs)) r0 (fun h5=>?_) (fun h5=>?_)
   ·refine sr (qt r0 (bdv (v:=.agg #[I 0,ns,Str [],I 0]) [] r0 (fun _=>by kernel_rfl)) (sG [I 0,ns,Str [],I 0] hs3 0 r0 ag43 (fun w6 hs8=>?_)))
    refine tA (I 0) r0 (tA (.bool false) r0 (nn (rt (tR ?_))))
    refine fret (v:=.tuple #[.agg #[I 0,ns,Str [],I 0],I 0,.bool false]) (resC hs8 0 r0 r0 ag43 r0 (.tmp (.tmp .nil))) r0 ?_
    have hs9:=hs8.nl [.own none (([]:List Int).length) 0 3 1 (([]:List Int).map I)] r0
    have e17:addrD bs=((0,([]:List Int),[],0),0,false):=by exact addrD_no (.inr (.inr ‹_›))
    have e18:=pj11 e17
    have e19:=pj121 e17
    have e20:=congrArg List.length e19
    have e21:=pj1221 e17
    have e22:=pj1222 e17
    have e23:=pj21 e17
    have e24:=pj22 e17
    exact⟨none,0,(tup3 (aggv (lc (congrArg (Value.int .i64) e18) (lc (slv r0 e20 r0) (lc (congrArg (Str) e21) (lc (congrArg (Value.int .i64) e22) r0))))) (congrArg (Value.int .i64) e23) (congrArg (Value.bool) e24)),((hs9.pq [1] r0).cast (lc (own_eq (g:=I) r0 e20 r0 e19) r0))⟩
   ·refine sk (nN (sq ?_))
    refine raJ (fun w'=>∃ L,SH w w' [] L∧(.blk b1 43 [I 0,ns,Str [],I 0])∈L∧True) (fun f w'=>∃ (b3' b11':Nat),Hz f [(0,.slice Abs bs.length cbs),(2,pB b1),(5,I (szA bs)),(6,pB b11')]∧SH w w' [] [(Z14 b1),.blk b11' 43 [I (bs.getD 0 0),sb b3' (([]:List Int).length) 0,Str [],I (ofB ((bs.take ((szA bs).toNat)).drop (((szA bs)-2).toNat)))],(Z27 b3')]) mixed ?_ ?_
    ·refine dG 1 13 4095 (fun f w'=>∃ (b3' b11':Nat),Hz f [(0,.slice Abs bs.length cbs),(2,pB b1),(5,I (szA bs)),(6,pB b11'),(33,.agg #[I (bs.getD 0 0),sb b3' (([]:List Int).length) 0,Str [],I (ofB ((bs.take ((szA bs).toNat)).drop (((szA bs)-2).toNat)))])]∧SH w w' [] [(Z14 b1),(Z14 b11'),(Z27 b3')]) ?_ (fun D_4_0=>?_)
     ·rintro f w7 ⟨b3',b11',⟨g1,rfl⟩,hs10⟩
      refine aO 12 r0 (sG [I (bs.getD 0 0),sb b3' (([]:List Int).length) 0,Str [],I (ofB ((bs.take ((szA bs).toNat)).drop (((szA bs)-2).toNat)))] hs10 1 r0 ag43 (fun w8 hs11=>?_))
      refine nk (m1 hs11 0 r0) ?_
      refine ad (by kernel_rfl) ?_
      exact⟨b3',b11',(zR r0),(hs11.pk [0,2,1] r0)⟩
     refine dG 2 13 2047 (fun f w'=>∃ (b3':Nat),Hz f [(0,.slice Abs bs.length cbs),(2,pB b1),(5,I (szA bs)),(33,.agg #[I (bs.getD 0 0),sb b3' (([]:List Int).length) 0,Str [],I (ofB ((bs.take ((szA bs).toNat)).drop (((szA bs)-2).toNat)))])]∧SH w w' [] [(Z14 b1),(Z27 b3')]) ?_ (fun D_4_1=>?_)
     ·rintro f w9 ⟨b3',⟨g2,rfl⟩,hs12⟩
      refine aO 11 r0 (al (v:=.agg #[I 0,ns,Str [],I 0]) (cs:=[I 0,ns,Str [],I 0]) hs12 tz43 r0 trivial r0 (fun b11' w10 hs13=>?_))
      exact nk (m1 hs13 0 r0) (alc D_4_0 ⟨b3',b11',(zR r0),(hs13.pk [0,2,1] r0)⟩)
     refine dG 3 13 2559 (fun f w'=>∃ (b3' b11':Nat),Hz f [(0,.slice Abs bs.length cbs),(2,pB b1),(5,I (szA bs)),(6,pB b11'),(25,I (bs.getD 0 0)),(26,sb b3' (([]:List Int).length) 0),(31,.slice (if cbs=((szA bs)-2).toNat then Abs else Abs.map (·.add ((((szA bs)-2).toNat)*1))) (((bs.take ((szA bs).toNat)).drop (((szA bs)-2).toNat)).length) (cbs-(((szA bs)-2).toNat)))]∧SH w w' [] [(Z14 b1),(Z14 b11'),(Z27 b3')]) ?_ (fun D_4_2=>?_)
     ·rintro f w11 ⟨b3',b11',⟨g3,rfl⟩,hs14⟩
      refine aO 9 r0 (cL r0 (sL1Of (Azs:=if cbs=((szA bs)-2).toNat then Abs else Abs.map (·.add ((((szA bs)-2).toNat)*1))) (czs:=cbs-(((szA bs)-2).toNat)) (zs:=(bs.take ((szA bs).toNat)).drop (((szA bs)-2).toNat)) (w:=_) (hzs:=(Sl.cutm (hbs.up0 hs14) (by(omega)) (by(omega)))) (hz:=(by intro x hx; exact(isBytes_iff.1 hob).1 x (List.mem_of_mem_take (List.mem_of_mem_drop hx)))) (hzl:=(by have hzb:=szA_bd hob; have hbl:=isBytes_len hob; have hz7:=szA_7 (b:=bs); simp only[List.length_drop,List.length_take]; omega))) ?_)
      rintro _ w12 ⟨rfl,hs15⟩
      replace hs15:=hs14.call0 hs15
      refine nk (m1 hs15 0 r0) ?_
      refine tk (fuel:=1) (is:=[10]) (.cons r0 (.nil)) (by kernel_rfl) (by kernel_rfl) (m1 hs15 0 r0) (yA r0 (bdv (v:=.agg #[I (bs.getD 0 0),sb b3' (([]:List Int).length) 0,Str [],I (ofB ((bs.take ((szA bs).toNat)).drop (((szA bs)-2).toNat)))]) [(0,I (bs.getD 0 0)),(1,sb b3' (([]:List Int).length) 0),(3,I (ofB ((bs.take ((szA bs).toNat)).drop (((szA bs)-2).toNat))))] r0 (fun _=>by kernel_rfl)) (.nil ?_))
      exact alc D_4_0 ⟨b3',b11',(zR r0),hs15⟩
     refine dG 3 13 3063 (fun f w'=>∃ (b11':Nat),Hz f [(0,.slice Abs bs.length cbs),(2,pB b1),(5,I (szA bs)),(6,pB b11'),(25,I (bs.getD 0 0)),(32,I (ofB ((bs.take ((szA bs).toNat)).drop (((szA bs)-2).toNat))))]∧SH w w' [] [(Z14 b1),(Z14 b11')]) ?_ (fun D_4_3=>?_)
     ·rintro f w13 ⟨b11',⟨g4,rfl⟩,hs16⟩
      refine aO 3 r0 (bsk hs16 sl22 [] [] trivial r0 (fun b3' w14 hs17=>?_))
      refine nk (m1 hs17 0 r0) ?_
      refine tk (fuel:=1) (is:=[10]) (.cons r0 (.nil)) (by kernel_rfl) (by kernel_rfl) (m1 hs17 0 r0) (yA r0 (bdv (v:=.agg #[I (bs.getD 0 0),sb b3' (([]:List Int).length) 0,Str [],I (ofB ((bs.take ((szA bs).toNat)).drop (((szA bs)-2).toNat)))]) [(0,I (bs.getD 0 0)),(1,sb b3' (([]:List Int).length) 0),(3,I (ofB ((bs.take ((szA bs).toNat)).drop (((szA bs)-2).toNat))))] r0 (fun _=>by kernel_rfl)) (.nil ?_))
      exact alc D_4_0 ⟨b3',b11',(zR r0),hs17⟩
     refine dG 4 13 511 (fun f w'=>∃ (b3':Nat),Hz f [(0,.slice Abs bs.length cbs),(2,pB b1),(5,I (szA bs)),(25,I (bs.getD 0 0)),(26,sb b3' (([]:List Int).length) 0),(31,.slice (if cbs=((szA bs)-2).toNat then Abs else Abs.map (·.add ((((szA bs)-2).toNat)*1))) (((bs.take ((szA bs).toNat)).drop (((szA bs)-2).toNat)).length) (cbs-(((szA bs)-2).toNat)))]∧SH w w' [] [(Z14 b1),(Z27 b3')]) ?_ (fun D_4_4=>?_)
     ·rintro f w15 ⟨b3',⟨g5,rfl⟩,hs18⟩
      refine aaL [9,11] (fa_cons ?_ (fa_one ?_))
      ·refine one_ r0 (cL r0 (sL1Of (Azs:=if cbs=((szA bs)-2).toNat then Abs else Abs.map (·.add ((((szA bs)-2).toNat)*1))) (czs:=cbs-(((szA bs)-2).toNat)) (zs:=(bs.take ((szA bs).toNat)).drop (((szA bs)-2).toNat)) (w:=_) (hzs:=(Sl.cutm (hbs.up0 hs18) (by(omega)) (by(omega)))) (hz:=(by intro x hx; exact(isBytes_iff.1 hob).1 x (List.mem_of_mem_take (List.mem_of_mem_drop hx)))) (hzl:=(by have hzb:=szA_bd hob; have hbl:=isBytes_len hob; have hz7:=szA_7 (b:=bs); simp only[List.length_drop,List.length_take]; omega))) ?_)
       rintro _ w16 ⟨rfl,hs19⟩
       replace hs19:=hs18.call0 hs19
       refine nk (m1 hs19 0 r0) ?_
       refine tk (fuel:=2) (is:=[10]) (.cons r0 (.nil)) (by kernel_rfl) (by kernel_rfl) (m1 hs19 0 r0) (yA r0 (bdv (v:=.agg #[I (bs.getD 0 0),sb b3' (([]:List Int).length) 0,Str [],I (ofB ((bs.take ((szA bs).toNat)).drop (((szA bs)-2).toNat)))]) [(0,I (bs.getD 0 0)),(1,sb b3' (([]:List Int).length) 0),(3,I (ofB ((bs.take ((szA bs).toNat)).drop (((szA bs)-2).toNat))))] r0 (fun _=>by kernel_rfl)) (.nil ?_))
       exact alc D_4_1 ⟨b3',(zR r0),hs19⟩
      ·refine one_ r0 (al (v:=.agg #[I 0,ns,Str [],I 0]) (cs:=[I 0,ns,Str [],I 0]) hs18 tz43 r0 trivial r0 (fun b11' w17 hs20=>?_))
       exact nk (m1 hs20 0 r0) (alc D_4_2 ⟨b3',b11',(zR r0),(hs20.pk [0,2,1] r0)⟩)
     refine dG 4 13 1015 (fun f w'=>Hz f [(0,.slice Abs bs.length cbs),(2,pB b1),(5,I (szA bs)),(25,I (bs.getD 0 0)),(32,I (ofB ((bs.take ((szA bs).toNat)).drop (((szA bs)-2).toNat))))]∧SH w w' [] [(Z14 b1)]) ?_ (fun D_4_5=>?_)
     ·rintro f w18 ⟨⟨g6,rfl⟩,hs21⟩
      refine aaL [3,11] (fa_cons ?_ (fa_one ?_))
      ·refine one_ r0 (bsk hs21 sl22 [] [] trivial r0 (fun b3' w19 hs22=>?_))
       refine nk (m1 hs22 0 r0) ?_
       refine tk (fuel:=2) (is:=[10]) (.cons r0 (.nil)) (by kernel_rfl) (by kernel_rfl) (m1 hs22 0 r0) (yA r0 (bdv (v:=.agg #[I (bs.getD 0 0),sb b3' (([]:List Int).length) 0,Str [],I (ofB ((bs.take ((szA bs).toNat)).drop (((szA bs)-2).toNat)))]) [(0,I (bs.getD 0 0)),(1,sb b3' (([]:List Int).length) 0),(3,I (ofB ((bs.take ((szA bs).toNat)).drop (((szA bs)-2).toNat))))] r0 (fun _=>by kernel_rfl)) (.nil ?_))
       exact alc D_4_1 ⟨b3',(zR r0),hs22⟩
      ·refine one_ r0 (al (v:=.agg #[I 0,ns,Str [],I 0]) (cs:=[I 0,ns,Str [],I 0]) hs21 tz43 r0 trivial r0 (fun b11' w20 hs23=>?_))
       exact nk (m1 hs23 0 r0) (alc D_4_3 ⟨b11',(zR r0),hs23⟩)
     refine dG 4 13 2551 (fun f w'=>∃ (b11':Nat),Hz f [(0,.slice Abs bs.length cbs),(2,pB b1),(5,I (szA bs)),(6,pB b11'),(25,I (bs.getD 0 0)),(31,.slice (if cbs=((szA bs)-2).toNat then Abs else Abs.map (·.add ((((szA bs)-2).toNat)*1))) (((bs.take ((szA bs).toNat)).drop (((szA bs)-2).toNat)).length) (cbs-(((szA bs)-2).toNat)))]∧SH w w' [] [(Z14 b1),(Z14 b11')]) ?_ (fun D_4_6=>?_)
     ·rintro f w21 ⟨b11',⟨g7,rfl⟩,hs24⟩
      refine aaL [3,9] (fa_cons ?_ (fa_one ?_))
      ·refine one_ r0 (bsk hs24 sl22 [] [] trivial r0 (fun b3' w22 hs25=>?_))
       exact nk (m1 hs25 0 r0) (alc D_4_2 ⟨b3',b11',(zR r0),hs25⟩)
      ·refine one_ r0 (cL r0 (sL1Of (Azs:=if cbs=((szA bs)-2).toNat then Abs else Abs.map (·.add ((((szA bs)-2).toNat)*1))) (czs:=cbs-(((szA bs)-2).toNat)) (zs:=(bs.take ((szA bs).toNat)).drop (((szA bs)-2).toNat)) (w:=_) (hzs:=(Sl.cutm (hbs.up0 hs24) (by(omega)) (by(omega)))) (hz:=(by intro x hx; exact(isBytes_iff.1 hob).1 x (List.mem_of_mem_take (List.mem_of_mem_drop hx)))) (hzl:=(by have hzb:=szA_bd hob; have hbl:=isBytes_len hob; have hz7:=szA_7 (b:=bs); simp only[List.length_drop,List.length_take]; omega))) ?_)
       rintro _ w23 ⟨rfl,hs26⟩
       replace hs26:=hs24.call0 hs26
       exact nk (m1 hs26 0 r0) (alc D_4_3 ⟨b11',(zR r0),hs26⟩)
     refine dG 5 13 503 (fun f w'=>Hz f [(0,.slice Abs bs.length cbs),(2,pB b1),(5,I (szA bs)),(25,I (bs.getD 0 0)),(31,.slice (if cbs=((szA bs)-2).toNat then Abs else Abs.map (·.add ((((szA bs)-2).toNat)*1))) (((bs.take ((szA bs).toNat)).drop (((szA bs)-2).toNat)).length) (cbs-(((szA bs)-2).toNat)))]∧SH w w' [] [(Z14 b1)]) ?_ (fun D_4_7=>?_)
     ·rintro f w24 ⟨⟨g8,rfl⟩,hs27⟩
      refine aaL [3,9,11] (fa_cons ?_ (fa_cons ?_ (fa_one ?_)))
      ·refine one_ r0 (bsk hs27 sl22 [] [] trivial r0 (fun b3' w25 hs28=>?_))
       exact nk (m1 hs28 0 r0) (alc D_4_4 ⟨b3',(zR r0),hs28⟩)
      ·refine one_ r0 (cL r0 (sL1Of (Azs:=if cbs=((szA bs)-2).toNat then Abs else Abs.map (·.add ((((szA bs)-2).toNat)*1))) (czs:=cbs-(((szA bs)-2).toNat)) (zs:=(bs.take ((szA bs).toNat)).drop (((szA bs)-2).toNat)) (w:=_) (hzs:=(Sl.cutm (hbs.up0 hs27) (by(omega)) (by(omega)))) (hz:=(by intro x hx; exact(isBytes_iff.1 hob).1 x (List.mem_of_mem_take (List.mem_of_mem_drop hx)))) (hzl:=(by have hzb:=szA_bd hob; have hbl:=isBytes_len hob; have hz7:=szA_7 (b:=bs); simp only[List.length_drop,List.length_take]; omega))) ?_)
       rintro _ w26 ⟨rfl,hs29⟩
       replace hs29:=hs27.call0 hs29
       exact nk (m1 hs29 0 r0) (alc D_4_5 ⟨(zR r0),hs29⟩)
      ·refine one_ r0 (al (v:=.agg #[I 0,ns,Str [],I 0]) (cs:=[I 0,ns,Str [],I 0]) hs27 tz43 r0 trivial r0 (fun b11' w27 hs30=>?_))
       exact nk (m1 hs30 0 r0) (alc D_4_6 ⟨b11',(zR r0),hs30⟩)
     have hs31:=hs3.drew
     refine tk (fuel:=5) (is:=[0,1,2,4,5,6,7,8]) (.cons r0 (.cons r0 (.cons r0 (.cons r0 (.cons r0 (.cons r0 (.cons r0 (.cons r0 (.nil))))))))) (by kernel_rfl) (by kernel_rfl) (m1 hs31 0 r0) (yA r0 (mv (v:=.slice Abs bs.length cbs) r0) (ixy1 0 sl22 r0 r0 hbs (by(have hzb:=szA_bd hob; have hbl:=isBytes_len hob; have hz7:=szA_7 (b:=bs); omega)) (getm I 0 (by(have hzb:=szA_bd hob; have hbl:=isBytes_len hob; have hz7:=szA_7 (b:=bs); omega))) trivial r0 (fun a1 ha1=>?_)))
     refine yB r0 (fun ⟨Lq,hsq,mh0,_⟩=>lda (v:=I (bs.getD 0 0)) hsq ha1 (fun _ h=>h) r0 r0 one3) (yA r0 (mv (v:=.slice Abs bs.length cbs) r0) (yA r0 (mv (v:=I (szA bs)) r0) (yA r0 (sub (a:=szA bs) (b:=2) r0 r0 (by(exact⟨by omega,by omega⟩))) (yA r0 (mv (v:=I (szA bs)) r0) (yA r0 (cum (zs:=bs) (((szA bs)-2).toNat) ((szA bs).toNat) sl22 r0 (ieq (x:=(szA bs)-2) (by(have hzb:=szA_bd hob; have hbl:=isBytes_len hob; have hz7:=szA_7 (b:=bs); omega))) (ieq (x:=szA bs) (by(omega))) (by(omega)) (by(omega)) hbs.cap) (.nil ?_))))))
     exact alc D_4_7 ⟨(zR r0),hs31⟩
    rintro f w28 ⟨b3',b11',⟨g9,rfl⟩,hs32⟩
    refine nN (sq (sr (tm (Z13 Abs bs cbs) r0 (ixw1 0 sl22 r0 r0 hbs (by(have hzb:=szA_bd hob; have hbl:=isBytes_len hob; have hz7:=szA_7 (b:=bs); omega)) (getm I 0 (by(have hzb:=szA_bd hob; have hbl:=isBytes_len hob; have hz7:=szA_7 (b:=bs); omega))) trivial r0 (fun a2 ha2=>?_)))))
    refine qt r0 (lda (v:=I (bs.getD 0 0)) hs32 ha2 (fun _ h=>h) r0 r0 one3) (qt r0 (eqi (k:=.i64) (a:=bs.getD 0 0) (b:=1) r0 r0) (nn ?_))
    refine cdd (p:=(bs.getD 0 0)=1) r0 (fun h6=>?_) (fun h6=>?_)
    ·refine raJ (fun w'=>∃ L,SH w w' [] L∧(.blk b1 43 [I 0,ns,Str [],I 0])∈L∧True) (fun f w'=>∃ (A4'':Option Addr) (c4'':Nat),Hz f [(2,pB b1),(5,I (szA bs)),(6,pB b11')]∧SH w w' [] [(Z14 b1),.blk b11' 43 [I (bs.getD 0 0),.slice A4'' (((bs.take 5).drop 1).length) c4'',Str [],I (ofB ((bs.take ((szA bs).toNat)).drop (((szA bs)-2).toNat)))],.own A4'' (((bs.take 5).drop 1).length) c4'' 3 1 (((bs.take 5).drop 1).map I)]) mixed ?_ ?_
     ·refine dG 1 7 63 (fun f w'=>∃ (A4'':Option Addr) (c4'':Nat),Hz f [(2,pB b1),(5,I (szA bs)),(6,pB b11'),(42,.slice A4'' (((bs.take 5).drop 1).length) c4''),(43,.pointer (some ⟨b11',1,none⟩))]∧SH w w' [] [(Z14 b1),.blk b11' 43 [I (bs.getD 0 0),sb b3' (([]:List Int).length) 0,Str [],I (ofB ((bs.take ((szA bs).toNat)).drop (((szA bs)-2).toNat)))],.own A4'' (((bs.take 5).drop 1).length) c4'' 3 1 (((bs.take 5).drop 1).map I)]) ?_ (fun D_6_0=>?_)
      ·rintro f w29 ⟨A4'',c4'',⟨g10,rfl⟩,hs33⟩
       refine aO 6 r0 (sT (.slice A4'' (((bs.take 5).drop 1).length) c4'') hs33 1 r0 one22 (fun w30 hs34=>?_))
       refine nk (m1 hs34 0 r0) ?_
       refine ad (by kernel_rfl) ?_
       exact⟨A4'',c4'',(zR r0),(hs34.pk [0,2,1] r0)⟩
      refine dG 3 7 15 (fun f w'=>Hz f [(2,pB b1),(5,I (szA bs)),(6,pB b11'),(39,sb b3' (([]:List Int).length) 0),(41,.slice (if cbs=1 then Abs else Abs.map (·.add (1*1))) (((bs.take 5).drop 1).length) (cbs-1))]∧SH w w' [] [(Z14 b1),.blk b11' 43 [I (bs.getD 0 0),sb b3' (([]:List Int).length) 0,Str [],I (ofB ((bs.take ((szA bs).toNat)).drop (((szA bs)-2).toNat)))],(Z27 b3')]) ?_ (fun D_6_1=>?_)
      ·rintro f w31 ⟨⟨g11,rfl⟩,hs35⟩
       refine aO 4 r0 (apm (g:=I) (ys:=([]:List Int)) (zs:=(bs.take 5).drop 1) hs35 2 r0 sl22 r0 r0 r0 (Sl.cutm (hbs.up0 hs35) (by(omega)) (by(have hzb:=szA_bd hob; have hbl:=isBytes_len hob; have hz7:=szA_7 (b:=bs); omega))) (fun _=>rfl) (by unfold maxLen; have hzb:=szA_bd hob; have hbl:=isBytes_len hob; have hz7:=szA_7 (b:=bs); simp only[List.length_nil,List.length_drop,List.length_take]; omega) (by have hzb:=szA_bd hob; have hbl:=isBytes_len hob; have hz7:=szA_7 (b:=bs); simp only[List.length_nil,List.length_drop,List.length_take]; omega) trivial r0 (fun A4'' c4'' w32 hs36=>?_))
       refine nk (m1 hs36 0 r0) ?_
       refine tk (fuel:=1) (is:=[5]) (.cons r0 (.nil)) (by kernel_rfl) (by kernel_rfl) (m1 hs36 0 r0) (yA r0 (fa 1 fo43_1 r0) (.nil ?_))
       exact alc D_6_0 ⟨A4'',c4'',(zR r0),hs36⟩
      refine dG 4 7 13 (fun f w'=>Hz f [(2,pB b1),(5,I (szA bs)),(6,pB b11'),(38,.pointer (some ⟨b11',1,none⟩)),(41,.slice (if cbs=1 then Abs else Abs.map (·.add (1*1))) (((bs.take 5).drop 1).length) (cbs-1))]∧SH w w' [] [(Z14 b1),.blk b11' 43 [I (bs.getD 0 0),sb b3' (([]:List Int).length) 0,Str [],I (ofB ((bs.take ((szA bs).toNat)).drop (((szA bs)-2).toNat)))],(Z27 b3')]) ?_ (fun D_6_2=>?_)
      ·rintro f w33 ⟨⟨g12,rfl⟩,hs37⟩
       refine aO 1 r0 (qt r0 (lD (sb b3' (([]:List Int).length) 0) hs37 1 r0 one22) ?_)
       exact nk (m1 hs37 0 r0) (alc D_6_1 ⟨(zR r0),hs37⟩)
      have hs38:=hs32.drew
      refine tk (fuel:=4) (is:=[0,2,3]) (.cons r0 (.cons r0 (.cons r0 (.nil)))) (by kernel_rfl) (by kernel_rfl) (m1 hs38 0 r0) (yA r0 (fa 1 fo43_1 r0) (yA r0 (mv (v:=.slice Abs bs.length cbs) r0) (yA r0 (cum (zs:=bs) 1 5 sl22 r0 r0 r0 (by(omega)) (by(have hzb:=szA_bd hob; have hbl:=isBytes_len hob; have hz7:=szA_7 (b:=bs); omega)) hbs.cap) (.nil ?_))))
      exact alc D_6_2 ⟨(zR r0),hs38⟩
     rintro f w34 ⟨A4'',c4'',⟨g13,rfl⟩,hs39⟩
     refine nN (sq (sr (qt r0 (lG [I (bs.getD 0 0),.slice A4'' (((bs.take 5).drop 1).length) c4'',Str [],I (ofB ((bs.take ((szA bs).toNat)).drop (((szA bs)-2).toNat)))] hs39 1 r0 ag43) (cL r0 (sAddressValid (ak:=bs.getD 0 0) (Aaq:=A4'') (caq:=c4'') (aq:=(bs.take 5).drop 1) (an:=[]) (apt:=ofB ((bs.take ((szA bs).toNat)).drop (((szA bs)-2).toNat))) (w:=_) (haq:=(hs39.sl0 2 r0)) (han_n:=(by(simp; done)))) ?_))))
     rintro _ w35 ⟨rfl,hs40⟩
     replace hs40:=hs39.call0 hs40
     refine qt r0 (nt (b:=addrOk (bs.getD 0 0) ((bs.take 5).drop 1) [] (ofB ((bs.take ((szA bs).toNat)).drop (((szA bs)-2).toNat)))) r0) (nn ?_)
     refine cd (b:=!(addrOk (bs.getD 0 0) ((bs.take 5).drop 1) [] (ofB ((bs.take ((szA bs).toNat)).drop (((szA bs)-2).toNat))))) r0 (fun h7=>?_) (fun h7=>?_)
     ·have h8:(addrOk (bs.getD 0 0) ((bs.take 5).drop 1) [] (ofB ((bs.take ((szA bs).toNat)).drop (((szA bs)-2).toNat))))=false:=by simpa using h7
      refine sr (qt r0 (bdv (v:=.agg #[I 0,ns,Str [],I 0]) [] r0 (fun _=>by kernel_rfl)) (sG [I 0,ns,Str [],I 0] hs40 0 r0 ag43 (fun w36 hs41=>?_)))
      refine tA (I 0) r0 (tA (.bool false) r0 (nn (rt (tR ?_))))
      refine fret (v:=.tuple #[.agg #[I 0,ns,Str [],I 0],I 0,.bool false]) (resC hs41 2 r0 r0 ag43 r0 (.tmp (.tmp .nil))) r0 ?_
      have hs42:=hs41.nl [.own none (([]:List Int).length) 0 3 1 (([]:List Int).map I)] r0
      have e25:addrD bs=((0,([]:List Int),[],0),0,false):=by exact addrD_qn hob (by omega) (by omega) ‹_› ‹_›
      have e26:=pj11 e25
      have e27:=pj121 e25
      have e28:=congrArg List.length e27
      have e29:=pj1221 e25
      have e30:=pj1222 e25
      have e31:=pj21 e25
      have e32:=pj22 e25
      exact⟨none,0,(tup3 (aggv (lc (congrArg (Value.int .i64) e26) (lc (slv r0 e28 r0) (lc (congrArg (Str) e29) (lc (congrArg (Value.int .i64) e30) r0))))) (congrArg (Value.int .i64) e31) (congrArg (Value.bool) e32)),((hs42.pq [3] r0).cast (lc (own_eq (g:=I) r0 e28 r0 e27) r0))⟩
     ·have h9:(addrOk (bs.getD 0 0) ((bs.take 5).drop 1) [] (ofB ((bs.take ((szA bs).toNat)).drop (((szA bs)-2).toNat))))=true:=by simpa using h7
      refine sk (nN (sr (qt r0 (lG [I (bs.getD 0 0),.slice A4'' (((bs.take 5).drop 1).length) c4'',Str [],I (ofB ((bs.take ((szA bs).toNat)).drop (((szA bs)-2).toNat)))] hs40 1 r0 ag43) (tm (I (szA bs)) r0 (sG [I (bs.getD 0 0),.slice A4'' (((bs.take 5).drop 1).length) c4'',Str [],I (ofB ((bs.take ((szA bs).toNat)).drop (((szA bs)-2).toNat)))] hs40 0 r0 ag43 (fun w37 hs43=>?_))))))
      refine tA (I (szA bs)) r0 (tA (.bool true) r0 (nn (rt (fret (v:=.tuple #[.agg #[I (bs.getD 0 0),.slice A4'' (((bs.take 5).drop 1).length) c4'',Str [],I (ofB ((bs.take ((szA bs).toNat)).drop (((szA bs)-2).toNat)))],I (szA bs),.bool true]) (resC hs43 2 r0 r0 ag43 r0 (.tmp (.tmp .nil))) r0 ?_))))
      have e33:addrD bs=((bs.getD 0 0,(bs.take 5).drop 1,[],ofB ((bs.take ((szA bs).toNat)).drop (((szA bs)-2).toNat))),szA bs,true):=by exact addrD_q hob (by omega) (by omega) ‹_› ‹_›
      have e34:=pj11 e33
      have e35:=pj121 e33
      have e36:=congrArg List.length e35
      have e37:=pj1221 e33
      have e38:=pj1222 e33
      have e39:=pj21 e33
      have e40:=pj22 e33
      exact⟨A4'',c4'',(tup3 (aggv (lc (congrArg (Value.int .i64) e34) (lc (slv r0 e36 r0) (lc (congrArg (Str) e37) (lc (congrArg (Value.int .i64) e38) r0))))) (congrArg (Value.int .i64) e39) (congrArg (Value.bool) e40)),((hs43.pq [1] r0).cast (lc (own_eq (g:=I) r0 e36 r0 e35) r0))⟩
    ·refine rg (tm (Z13 Abs bs cbs) r0 (tm (I (szA bs)) r0 (qt r0 (sub (a:=szA bs) (b:=2) r0 r0 (by(exact⟨by omega,by omega⟩))) (qt r0 (cum (zs:=bs) 2 (((szA bs)-2).toNat) sl22 r0 r0 (ieq (x:=(szA bs)-2) (by(have hzb:=szA_bd hob; have hbl:=isBytes_len hob; have hz7:=szA_7 (b:=bs); omega))) (by(have hzb:=szA_bd hob; have hbl:=isBytes_len hob; have hz7:=szA_7 (b:=bs); omega)) (by(omega)) hbs.cap) (cL r0 (sL1Bytes (Azs:=if cbs=2 then Abs else Abs.map (·.add (2*1))) (czs:=cbs-2) (zs:=(bs.take (((szA bs)-2).toNat)).drop 2) (w:=_) (hzs:=(Sl.cutm (hbs.up0 hs32) (by(have hzb:=szA_bd hob; have hbl:=isBytes_len hob; have hz7:=szA_7 (b:=bs); omega)) (by(omega)))) (hz:=(by intro x hx; exact(isBytes_iff.1 hob).1 x (List.mem_of_mem_take (List.mem_of_mem_drop hx)))) (hzl:=(by have hzb:=szA_bd hob; have hbl:=isBytes_len hob; have hz7:=szA_7 (b:=bs); simp only[List.length_drop,List.length_take]; omega))) ?_)))))
     rintro _ w38 ⟨rfl,hs44⟩
     replace hs44:=hs32.call0 hs44
     refine qt r0 (fa 2 fo43_2 r0) (sT (Str (bT ((bs.take (((szA bs)-2).toNat)).drop 2))) hs44 1 r0 one9 (fun w39 hs45=>?_))
     refine nn (sq (sr (qt r0 (lG [I (bs.getD 0 0),sb b3' (([]:List Int).length) 0,Str (bT ((bs.take (((szA bs)-2).toNat)).drop 2)),I (ofB ((bs.take ((szA bs).toNat)).drop (((szA bs)-2).toNat)))] hs45 2 r0 ag43) (cL r0 (sAddressValid (ak:=bs.getD 0 0) (Aaq:=(Z6 b3')) (caq:=0) (aq:=([]:List Int)) (an:=bT ((bs.take (((szA bs)-2).toNat)).drop 2)) (apt:=ofB ((bs.take ((szA bs).toNat)).drop (((szA bs)-2).toNat))) (w:=_) (haq:=(hs45.sl0 1 r0)) (han_n:=(by(have hzb:=szA_bd hob; have hbl:=isBytes_len hob; have hz7:=szA_7 (b:=bs); simp only[bT_len,List.length_drop,List.length_take]; omega)))) ?_))))
     rintro _ w40 ⟨rfl,hs46⟩
     replace hs46:=hs45.call0 hs46
     refine qt r0 (nt (b:=addrOk (bs.getD 0 0) ([]:List Int) (bT ((bs.take (((szA bs)-2).toNat)).drop 2)) (ofB ((bs.take ((szA bs).toNat)).drop (((szA bs)-2).toNat)))) r0) (nn ?_)
     refine cd (b:=!(addrOk (bs.getD 0 0) ([]:List Int) (bT ((bs.take (((szA bs)-2).toNat)).drop 2)) (ofB ((bs.take ((szA bs).toNat)).drop (((szA bs)-2).toNat))))) r0 (fun h10=>?_) (fun h10=>?_)
     ·have h11:(addrOk (bs.getD 0 0) ([]:List Int) (bT ((bs.take (((szA bs)-2).toNat)).drop 2)) (ofB ((bs.take ((szA bs).toNat)).drop (((szA bs)-2).toNat))))=false:=by simpa using h10
      refine sr (qt r0 (bdv (v:=.agg #[I 0,ns,Str [],I 0]) [] r0 (fun _=>by kernel_rfl)) (sG [I 0,ns,Str [],I 0] hs46 0 r0 ag43 (fun w41 hs47=>?_)))
      refine tA (I 0) r0 (tA (.bool false) r0 (nn (rt (tR ?_))))
      refine fret (v:=.tuple #[.agg #[I 0,ns,Str [],I 0],I 0,.bool false]) (resC hs47 2 r0 r0 ag43 r0 (.tmp (.tmp .nil))) r0 ?_
      have hs48:=hs47.nl [.own none (([]:List Int).length) 0 3 1 (([]:List Int).map I)] r0
      have e41:addrD bs=((0,([]:List Int),[],0),0,false):=by exact addrD_nn hob (by omega) (by omega) ‹_› ‹_›
      have e42:=pj11 e41
      have e43:=pj121 e41
      have e44:=congrArg List.length e43
      have e45:=pj1221 e41
      have e46:=pj1222 e41
      have e47:=pj21 e41
      have e48:=pj22 e41
      exact⟨none,0,(tup3 (aggv (lc (congrArg (Value.int .i64) e42) (lc (slv r0 e44 r0) (lc (congrArg (Str) e45) (lc (congrArg (Value.int .i64) e46) r0))))) (congrArg (Value.int .i64) e47) (congrArg (Value.bool) e48)),((hs48.pq [3] r0).cast (lc (own_eq (g:=I) r0 e44 r0 e43) r0))⟩
     ·have h12:(addrOk (bs.getD 0 0) ([]:List Int) (bT ((bs.take (((szA bs)-2).toNat)).drop 2)) (ofB ((bs.take ((szA bs).toNat)).drop (((szA bs)-2).toNat))))=true:=by simpa using h10
      refine sk (nN (sr (qt r0 (lG [I (bs.getD 0 0),sb b3' (([]:List Int).length) 0,Str (bT ((bs.take (((szA bs)-2).toNat)).drop 2)),I (ofB ((bs.take ((szA bs).toNat)).drop (((szA bs)-2).toNat)))] hs46 2 r0 ag43) (tm (I (szA bs)) r0 (sG [I (bs.getD 0 0),sb b3' (([]:List Int).length) 0,Str (bT ((bs.take (((szA bs)-2).toNat)).drop 2)),I (ofB ((bs.take ((szA bs).toNat)).drop (((szA bs)-2).toNat)))] hs46 0 r0 ag43 (fun w42 hs49=>?_))))))
      refine tA (I (szA bs)) r0 (tA (.bool true) r0 (nn (rt (fret (v:=.tuple #[.agg #[I (bs.getD 0 0),sb b3' (([]:List Int).length) 0,Str (bT ((bs.take (((szA bs)-2).toNat)).drop 2)),I (ofB ((bs.take ((szA bs).toNat)).drop (((szA bs)-2).toNat)))],I (szA bs),.bool true]) (resC hs49 2 r0 r0 ag43 r0 (.tmp (.tmp .nil))) r0 ?_))))
      have e49:addrD bs=((bs.getD 0 0,([]:List Int),bT ((bs.take (((szA bs)-2).toNat)).drop 2),ofB ((bs.take ((szA bs).toNat)).drop (((szA bs)-2).toNat))),szA bs,true):=by exact addrD_n hob (by omega) (by omega) ‹_› ‹_›
      have e50:=pj11 e49
      have e51:=pj121 e49
      have e52:=congrArg List.length e51
      have e53:=pj1221 e49
      have e54:=pj1222 e49
      have e55:=pj21 e49
      have e56:=pj22 e49
      exact⟨(Z6 b3'),0,(tup3 (aggv (lc (congrArg (Value.int .i64) e50) (lc (slv r0 e52 r0) (lc (congrArg (Str) e53) (lc (congrArg (Value.int .i64) e54) r0))))) (congrArg (Value.int .i64) e55) (congrArg (Value.bool) e56)),((hs49.pq [0] r0).cast (lc (own_eq (g:=I) r0 e52 r0 e51) r0))⟩
set_option maxHeartbeats 8000000 in
theorem sL12From {Abs:Option Addr} {cbs:Nat} (bs:List Int) (w:World) (hbs:Sl w [] 1 Abs bs.length cbs (bs.map I)):Does Tryz.prog 145 [.slice Abs bs.length cbs] w (fun v w'=>∃ Aqr:Option Addr,∃ cqr:Nat,v=.tuple #[.int .i64 ((codeFrom bs).1),.agg #[.int .i64 ((codeFrom bs).2.1.1),.slice Aqr ((codeFrom bs).2.1.2.1).length cqr,Str ((codeFrom bs).2.1.2.2.1),.int .i64 ((codeFrom bs).2.1.2.2.2)],.int .i64 ((codeFrom bs).2.2.1),.bool ((codeFrom bs).2.2.2)]∧SH w w' [] [.own Aqr (((codeFrom bs).2.1.2.1).length) cqr 3 1 (((codeFrom bs).2.1.2.1).map I)]):=by
 refine fE (N:=46) Tryz.func145 r0 (by kernel_rfl) r0 ?_
 have hs0:=SH.refl w []
 have hbs_m:bs.length≤9223372036854775807:=Nat.le_trans hbs.cap hbs.capMax
 refine sr (tA (I 0) r0 (al (v:=.agg #[I 0,ns,Str [],I 0]) (cs:=[I 0,ns,Str [],I 0]) hs0 tz43 r0 trivial r0 (fun b1 w1 hs1=>?_)))
 refine tA (I 0) r0 (tA (.bool false) r0 (nn (sq (sr (tm (Z13 Abs bs cbs) r0 ?_)))))
 refine cL r0 (sBytesValid (Azs:=Abs) (czs:=cbs) (zs:=bs) (w:=_) (hzs:=(hbs.up0 hs1))) ?_
 rintro _ w2 ⟨rfl,hs2⟩
 replace hs2:=hs1.call0 hs2
 refine qt r0 (nt (b:=isBytes bs) r0) (tm (.bool (!(isBytes bs))) r0 ?_)
 refine spl (b:=!(isBytes bs)) 12 r0 (fun h1=>?_) (fun h1=>?_)
 ·have h2:(isBytes bs)=false:=by simpa using h1
  refine gt5 r0 (gt5 r0 (gt5 r0 (qt r0 (pt (v:=.bool true) r0 r0) (tm (.bool true) r0 (gt5 r0 (gt5 r0 (gt5 r0 ?_)))))))
  refine gt5 r0 (qt r0 (pt (v:=.bool true) r0 r0) (tm (.bool true) r0 (gt5 r0 (gt5 r0 (gt5 r0 (gt5 r0 (qt r0 (pt (v:=.bool true) r0 r0) ?_)))))))
  refine nn (cdt r0 (sr (qt r0 (bdv (v:=.agg #[I 0,ns,Str [],I 0]) [] r0 (fun _=>by kernel_rfl)) (tA (I 0) r0 (sG [I 0,ns,Str [],I 0] hs2 0 r0 ag43 (fun w3 hs3=>?_))))))
  refine tA (I 0) r0 (tA (.bool false) r0 (nn (rt (tR ?_))))
  refine fret (v:=.tuple #[I 0,.agg #[I 0,ns,Str [],I 0],I 0,.bool false]) (.tmp (resC hs3 0 r0 r0 ag43 r0 (.tmp (.tmp .nil)))) r0 ?_
  have hs4:=hs3.nl [.own none (([]:List Int).length) 0 3 1 (([]:List Int).map I)] r0
  have e1:codeFrom bs=(0,(0,([]:List Int),[],0),0,false):=by exact code_no (.inl ‹_›)
  have e2:=pj1 e1
  have e3:0=(codeFrom bs).2.1.1:=by rw[e1]
  have e4:([]:List Int)=(codeFrom bs).2.1.2.1:=by rw[e1]
  have e5:=congrArg List.length e4
  have e6:[]=(codeFrom bs).2.1.2.2.1:=by rw[e1]
  have e7:0=(codeFrom bs).2.1.2.2.2:=by rw[e1]
  have e8:=pj221 e1
  have e9:=pj222 e1
  exact⟨none,0,(tup4 (congrArg (Value.int .i64) e2) (aggv (lc (congrArg (Value.int .i64) e3) (lc (slv r0 e5 r0) (lc (congrArg (Str) e6) (lc (congrArg (Value.int .i64) e7) r0))))) (congrArg (Value.int .i64) e8) (congrArg (Value.bool) e9)),((hs4.pq [1] r0).cast (lc (own_eq (g:=I) r0 e5 r0 e4) r0))⟩
 ·have h3:(isBytes bs)=true:=by simpa using h1
  refine q ⟨_,rfl,rfl⟩ r0 r0 (mv (v:=.slice Abs bs.length cbs) r0) (q ⟨_,rfl,rfl⟩ r0 r0 (lnA (n:=bs.length) sl22 r0) (q ⟨_,rfl,rfl⟩ r0 r0 (lss (k:=.i64) (a:=(bs.length:Int)) (b:=3) r0 r0) (qt r0 (pf (v:=.bool (decide ((bs.length:Int)<3))) r0 r0) (tm (.bool (decide ((bs.length:Int)<3))) r0 ?_))))
  refine spd (p:=(bs.length:Int)<3) 17 r0 (fun h4=>?_) (fun h4=>?_)
  ·refine gt5 r0 (gt5 r0 (gt5 r0 (gt5 r0 (qt r0 (pt (v:=.bool true) r0 r0) (tm (.bool true) r0 (gt5 r0 (gt5 r0 ?_)))))))
   refine gt5 r0 (gt5 r0 (qt r0 (pt (v:=.bool true) r0 r0) (nn (cdt r0 (sr ?_)))))
   refine qt r0 (bdv (v:=.agg #[I 0,ns,Str [],I 0]) [] r0 (fun _=>by kernel_rfl)) (tA (I 0) r0 (sG [I 0,ns,Str [],I 0] hs2 0 r0 ag43 (fun w4 hs5=>?_)))
   refine tA (I 0) r0 (tA (.bool false) r0 (nn (rt (tR ?_))))
   refine fret (v:=.tuple #[I 0,.agg #[I 0,ns,Str [],I 0],I 0,.bool false]) (.tmp (resC hs5 0 r0 r0 ag43 r0 (.tmp (.tmp .nil)))) r0 ?_
   have hs6:=hs5.nl [.own none (([]:List Int).length) 0 3 1 (([]:List Int).map I)] r0
   have e10:codeFrom bs=(0,(0,([]:List Int),[],0),0,false):=by exact code_no (.inr (.inl (by omega)))
   have e11:=pj1 e10
   have e12:0=(codeFrom bs).2.1.1:=by rw[e10]
   have e13:([]:List Int)=(codeFrom bs).2.1.2.1:=by rw[e10]
   have e14:=congrArg List.length e13
   have e15:[]=(codeFrom bs).2.1.2.2.1:=by rw[e10]
   have e16:0=(codeFrom bs).2.1.2.2.2:=by rw[e10]
   have e17:=pj221 e10
   have e18:=pj222 e10
   exact⟨none,0,(tup4 (congrArg (Value.int .i64) e11) (aggv (lc (congrArg (Value.int .i64) e12) (lc (slv r0 e14 r0) (lc (congrArg (Str) e15) (lc (congrArg (Value.int .i64) e16) r0))))) (congrArg (Value.int .i64) e17) (congrArg (Value.bool) e18)),((hs6.pq [1] r0).cast (lc (own_eq (g:=I) r0 e14 r0 e13) r0))⟩
  ·refine q ⟨_,rfl,rfl⟩ r0 r0 (mv (v:=.slice Abs bs.length cbs) r0) (ixw1 0 sl22 r0 r0 hbs (by omega) (getm I 0 (by omega)) ⟨_,rfl,rfl⟩ r0 (fun a1 ha1=>?_))
   refine q ⟨_,rfl,rfl⟩ r0 r0 (lda (v:=I (bs.getD 0 0)) hs2 ha1 (fun _ h=>h) r0 r0 one3) (q ⟨_,rfl,rfl⟩ r0 r0 (nei (k:=.i64) (a:=bs.getD 0 0) (b:=5) r0 r0) (qt r0 (pf (v:=.bool (decide ((bs.getD 0 0)≠5))) r0 r0) (tm (.bool (decide ((bs.getD 0 0)≠5))) r0 ?_)))
   refine spd (p:=(bs.getD 0 0)≠5) 23 r0 (fun h5=>?_) (fun h5=>?_)
   ·refine gt5 r0 (gt5 r0 (gt5 r0 (gt5 r0 (qt r0 (pt (v:=.bool true) r0 r0) (nn (cdt r0 ?_))))))
    refine sr (qt r0 (bdv (v:=.agg #[I 0,ns,Str [],I 0]) [] r0 (fun _=>by kernel_rfl)) (tA (I 0) r0 (sG [I 0,ns,Str [],I 0] hs2 0 r0 ag43 (fun w5 hs7=>?_))))
    refine tA (I 0) r0 (tA (.bool false) r0 (nn (rt (tR ?_))))
    refine fret (v:=.tuple #[I 0,.agg #[I 0,ns,Str [],I 0],I 0,.bool false]) (.tmp (resC hs7 0 r0 r0 ag43 r0 (.tmp (.tmp .nil)))) r0 ?_
    have hs8:=hs7.nl [.own none (([]:List Int).length) 0 3 1 (([]:List Int).map I)] r0
    have e19:codeFrom bs=(0,(0,([]:List Int),[],0),0,false):=by exact code_no (.inr (.inr (.inl ‹_›)))
    have e20:=pj1 e19
    have e21:0=(codeFrom bs).2.1.1:=by rw[e19]
    have e22:([]:List Int)=(codeFrom bs).2.1.2.1:=by rw[e19]
    have e23:=congrArg List.length e22
    have e24:[]=(codeFrom bs).2.1.2.2.1:=by rw[e19]
    have e25:0=(codeFrom bs).2.1.2.2.2:=by rw[e19]
    have e26:=pj221 e19
    have e27:=pj222 e19
    exact⟨none,0,(tup4 (congrArg (Value.int .i64) e20) (aggv (lc (congrArg (Value.int .i64) e21) (lc (slv r0 e23 r0) (lc (congrArg (Str) e24) (lc (congrArg (Value.int .i64) e25) r0))))) (congrArg (Value.int .i64) e26) (congrArg (Value.bool) e27)),((hs8.pq [1] r0).cast (lc (own_eq (g:=I) r0 e23 r0 e22) r0))⟩
   ·refine q ⟨_,rfl,rfl⟩ r0 r0 (mv (v:=.slice Abs bs.length cbs) r0) (ixw1 2 sl22 r0 r0 hbs (by omega) (getm I 0 (by omega)) ⟨_,rfl,rfl⟩ r0 (fun a2 ha2=>?_))
    refine q ⟨_,rfl,rfl⟩ r0 r0 (lda (v:=I (bs.getD 2 0)) hs2 ha2 (fun _ h=>h) r0 r0 one3) (q ⟨_,rfl,rfl⟩ r0 r0 (nei (k:=.i64) (a:=bs.getD 2 0) (b:=0) r0 r0) (qt r0 (pf (v:=.bool (decide ((bs.getD 2 0)≠0))) r0 r0) (nn ?_)))
    refine cdd (p:=(bs.getD 2 0)≠0) r0 (fun h6=>?_) (fun h6=>?_)
    ·refine sr (qt r0 (bdv (v:=.agg #[I 0,ns,Str [],I 0]) [] r0 (fun _=>by kernel_rfl)) (tA (I 0) r0 (sG [I 0,ns,Str [],I 0] hs2 0 r0 ag43 (fun w6 hs9=>?_))))
     refine tA (I 0) r0 (tA (.bool false) r0 (nn (rt (tR ?_))))
     refine fret (v:=.tuple #[I 0,.agg #[I 0,ns,Str [],I 0],I 0,.bool false]) (.tmp (resC hs9 0 r0 r0 ag43 r0 (.tmp (.tmp .nil)))) r0 ?_
     have hs10:=hs9.nl [.own none (([]:List Int).length) 0 3 1 (([]:List Int).map I)] r0
     have e28:codeFrom bs=(0,(0,([]:List Int),[],0),0,false):=by exact code_no (.inr (.inr (.inr (.inl ‹_›))))
     have e29:=pj1 e28
     have e30:0=(codeFrom bs).2.1.1:=by rw[e28]
     have e31:([]:List Int)=(codeFrom bs).2.1.2.1:=by rw[e28]
     have e32:=congrArg List.length e31
     have e33:[]=(codeFrom bs).2.1.2.2.1:=by rw[e28]
     have e34:0=(codeFrom bs).2.1.2.2.2:=by rw[e28]
     have e35:=pj221 e28
     have e36:=pj222 e28
     exact⟨none,0,(tup4 (congrArg (Value.int .i64) e29) (aggv (lc (congrArg (Value.int .i64) e30) (lc (slv r0 e32 r0) (lc (congrArg (Str) e33) (lc (congrArg (Value.int .i64) e34) r0))))) (congrArg (Value.int .i64) e35) (congrArg (Value.bool) e36)),((hs10.pq [1] r0).cast (lc (own_eq (g:=I) r0 e32 r0 e31) r0))⟩
    ·refine sk (nN (sr (tm (Z13 Abs bs cbs) r0 (qt r0 (culm (zs:=bs) 3 sl22 r0 r0 (by omega)) (cL r0 (sAddressOf (Abs:=if cbs=3 then Abs else Abs.map (·.add (3*1))) (cbs:=cbs-3) (bs:=bs.drop 3) (w:=_) (hbs:=(Sl.cutlm (hbs.up0 hs2) (by omega))) (hob:=(by exact isBytes_sub ‹_› (List.drop_sublist _ _)))) ?_)))))
     rintro _ w7 ⟨Aq1,cq1,rfl,hs11⟩
     replace hs11:=hs2.call0 hs11
     refine tm (.tuple #[.agg #[I ((addrD (bs.drop 3)).1.1),.slice Aq1 (((addrD (bs.drop 3)).1.2.1).length) cq1,Str ((addrD (bs.drop 3)).1.2.2.1),I ((addrD (bs.drop 3)).1.2.2.2)],I ((addrD (bs.drop 3)).2.1),.bool ((addrD (bs.drop 3)).2.2)]) r0 (qt r0 (xt 0 (v:=.agg #[I ((addrD (bs.drop 3)).1.1),.slice Aq1 (((addrD (bs.drop 3)).1.2.1).length) cq1,Str ((addrD (bs.drop 3)).1.2.2.1),I ((addrD (bs.drop 3)).1.2.2.2)]) r0 r0) (qt r0 (xt 1 (v:=I ((addrD (bs.drop 3)).2.1)) r0 r0) (qt r0 (xt 2 (v:=.bool ((addrD (bs.drop 3)).2.2)) r0 r0) (al (v:=.agg #[I 0,ns,Str [],I 0]) (cs:=[I 0,ns,Str [],I 0]) hs11 tz43 r0 trivial r0 (fun b2 w8 hs12=>?_)))))
     refine sG [I ((addrD (bs.drop 3)).1.1),.slice Aq1 (((addrD (bs.drop 3)).1.2.1).length) cq1,Str ((addrD (bs.drop 3)).1.2.2.1),I ((addrD (bs.drop 3)).1.2.2.2)] hs12 2 r0 ag43 (fun w9 hs13=>?_)
     refine tA (I ((addrD (bs.drop 3)).2.1)) r0 (tA (.bool ((addrD (bs.drop 3)).2.2)) r0 (nn (sq (sr (tm (.bool ((addrD (bs.drop 3)).2.2)) r0 ?_)))))
     refine qt r0 (nt (b:=(addrD (bs.drop 3)).2.2) r0) (nn ?_)
     refine cd (b:=!((addrD (bs.drop 3)).2.2)) r0 (fun h7=>?_) (fun h7=>?_)
     ·have h8:((addrD (bs.drop 3)).2.2)=false:=by simpa using h7
      refine sr (qt r0 (bdv (v:=.agg #[I 0,ns,Str [],I 0]) [] r0 (fun _=>by kernel_rfl)) (tA (I 0) r0 (sG [I 0,ns,Str [],I 0] hs13 0 r0 ag43 (fun w10 hs14=>?_))))
      refine tA (I 0) r0 (tA (.bool false) r0 (nn (rt (tR ?_))))
      refine fret (v:=.tuple #[I 0,.agg #[I 0,ns,Str [],I 0],I 0,.bool false]) (.tmp (resC hs14 2 r0 r0 ag43 r0 (.tmp (.tmp .nil)))) r0 ?_
      have hs15:=hs14.nl [.own none (([]:List Int).length) 0 3 1 (([]:List Int).map I)] r0
      have e37:codeFrom bs=(0,(0,([]:List Int),[],0),0,false):=by exact code_no (.inr (.inr (.inr (.inr ‹_›))))
      have e38:=pj1 e37
      have e39:0=(codeFrom bs).2.1.1:=by rw[e37]
      have e40:([]:List Int)=(codeFrom bs).2.1.2.1:=by rw[e37]
      have e41:=congrArg List.length e40
      have e42:[]=(codeFrom bs).2.1.2.2.1:=by rw[e37]
      have e43:0=(codeFrom bs).2.1.2.2.2:=by rw[e37]
      have e44:=pj221 e37
      have e45:=pj222 e37
      exact⟨none,0,(tup4 (congrArg (Value.int .i64) e38) (aggv (lc (congrArg (Value.int .i64) e39) (lc (slv r0 e41 r0) (lc (congrArg (Str) e42) (lc (congrArg (Value.int .i64) e43) r0))))) (congrArg (Value.int .i64) e44) (congrArg (Value.bool) e45)),((hs15.pq [3] r0).cast (lc (own_eq (g:=I) r0 e41 r0 e40) r0))⟩
     ·have h9:((addrD (bs.drop 3)).2.2)=true:=by simpa using h7
      refine sk (nN (sq ?_))
      refine raJ (fun w'=>∃ L,SH w w' [] L∧(.blk b2 43 [I ((addrD (bs.drop 3)).1.1),.slice Aq1 (((addrD (bs.drop 3)).1.2.1).length) cq1,Str ((addrD (bs.drop 3)).1.2.2.1),I ((addrD (bs.drop 3)).1.2.2.2)])∈L∧True) (fun f w'=>Hz f [(2,I (bs.getD 1 0)),(3,pB b1),(4,I (((addrD (bs.drop 3)).2.1)+3)),(5,.bool true)]∧SH w w' [] [.blk b1 43 [I ((addrD (bs.drop 3)).1.1),.slice Aq1 (((addrD (bs.drop 3)).1.2.1).length) cq1,Str ((addrD (bs.drop 3)).1.2.2.1),I ((addrD (bs.drop 3)).1.2.2.2)],.own Aq1 (((addrD (bs.drop 3)).1.2.1).length) cq1 3 1 (((addrD (bs.drop 3)).1.2.1).map I),.blk b2 43 [I ((addrD (bs.drop 3)).1.1),.slice Aq1 (((addrD (bs.drop 3)).1.2.1).length) cq1,Str ((addrD (bs.drop 3)).1.2.2.1),I ((addrD (bs.drop 3)).1.2.2.2)]]) mixed ?_ ?_
      ·refine dG 3 10 127 (fun f w'=>Hz f [(2,I (bs.getD 1 0)),(3,pB b1),(4,I 0),(5,.bool false),(43,.agg #[I ((addrD (bs.drop 3)).1.1),.slice Aq1 (((addrD (bs.drop 3)).1.2.1).length) cq1,Str ((addrD (bs.drop 3)).1.2.2.1),I ((addrD (bs.drop 3)).1.2.2.2)]),(45,I (((addrD (bs.drop 3)).2.1)+3))]∧SH w w' [] [(Z14 b1),.own Aq1 (((addrD (bs.drop 3)).1.2.1).length) cq1 3 1 (((addrD (bs.drop 3)).1.2.1).map I),.blk b2 43 [I ((addrD (bs.drop 3)).1.1),.slice Aq1 (((addrD (bs.drop 3)).1.2.1).length) cq1,Str ((addrD (bs.drop 3)).1.2.2.1),I ((addrD (bs.drop 3)).1.2.2.2)]]) ?_ (fun D_6_0=>?_)
       ·rintro f w11 ⟨⟨g1,rfl⟩,hs16⟩
        refine aO 7 r0 (sG [I ((addrD (bs.drop 3)).1.1),.slice Aq1 (((addrD (bs.drop 3)).1.2.1).length) cq1,Str ((addrD (bs.drop 3)).1.2.2.1),I ((addrD (bs.drop 3)).1.2.2.2)] hs16 0 r0 ag43 (fun w12 hs17=>?_))
        refine nk (m1 hs17 1 r0) ?_
        refine tk (fuel:=0) (is:=[8,9]) (.cons r0 (.cons r0 (.nil))) (by kernel_rfl) (by kernel_rfl) (m1 hs17 1 r0) (yA r0 (asg (v:=I (((addrD (bs.drop 3)).2.1)+3)) r0) (yA r0 (asg (v:=.bool true) r0) (.nil (ad (by kernel_rfl) ?_))))
        exact⟨(zR r0),(hs17.pk [2,0,1] r0)⟩
       have hs18:=hs13.drew
       refine tk (fuel:=3) (is:=[0,1,2,3,4,5,6]) (.cons r0 (.cons r0 (.cons r0 (.cons r0 (.cons r0 (.cons r0 (.cons r0 (.nil)))))))) (by kernel_rfl) (by kernel_rfl) (m1 hs18 2 r0) (yA r0 (mv (v:=.slice Abs bs.length cbs) r0) (ixy1 1 sl22 r0 r0 hbs (by omega) (getm I 0 (by omega)) trivial r0 (fun a3 ha3=>?_)))
       refine yB r0 (fun ⟨Lq,hsq,mh0,_⟩=>lda (v:=I (bs.getD 1 0)) hsq ha3 (fun _ h=>h) r0 r0 one3) (yB r0 (fun ⟨Lq,hsq,mh0,_⟩=>ldgm (vs:=[I ((addrD (bs.drop 3)).1.1),.slice Aq1 (((addrD (bs.drop 3)).1.2.1).length) cq1,Str ((addrD (bs.drop 3)).1.2.2.1),I ((addrD (bs.drop 3)).1.2.2.2)]) hsq mh0 r0 r0 r0 ag43) (yA r0 (mv (v:=I ((addrD (bs.drop 3)).2.1)) r0) (yA r0 (add (a:=(addrD (bs.drop 3)).2.1) (b:=3) r0 r0 (by have had:=addrD_ok (by assumption:(addrD (bs.drop 3)).2.2=true); rw[List.length_drop]at had; have hbl:=isBytes_len (by assumption:isBytes bs=true); exact⟨by omega,by omega⟩)) (yA r0 (asg (v:=I (bs.getD 1 0)) r0) (.nil ?_)))))
       exact alc D_6_0 ⟨(zR r0),hs18⟩
      rintro f w13 ⟨⟨g2,rfl⟩,hs19⟩
      refine nN (rt (fret (v:=.tuple #[I (bs.getD 1 0),.agg #[I ((addrD (bs.drop 3)).1.1),.slice Aq1 (((addrD (bs.drop 3)).1.2.1).length) cq1,Str ((addrD (bs.drop 3)).1.2.2.1),I ((addrD (bs.drop 3)).1.2.2.2)],I (((addrD (bs.drop 3)).2.1)+3),.bool true]) (.tmp (resC hs19 0 r0 r0 ag43 r0 (.tmp (.tmp .nil)))) r0 ?_))
      have e46:codeFrom bs=(bs.getD 1 0,((addrD (bs.drop 3)).1.1,(addrD (bs.drop 3)).1.2.1,(addrD (bs.drop 3)).1.2.2.1,(addrD (bs.drop 3)).1.2.2.2),((addrD (bs.drop 3)).2.1)+3,true):=by exact code_yes ‹_› (by omega) (by omega) (by omega) ‹_›
      have e47:=pj1 e46
      have e48:(addrD (bs.drop 3)).1.1=(codeFrom bs).2.1.1:=by rw[e46]
      have e49:(addrD (bs.drop 3)).1.2.1=(codeFrom bs).2.1.2.1:=by rw[e46]
      have e50:=congrArg List.length e49
      have e51:(addrD (bs.drop 3)).1.2.2.1=(codeFrom bs).2.1.2.2.1:=by rw[e46]
      have e52:(addrD (bs.drop 3)).1.2.2.2=(codeFrom bs).2.1.2.2.2:=by rw[e46]
      have e53:=pj221 e46
      have e54:=pj222 e46
      exact⟨Aq1,cq1,(tup4 (congrArg (Value.int .i64) e47) (aggv (lc (congrArg (Value.int .i64) e48) (lc (slv r0 e50 r0) (lc (congrArg (Str) e51) (lc (congrArg (Value.int .i64) e52) r0))))) (congrArg (Value.int .i64) e53) (congrArg (Value.bool) e54)),((hs19.pq [1] r0).cast (lc (own_eq (g:=I) r0 e50 r0 e49) r0))⟩
theorem sRequestFrom {Abs:Option Addr} {cbs:Nat} (bs:List Int) (w:World) (hbs:Sl w [] 1 Abs bs.length cbs (bs.map I)):Does Tryz.prog 100 [.slice Abs bs.length cbs] w (fun v w'=>∃ Aqr:Option Addr,∃ cqr:Nat,v=.tuple #[.agg #[.int .i64 ((reqFrom bs).1.1),.int .i64 ((reqFrom bs).1.2.1),.slice Aqr ((reqFrom bs).1.2.2.1).length cqr,Str ((reqFrom bs).1.2.2.2.1),.int .i64 ((reqFrom bs).1.2.2.2.2)],.int .i64 ((reqFrom bs).2.1),.bool ((reqFrom bs).2.2)]∧SH w w' [] [.own Aqr (((reqFrom bs).1.2.2.1).length) cqr 3 1 (((reqFrom bs).1.2.2.1).map I)]):=by
 refine fE (N:=28) Tryz.func100 r0 (by kernel_rfl) r0 ?_
 have hs0:=SH.refl w []
 have hbs_m:bs.length≤9223372036854775807:=Nat.le_trans hbs.cap hbs.capMax
 refine sr (al (v:=.agg #[I 0,I 0,ns,Str [],I 0]) (cs:=[I 0,I 0,ns,Str [],I 0]) hs0 tz45 r0 trivial r0 (fun b1 w1 hs1=>?_))
 refine tA (I 0) r0 (tA (.bool false) r0 (nx (tm (Z13 Abs bs cbs) r0 (cL r0 (sL12From (Abs:=Abs) (cbs:=cbs) (bs:=bs) (w:=_) (hbs:=(hbs.up0 hs1))) ?_))))
 rintro _ w2 ⟨Aq1,cq1,rfl,hs2⟩
 replace hs2:=hs1.call0 hs2
 refine tm (.tuple #[I ((codeFrom bs).1),.agg #[I ((codeFrom bs).2.1.1),.slice Aq1 (((codeFrom bs).2.1.2.1).length) cq1,Str ((codeFrom bs).2.1.2.2.1),I ((codeFrom bs).2.1.2.2.2)],I ((codeFrom bs).2.2.1),.bool ((codeFrom bs).2.2.2)]) r0 (qt r0 (xt 0 (v:=I ((codeFrom bs).1)) r0 r0) (qt r0 (xt 1 (v:=.agg #[I ((codeFrom bs).2.1.1),.slice Aq1 (((codeFrom bs).2.1.2.1).length) cq1,Str ((codeFrom bs).2.1.2.2.1),I ((codeFrom bs).2.1.2.2.2)]) r0 r0) (qt r0 (xt 2 (v:=I ((codeFrom bs).2.2.1)) r0 r0) (qt r0 (xt 3 (v:=.bool ((codeFrom bs).2.2.2)) r0 r0) (al (v:=.agg #[I 0,ns,Str [],I 0]) (cs:=[I 0,ns,Str [],I 0]) hs2 tz43 r0 trivial r0 (fun b2 w3 hs3=>?_))))))
 refine tA (I ((codeFrom bs).1)) r0 (sG [I ((codeFrom bs).2.1.1),.slice Aq1 (((codeFrom bs).2.1.2.1).length) cq1,Str ((codeFrom bs).2.1.2.2.1),I ((codeFrom bs).2.1.2.2.2)] hs3 2 r0 ag43 (fun w4 hs4=>?_))
 refine tA (I ((codeFrom bs).2.2.1)) r0 (tA (.bool ((codeFrom bs).2.2.2)) r0 (nn (sq (sr (tm (.bool ((codeFrom bs).2.2.2)) r0 ?_)))))
 refine qt r0 (nt (b:=(codeFrom bs).2.2.2) r0) (tm (.bool (!((codeFrom bs).2.2.2))) r0 ?_)
 refine spl (b:=!((codeFrom bs).2.2.2)) 18 r0 (fun h1=>?_) (fun h1=>?_)
 ·have h2:((codeFrom bs).2.2.2)=false:=by simpa using h1
  refine gt5 r0 (gt5 r0 (gt5 r0 (qt r0 (pt (v:=.bool true) r0 r0) (nn (cdt r0 (sq ?_))))))
  refine rg (qt r0 (bdv (v:=.agg #[I 0,I 0,ns,Str [],I 0]) [] r0 (fun _=>by kernel_rfl)) (sG [I 0,I 0,ns,Str [],I 0] hs4 0 r0 ag45 (fun w5 hs5=>?_)))
  refine tA (I 0) r0 (tA (.bool false) r0 (nn (rt (tR ?_))))
  refine fret (v:=.tuple #[.agg #[I 0,I 0,ns,Str [],I 0],I 0,.bool false]) (resC hs5 2 r0 r0 ag45 r0 (.tmp (.tmp .nil))) r0 ?_
  have hs6:=hs5.nl [.own none (([]:List Int).length) 0 3 1 (([]:List Int).map I)] r0
  have e1:reqFrom bs=((0,(0,([]:List Int),[],0)),0,false):=by simp[reqFrom,h2]
  have e2:=pj11 e1
  have e3:=pj121 e1
  have e4:=pj1221 e1
  have e5:=congrArg List.length e4
  have e6:[]=(reqFrom bs).1.2.2.2.1:=by rw[e1]
  have e7:0=(reqFrom bs).1.2.2.2.2:=by rw[e1]
  have e8:=pj21 e1
  have e9:=pj22 e1
  exact⟨none,0,(tup3 (aggv (lc (congrArg (Value.int .i64) e2) (lc (congrArg (Value.int .i64) e3) (lc (slv r0 e5 r0) (lc (congrArg (Str) e6) (lc (congrArg (Value.int .i64) e7) r0)))))) (congrArg (Value.int .i64) e8) (congrArg (Value.bool) e9)),((hs6.pq [3] r0).cast (lc (own_eq (g:=I) r0 e5 r0 e4) r0))⟩
 ·have h3:((codeFrom bs).2.2.2)=true:=by simpa using h1
  refine q ⟨_,rfl,rfl⟩ r0 r0 (mv (v:=I ((codeFrom bs).1)) r0) (cl ⟨_,rfl,rfl⟩ r0 (sIn (x:=(codeFrom bs).1) (lo:=1) (hi:=3) (w:=_)) ?_)
  rintro _ w6 ⟨rfl,hs7⟩
  replace hs7:=hs4.call0 hs7
  refine q ⟨_,rfl,rfl⟩ r0 r0 (nd (p:=1≤((codeFrom bs).1)∧((codeFrom bs).1)≤3) r0) (qt r0 (pf (v:=.bool (decide (¬ (1≤((codeFrom bs).1)∧((codeFrom bs).1)≤3)))) r0 r0) (nn ?_))
  refine cdd (p:=¬ (1≤((codeFrom bs).1)∧((codeFrom bs).1)≤3)) r0 (fun h4=>?_) (fun h4=>?_)
  ·refine sr (qt r0 (bdv (v:=.agg #[I 0,I 0,ns,Str [],I 0]) [] r0 (fun _=>by kernel_rfl)) (sG [I 0,I 0,ns,Str [],I 0] hs7 0 r0 ag45 (fun w7 hs8=>?_)))
   refine tA (I 0) r0 (tA (.bool false) r0 (nn (rt (tR ?_))))
   refine fret (v:=.tuple #[.agg #[I 0,I 0,ns,Str [],I 0],I 0,.bool false]) (resC hs8 2 r0 r0 ag45 r0 (.tmp (.tmp .nil))) r0 ?_
   have hs9:=hs8.nl [.own none (([]:List Int).length) 0 3 1 (([]:List Int).map I)] r0
   have e10:reqFrom bs=((0,(0,([]:List Int),[],0)),0,false):=by simp[reqFrom,h3,h4]
   have e11:=pj11 e10
   have e12:=pj121 e10
   have e13:=pj1221 e10
   have e14:=congrArg List.length e13
   have e15:[]=(reqFrom bs).1.2.2.2.1:=by rw[e10]
   have e16:0=(reqFrom bs).1.2.2.2.2:=by rw[e10]
   have e17:=pj21 e10
   have e18:=pj22 e10
   exact⟨none,0,(tup3 (aggv (lc (congrArg (Value.int .i64) e11) (lc (congrArg (Value.int .i64) e12) (lc (slv r0 e14 r0) (lc (congrArg (Str) e15) (lc (congrArg (Value.int .i64) e16) r0)))))) (congrArg (Value.int .i64) e17) (congrArg (Value.bool) e18)),((hs9.pq [3] r0).cast (lc (own_eq (g:=I) r0 e14 r0 e13) r0))⟩
  ·refine sk (nN (sr (tm (I ((codeFrom bs).1)) r0 (qt r0 (lG [I ((codeFrom bs).2.1.1),.slice Aq1 (((codeFrom bs).2.1.2.1).length) cq1,Str ((codeFrom bs).2.1.2.2.1),I ((codeFrom bs).2.1.2.2.2)] hs7 2 r0 ag43) (qt r0 (bdv (v:=.agg #[I ((codeFrom bs).1),I ((codeFrom bs).2.1.1),.slice Aq1 (((codeFrom bs).2.1.2.1).length) cq1,Str ((codeFrom bs).2.1.2.2.1),I ((codeFrom bs).2.1.2.2.2)]) [(0,I ((codeFrom bs).1)),(1,.agg #[I ((codeFrom bs).2.1.1),.slice Aq1 (((codeFrom bs).2.1.2.1).length) cq1,Str ((codeFrom bs).2.1.2.2.1),I ((codeFrom bs).2.1.2.2.2)])] r0 (fun _=>by kernel_rfl)) (tm (I ((codeFrom bs).2.2.1)) r0 ?_))))))
   refine sG [I ((codeFrom bs).1),I ((codeFrom bs).2.1.1),.slice Aq1 (((codeFrom bs).2.1.2.1).length) cq1,Str ((codeFrom bs).2.1.2.2.1),I ((codeFrom bs).2.1.2.2.2)] hs7 0 r0 ag45 (fun w8 hs10=>?_)
   refine tA (I ((codeFrom bs).2.2.1)) r0 (tA (.bool true) r0 (nn (rt (fret (v:=.tuple #[.agg #[I ((codeFrom bs).1),I ((codeFrom bs).2.1.1),.slice Aq1 (((codeFrom bs).2.1.2.1).length) cq1,Str ((codeFrom bs).2.1.2.2.1),I ((codeFrom bs).2.1.2.2.2)],I ((codeFrom bs).2.2.1),.bool true]) (resC hs10 2 r0 r0 ag45 r0 (.tmp (.tmp .nil))) r0 ?_))))
   have e19:reqFrom bs=(((codeFrom bs).1,((codeFrom bs).2.1.1,(codeFrom bs).2.1.2.1,(codeFrom bs).2.1.2.2.1,(codeFrom bs).2.1.2.2.2)),(codeFrom bs).2.2.1,true):=by simp[reqFrom,h3,h4]
   have e20:=pj11 e19
   have e21:=pj121 e19
   have e22:=pj1221 e19
   have e23:=congrArg List.length e22
   have e24:(codeFrom bs).2.1.2.2.1=(reqFrom bs).1.2.2.2.1:=by rw[e19]
   have e25:(codeFrom bs).2.1.2.2.2=(reqFrom bs).1.2.2.2.2:=by rw[e19]
   have e26:=pj21 e19
   have e27:=pj22 e19
   exact⟨Aq1,cq1,(tup3 (aggv (lc (congrArg (Value.int .i64) e20) (lc (congrArg (Value.int .i64) e21) (lc (slv r0 e23 r0) (lc (congrArg (Str) e24) (lc (congrArg (Value.int .i64) e25) r0)))))) (congrArg (Value.int .i64) e26) (congrArg (Value.bool) e27)),((hs10.pq [0] r0).cast (lc (own_eq (g:=I) r0 e23 r0 e22) r0))⟩
theorem stAtoi (s:List UInt8) (w:World) (hs_n:s.length≤1099511627776) (hEr:VarP Tryz.prog w [] "strconv.ErrRange" isIfc) (hEs:VarP Tryz.prog w [] "strconv.ErrSyntax" isIfc):Does Tryz.prog 168 [Str s] w (fun v w'=>∃ ur:TypeId,∃ vr:Value,v=.tuple #[.int .i64 ((atoiR s).1),errV ((atoiR s).2) ur vr]∧SH w w' [] []):=by
 refine(does_atoi ⟨_,_,Tryz.func168,by kernel_rfl,rfl⟩ hEs hEr (fun v h=>Tryz.strconv_Atoi_ok ⟨s.toArray⟩ (by show s.toArray.size≤_; rw[List.size_toArray]; omega) v (by simpa using h) w) (fun tp p h hv=>(Tryz.strconv_Atoi_syntax_var ⟨s.toArray⟩ (by show s.toArray.size≤_; rw[List.size_toArray]; omega) (by simpa using h) tp p w hv).mono fun e w1 ⟨N,h1,_,_,h2⟩=>⟨N,h1,h2⟩) (fun tp p h hv=>?_)).mono fun v w1 h=>h
 exact(Tryz.strconv_Atoi_range_var ⟨s.toArray⟩ (by show s.toArray.size≤_; rw[List.size_toArray]; omega) (by simpa using h) tp p w hv).mono fun e w1 ⟨N,h1,_,_,h2⟩=>⟨N,by simpa using h1,h2⟩
theorem iDecimal (s:List UInt8) (w:World) (hs_n:s.length≤1099511627776) (hGp:VarP Tryz.prog w [] "internal/strconv.uint64pow10" isPow) (hEr:VarP Tryz.prog w [] "strconv.ErrRange" isIfc) (hEs:VarP Tryz.prog w [] "strconv.ErrSyntax" isIfc):Does Tryz.prog 138 [Str s] w (fun v w'=>v=.tuple #[.int .i64 ((decI s).1),.bool ((decI s).2)]∧SH w w' [] []):=by
 refine fE (N:=20) Tryz.func138 r0 (by kernel_rfl) r0 ?_
 have hs0:=SH.refl w []
 refine sr (tA (I 0) r0 (tA (.bool false) r0 (nx ?_)))
 refine tm (Str s) r0 (cL r0 (stAtoi (s:=s) (w:=_) (hs_n:=(by(omega))) (hEr:=(hEr.up0 hs0)) (hEs:=(hEs.up0 hs0))) ?_)
 rintro _ w1 ⟨u1,v1,rfl,hs1⟩
 replace hs1:=hs0.call0 hs1
 refine tm (.tuple #[I ((atoiR s).1),errV ((atoiR s).2) u1 v1]) r0 (qt r0 (xt 0 (v:=I ((atoiR s).1)) r0 r0) (qt r0 (xt 1 (v:=errV ((atoiR s).2) u1 v1) r0 r0) (tA (I ((atoiR s).1)) r0 (tA (errV ((atoiR s).2) u1 v1) r0 (nn (sq ?_))))))
 refine rg (tm (I ((atoiR s).1)) r0 (tm (errV ((atoiR s).2) u1 v1) r0 (qt r0 (eqerr (e:=(atoiR s).2) ifc164 r0) (tm (.bool (!((atoiR s).2))) r0 ?_))))
 refine spl (b:=!((atoiR s).2)) 14 r0 (fun h1=>?_) (fun h1=>?_)
 ·have h2:((atoiR s).2)=false:=by simpa using h1
  refine q ⟨_,rfl,rfl⟩ r0 r0 (mv (v:=I ((atoiR s).1)) r0) (cl ⟨_,rfl,rfl⟩ r0 (stItoa (n:=(atoiR s).1) (w:=_) (hn:=(by(have hab:=atoiR_bd s; first | omega | assumption | (simp; done) | (simp; omega)))) (hGp:=(hGp.up0 hs1))) ?_)
  rintro _ w2 ⟨rfl,hs2⟩
  replace hs2:=hs1.call0 hs2
  refine q ⟨_,rfl,rfl⟩ r0 r0 (mv (v:=Str s) r0) (q ⟨_,rfl,rfl⟩ r0 r0 (eqs (l:=Lib.itoa ((atoiR s).1)) (m:=s) r0 r0) (qt r0 (pt (v:=.bool (decide (Lib.itoa ((atoiR s).1)=s))) r0 r0) (tA (I ((atoiR s).1)) r0 (tA (.bool (decide (Lib.itoa ((atoiR s).1)=s))) r0 (nn (rt ?_))))))
  refine fret (v:=.tuple #[I ((atoiR s).1),.bool (decide (Lib.itoa ((atoiR s).1)=s))]) (.tmp (.tmp .nil)) r0 ?_
  have e1:(atoiR s).1=(decI s).1:=by exact(decI_eq s).1.symm
  have e2:(decide (Lib.itoa ((atoiR s).1)=s))=(decI s).2:=by(rw[(decI_eq s).2]; simp[h2]; done)
  exact⟨(tup2 (congrArg (Value.int .i64) e1) (congrArg (Value.bool) e2)),hs2⟩
 ·have h3:((atoiR s).2)=true:=by simpa using h1
  refine gf5 r0 (gf5 r0 (gf5 r0 (gf5 r0 (qt r0 (pf (v:=.bool false) r0 r0) (tA (I ((atoiR s).1)) r0 (tA (.bool false) r0 (nl ?_)))))))
  refine nN (rt (fret (v:=.tuple #[I ((atoiR s).1),.bool false]) (.tmp (.tmp .nil)) r0 ?_))
  have e3:(atoiR s).1=(decI s).1:=by exact(decI_eq s).1.symm
  have e4:false=(decI s).2:=by(rw[(decI_eq s).2]; simp[h3]; done)
  exact⟨(tup2 (congrArg (Value.int .i64) e3) (congrArg (Value.bool) e4)),hs1⟩
theorem slCut (l:List UInt8) (c:UInt8) (w:World) (hl_n:l.length≤1099511627776):Does Tryz.prog 167 [Str l,Str [c]] w (fun v w'=>v=.tuple #[Str (cutA l c),Str (cutZ l c),.bool (decide (0≤idxB l c))]∧SH w w' [] []):=by
 refine fE (N:=23) Tryz.func167 r0 (by kernel_rfl) r0 ?_
 have hs0:=SH.refl w []
 refine sr (tA (Str []) r0 (tA (Str []) r0 (tA (.bool false) r0 (nn (sq ?_)))))
 refine sr (tm (Str l) r0 (tm (Str [c]) r0 (cL r0 (slIndexS (l:=l) (c:=c) (w:=_)) ?_)))
 rintro _ w1 ⟨rfl,hs1⟩
 replace hs1:=hs0.call0 hs1
 refine tA (I (idxB l c)) r0 (nx (tm (I (idxB l c)) r0 (qt r0 (geq (k:=.i64) (a:=idxB l c) (b:=0) r0 r0) (nl ?_))))
 refine nN ?_
 refine cdd (p:=(0:Int)≤(idxB l c)) r0 (fun h1=>?_) (fun h1=>?_)
 ·refine sq (rq (fun w'=>SH w w' [] []) mixed (by kernel_rfl) hs1.drew (qA r0 (mv (v:=Str l) r0) (qA r0 (mv (v:=I (idxB l c)) r0) (qA r0 (cuhs (l:=l) ((idxB l c).toNat) st9 r0 (ieq (x:=idxB l c) (by(omega))) (by(have hib:=idxB_lt l c; have e1_:[c].length=1:=rfl; omega))) (qA r0 (mv (v:=Str l) r0) (qA r0 (mv (v:=I (idxB l c)) r0) (qA r0 (mv (v:=Str [c]) r0) ?_)))))))
  refine qA r0 (lnS (l:=[c]) st9 r0) (qA r0 (add (a:=idxB l c) (b:=(([c].length:Nat):Int)) r0 r0 (by(have hib:=idxB_lt l c; have e1_:[c].length=1:=rfl; exact⟨by omega,by omega⟩))) (qA r0 (culs (l:=l) (((idxB l c)+(([c].length:Nat):Int)).toNat) st9 r0 (ieq (x:=(idxB l c)+(([c].length:Nat):Int)) (by(omega))) (by(have hib:=idxB_lt l c; have e1_:[c].length=1:=rfl; omega))) (qA r0 (asg (v:=Str (l.take ((idxB l c).toNat))) r0) (qA r0 (asg (v:=Str (l.drop (((idxB l c)+(([c].length:Nat):Int)).toNat))) r0) (qA r0 (asg (v:=.bool true) r0) (qn (fun w2 hs2=>?_)))))))
  refine nN (rt (tR ?_))
  refine fret (v:=.tuple #[Str (l.take ((idxB l c).toNat)),Str (l.drop (((idxB l c)+(([c].length:Nat):Int)).toNat)),.bool true]) (.tmp (.tmp (.tmp .nil))) r0 ?_
  have e1:l.take ((idxB l c).toNat)=cutA l c:=by(simp[cutA,cutZ,h1]; done)
  have e2:l.drop (((idxB l c)+(([c].length:Nat):Int)).toNat)=cutZ l c:=by(have e1:[c].length=1:=rfl; simp only[cutZ,if_pos (by assumption:0≤idxB l c)]; congr 1; simp only[List.length_cons,List.length_nil]; omega)
  have e3:true=(decide (0≤idxB l c)):=by(simp[cutA,cutZ,h1]; done)
  exact⟨(tup3 (congrArg (Str) e1) (congrArg (Str) e2) (congrArg (Value.bool) e3)),hs2⟩
 ·refine sk (nN (sr (tm (Str l) r0 (tA (Str l) r0 (tA (Str []) r0 (tA (.bool false) r0 ?_))))))
  refine nn (rt (fret (v:=.tuple #[Str l,Str [],.bool false]) (.tmp (.tmp (.tmp .nil))) r0 ?_))
  have e4:l=cutA l c:=by(simp[cutA,cutZ,h1]; done)
  have e5:[]=cutZ l c:=by(simp[cutA,cutZ,h1]; done)
  have e6:false=(decide (0≤idxB l c)):=by(simp[cutA,cutZ,h1]; done)
  exact⟨(tup3 (congrArg (Str) e4) (congrArg (Str) e5) (congrArg (Value.bool) e6)),hs1⟩
theorem stCut (l:List UInt8) (c:UInt8) (w:World) (hl_n:l.length≤1099511627776):Does Tryz.prog 137 [Str l,Str [c]] w (fun v w'=>v=.tuple #[Str (cutA l c),Str (cutZ l c),.bool (decide (0≤idxB l c))]∧SH w w' [] []):=by
 refine fE (N:=13) Tryz.func137 r0 (by kernel_rfl) r0 ?_
 have hs0:=SH.refl w []
 refine sr (tA (Str []) r0 (tA (Str []) r0 (tA (.bool false) r0 (nn (sq ?_)))))
 refine rg (tm (Str l) r0 (tm (Str [c]) r0 (cL r0 (slCut (l:=l) (c:=c) (w:=_) (hl_n:=(by omega))) ?_)))
 rintro _ w1 ⟨rfl,hs1⟩
 replace hs1:=hs0.call0 hs1
 refine qt r0 (xt 0 (v:=Str (cutA l c)) r0 r0) (qt r0 (xt 1 (v:=Str (cutZ l c)) r0 r0) (qt r0 (xt 2 (v:=.bool (decide (0≤idxB l c))) r0 r0) (tA (Str (cutA l c)) r0 (tA (Str (cutZ l c)) r0 (tA (.bool (decide (0≤idxB l c))) r0 (nn ?_))))))
 refine rt (fret (v:=.tuple #[Str (cutA l c),Str (cutZ l c),.bool (decide (0≤idxB l c))]) (.tmp (.tmp (.tmp .nil))) r0 ?_)
 exact⟨rfl,hs1⟩
theorem iQuadFrom (s:List UInt8) (w:World) (hs_n:s.length≤1099511627776) (hGp:VarP Tryz.prog w [] "internal/strconv.uint64pow10" isPow) (hEr:VarP Tryz.prog w [] "strconv.ErrRange" isIfc) (hEs:VarP Tryz.prog w [] "strconv.ErrSyntax" isIfc):Does Tryz.prog 139 [Str s] w (fun v w'=>∃ Ar:Option Addr,∃ cr:Nat,v=.tuple #[.slice Ar ((quadFrom s).1).length cr,.bool ((quadFrom s).2)]∧SH w w' [] [.own Ar (((quadFrom s).1).length) cr 3 1 (((quadFrom s).1).map I)]):=by
 refine fE (N:=32) Tryz.func139 r0 (by kernel_rfl) r0 ?_
 have hs0:=SH.refl w []
 refine sr (tA ns r0 (tA (.bool false) r0 (nx ?_)))
 refine tA ns r0 (nn (sq (sr (tm (Str s) r0 (cL r0 (stSplit (l:=s) (c:=46) (w:=_) (hl_n:=(by(omega)))) ?_)))))
 rintro _ w1 ⟨A1,c1,rfl,hs1⟩
 replace hs1:=hs0.call0 hs1
 refine qt r0 (lnA (n:=(splitB 46 s).length) sl147 r0) (tm (I 0) r0 (nn (bl ?_)))
 have hs2:=hs1.nl [.own none (([]:List Int).length) 0 3 1 (([]:List Int).map I)] r0
 refine lp (σ:=(Option Addr)×Nat×Nat×(List Int)) (fun⟨Ag4,cg4,k,zs⟩ f w'=>Hz f [(4,.slice Ag4 zs.length cg4),(10,.slice A1 ((splitB 46 s).length) c1),(11,I (((splitB 46 s).length:Nat):Int)),(12,I (k:Int))]∧(k≤(splitB 46 s).length)∧((splitB 46 s).take k=zs.map Lib.itoa)∧SH w w' [] [.own A1 ((splitB 46 s).length) c1 9 1 ((splitB 46 s).map Str),.own Ag4 zs.length cg4 3 1 (zs.map I)]) (fun⟨Ag4,cg4,k,zs⟩=>(splitB 46 s).length-k) (none,0,0,([]:List Int)) ⟨(zR r0),(by simp),(by simp),hs2⟩ ?_
 rintro ⟨Ag4,cg4,k,zs⟩ f w2 ⟨⟨g1,rfl⟩,hk,hz,hs3⟩
 refine sr (qt r0 (lss (k:=.i64) (a:=(k:Int)) (b:=(((splitB 46 s).length:Nat):Int)) r0 r0) (nn (sq ?_)))
 refine cdd (p:=(k:Int)<(((splitB 46 s).length:Nat):Int)) r0 (fun h1=>?_) (fun h1=>?_)
 ·refine sk (nN (sq (bl (sr (ixw1 k sl147 r0 r0 (hs3.sl0 0 r0) (by(omega)) (getm Str [] (by(omega))) trivial r0 (fun a1 ha1=>?_))))))
  refine qt r0 (lda (v:=Str ((splitB 46 s).getD k [])) (SH.refl w2 []) ha1 (fun _ h=>h) r0 r0 one9) (tA (Str ((splitB 46 s).getD k [])) r0 (nx (tm (Str ((splitB 46 s).getD k [])) r0 (cL r0 (iDecimal (s:=(splitB 46 s).getD k []) (w:=_) (hs_n:=(by(have hsl:=splitB_len 46 s; have hsb:=splitB_getD 46 s k; have hcl:=List.count_le_length (a:=(46:UInt8)) (l:=s); have hzl:=congrArg List.length hz; rw[List.length_take,List.length_map]at hzl; omega))) (hGp:=(hGp.up0 hs3)) (hEr:=(hEr.up0 hs3)) (hEs:=(hEs.up0 hs3))) ?_))))
  rintro _ w3 ⟨rfl,hs4⟩
  replace hs4:=hs3.call0 hs4
  refine tm (.tuple #[I ((decI ((splitB 46 s).getD k [])).1),.bool ((decI ((splitB 46 s).getD k [])).2)]) r0 (qt r0 (xt 0 (v:=I ((decI ((splitB 46 s).getD k [])).1)) r0 r0) (qt r0 (xt 1 (v:=.bool ((decI ((splitB 46 s).getD k [])).2)) r0 r0) (tA (I ((decI ((splitB 46 s).getD k [])).1)) r0 (tA (.bool ((decI ((splitB 46 s).getD k [])).2)) r0 (nn (sq ?_))))))
  refine sr (tm (.bool ((decI ((splitB 46 s).getD k [])).2)) r0 (qt r0 (nt (b:=(decI ((splitB 46 s).getD k [])).2) r0) (nn ?_)))
  refine cd (b:=!((decI ((splitB 46 s).getD k [])).2)) r0 (fun h2=>?_) (fun h2=>?_)
  ·have h3:((decI ((splitB 46 s).getD k [])).2)=false:=by simpa using h2
   refine sr (tA ns r0 (tA (.bool false) r0 (nn ?_)))
   refine rt (tR (bR (tR (tR (bR (tR ?_))))))
   refine fret (v:=.tuple #[ns,.bool false]) (.tmp (.tmp .nil)) r0 ?_
   have hs5:=hs4.nl [.own none (([]:List Int).length) 0 3 1 (([]:List Int).map I)] r0
   have e1:quadFrom s=(([]:List Int),false):=by exact quad_dec_no (k:=k) (by omega) ‹_›
   have e2:=pj1 e1
   have e3:=congrArg List.length e2
   have e4:=pj2 e1
   exact⟨none,0,(tup2 (slv r0 e3 r0) (congrArg (Value.bool) e4)),((hs5.pq [2] r0).cast (lc (own_eq (g:=I) r0 e3 r0 e2) r0))⟩
  ·have h4:((decI ((splitB 46 s).getD k [])).2)=true:=by simpa using h2
   refine sk (nN (rg (tm (.slice Ag4 zs.length cg4) r0 (tm (I ((decI ((splitB 46 s).getD k [])).1)) r0 (bsk hs4 sl22 [I ((decI ((splitB 46 s).getD k [])).1)] [I ((decI ((splitB 46 s).getD k [])).1)] trivial r0 (fun b1 w4 hs6=>?_))))))
   refine apm (g:=I) (ys:=zs) (zs:=([(decI ((splitB 46 s).getD k [])).1]:List Int)) hs6 1 r0 sl22 r0 r0 r0 (hs6.sl0 2 r0) (fun _=>rfl) (by unfold maxLen; (have hsl:=splitB_len 46 s; have hsb:=splitB_getD 46 s k; have hcl:=List.count_le_length (a:=(46:UInt8)) (l:=s); have hzl:=congrArg List.length hz; rw[List.length_take,List.length_map]at hzl; (simp; omega))) (by(have hsl:=splitB_len 46 s; have hsb:=splitB_getD 46 s k; have hcl:=List.count_le_length (a:=(46:UInt8)) (l:=s); have hzl:=congrArg List.length hz; rw[List.length_take,List.length_map]at hzl; (simp; omega))) trivial r0 (fun A2 c2 w5 hs7=>?_)
   refine tA (.slice A2 ((zs++([(decI ((splitB 46 s).getD k [])).1]:List Int)).length) c2) r0 (nl (bN (nN (rg (qt r0 (add (a:=(k:Int)) (b:=1) r0 r0 (by(have hsl:=splitB_len 46 s; have hsb:=splitB_getD 46 s k; have hcl:=List.count_le_length (a:=(46:UInt8)) (l:=s); have hzl:=congrArg List.length hz; rw[List.length_take,List.length_map]at hzl; exact⟨by omega,by omega⟩))) (tm (I ((k:Int)+1)) r0 (nl ?_)))))))
   refine nN ?_
   refine⟨(A2,c2,k+1,(zs++([(decI ((splitB 46 s).getD k [])).1]:List Int))),⟨(zR r0),(by omega),(dec_step (by omega) hz ‹_›),(hs7.pk [0,2] r0)⟩,?_⟩
   show (splitB 46 s).length-(k+1)<(splitB 46 s).length-k
   omega
 ·refine ex (tE (tE (bE ?_)))
  refine nN (sq (sr (tm (.slice Ag4 zs.length cg4) r0 (cL r0 (iQuadValid (Aqs:=Ag4) (cqs:=cg4) (qs:=zs) (w:=_) (hqs:=(hs3.sl0 1 r0))) ?_))))
  rintro _ w6 ⟨rfl,hs8⟩
  replace hs8:=hs3.call0 hs8
  refine qt r0 (nt (b:=quadOk zs) r0) (nn ?_)
  refine cd (b:=!(quadOk zs)) r0 (fun h5=>?_) (fun h5=>?_)
  ·have h6:(quadOk zs)=false:=by simpa using h5
   refine sr (tA ns r0 (tA (.bool false) r0 (nn (rt (tR ?_)))))
   refine fret (v:=.tuple #[ns,.bool false]) (.tmp (.tmp .nil)) r0 ?_
   have hs9:=hs8.nl [.own none (([]:List Int).length) 0 3 1 (([]:List Int).map I)] r0
   have e5:quadFrom s=(([]:List Int),false):=by(rw[List.take_of_length_le (by omega)]at hz; first | exact quad_val_no hz ‹_› | exact quad_parts hz ‹_›)
   have e6:=pj1 e5
   have e7:=congrArg List.length e6
   have e8:=pj2 e5
   exact⟨none,0,(tup2 (slv r0 e7 r0) (congrArg (Value.bool) e8)),((hs9.pq [2] r0).cast (lc (own_eq (g:=I) r0 e7 r0 e6) r0))⟩
  ·have h7:(quadOk zs)=true:=by simpa using h5
   refine sk (nN (sr (tm (.slice Ag4 zs.length cg4) r0 (tA (.slice Ag4 zs.length cg4) r0 (tA (.bool true) r0 (nl ?_))))))
   refine nN (rt (fret (v:=.tuple #[.slice Ag4 zs.length cg4,.bool true]) (.tmp (.tmp .nil)) r0 ?_))
   have e9:quadFrom s=(zs,true):=by(rw[List.take_of_length_le (by omega)]at hz; first | exact quad_val_no hz ‹_› | exact quad_parts hz ‹_›)
   have e10:=pj1 e9
   have e11:=congrArg List.length e10
   have e12:=pj2 e9
   exact⟨Ag4,cg4,(tup2 (slv r0 e11 r0) (congrArg (Value.bool) e12)),((hs8.pq [1] r0).cast (lc (own_eq (g:=I) r0 e11 r0 e10) r0))⟩
theorem iAddressFrom (s:List UInt8) (w:World) (hs_n:s.length≤1099511627776) (hGp:VarP Tryz.prog w [] "internal/strconv.uint64pow10" isPow) (hEr:VarP Tryz.prog w [] "strconv.ErrRange" isIfc) (hEs:VarP Tryz.prog w [] "strconv.ErrSyntax" isIfc):Does Tryz.prog 81 [Str s] w (fun v w'=>∃ Aqr:Option Addr,∃ cqr:Nat,v=.tuple #[.agg #[.int .i64 ((addrFrom s).1.1),.slice Aqr ((addrFrom s).1.2.1).length cqr,Str ((addrFrom s).1.2.2.1),.int .i64 ((addrFrom s).1.2.2.2)],.bool ((addrFrom s).2)]∧SH w w' [] [.own Aqr (((addrFrom s).1.2.1).length) cqr 3 1 (((addrFrom s).1.2.1).map I)]):=by
 refine fE (N:=43) Tryz.func81 r0 (by kernel_rfl) r0 ?_
 have hs0:=SH.refl w []
 refine sr (al (v:=.agg #[I 0,ns,Str [],I 0]) (cs:=[I 0,ns,Str [],I 0]) hs0 tz43 r0 trivial r0 (fun b1 w1 hs1=>?_))
 refine tA (.bool false) r0 (nx (tm (Str s) r0 (cL r0 (stCut (l:=s) (c:=58) (w:=_) (hl_n:=(by(omega)))) ?_)))
 rintro _ w2 ⟨rfl,hs2⟩
 replace hs2:=hs1.call0 hs2
 refine tm (.tuple #[Str (cutA s 58),Str (cutZ s 58),.bool (decide (0≤idxB s 58))]) r0 (qt r0 (xt 0 (v:=Str (cutA s 58)) r0 r0) (qt r0 (xt 1 (v:=Str (cutZ s 58)) r0 r0) (qt r0 (xt 2 (v:=.bool (decide (0≤idxB s 58))) r0 r0) (tA (Str (cutA s 58)) r0 (tA (Str (cutZ s 58)) r0 (tA (.bool (decide (0≤idxB s 58))) r0 (nl ?_)))))))
 refine nN (sr (tm (Str (cutZ s 58)) r0 (cL r0 (iDecimal (s:=cutZ s 58) (w:=_) (hs_n:=(by(have hcA:=cutA_len s 58; have hcZ:=cutZ_len s 58; omega))) (hGp:=(hGp.up0 hs2)) (hEr:=(hEr.up0 hs2)) (hEs:=(hEs.up0 hs2))) ?_)))
 rintro _ w3 ⟨rfl,hs3⟩
 replace hs3:=hs2.call0 hs3
 refine tm (.tuple #[I ((decI (cutZ s 58)).1),.bool ((decI (cutZ s 58)).2)]) r0 (qt r0 (xt 0 (v:=I ((decI (cutZ s 58)).1)) r0 r0) (qt r0 (xt 1 (v:=.bool ((decI (cutZ s 58)).2)) r0 r0) (tA (I ((decI (cutZ s 58)).1)) r0 (tA (.bool ((decI (cutZ s 58)).2)) r0 (nn (sq ?_))))))
 refine sr (tm (.bool ((decI (cutZ s 58)).2)) r0 (qt r0 (nt (b:=(decI (cutZ s 58)).2) r0) (nn ?_)))
 refine cd (b:=!((decI (cutZ s 58)).2)) r0 (fun h1=>?_) (fun h1=>?_)
 ·have h2:((decI (cutZ s 58)).2)=false:=by simpa using h1
  refine sr (qt r0 (bdv (v:=.agg #[I 0,ns,Str [],I 0]) [] r0 (fun _=>by kernel_rfl)) (sG [I 0,ns,Str [],I 0] hs3 0 r0 ag43 (fun w4 hs4=>?_)))
  refine tA (.bool false) r0 (nn (rt (tR ?_)))
  refine fret (v:=.tuple #[.agg #[I 0,ns,Str [],I 0],.bool false]) (resC hs4 0 r0 r0 ag43 r0 (.tmp .nil)) r0 ?_
  have hs5:=hs4.nl [.own none (([]:List Int).length) 0 3 1 (([]:List Int).map I)] r0
  have e1:addrFrom s=((0,([]:List Int),[],0),false):=by(rw[addr_impl]; simp[addrOf,aOk,h2])
  have e2:=pj11 e1
  have e3:=pj121 e1
  have e4:=congrArg List.length e3
  have e5:=pj1221 e1
  have e6:=pj1222 e1
  have e7:=pj2 e1
  exact⟨none,0,(tup2 (aggv (lc (congrArg (Value.int .i64) e2) (lc (slv r0 e4 r0) (lc (congrArg (Str) e5) (lc (congrArg (Value.int .i64) e6) r0))))) (congrArg (Value.bool) e7)),((hs5.pq [1] r0).cast (lc (own_eq (g:=I) r0 e4 r0 e3) r0))⟩
 ·have h3:((decI (cutZ s 58)).2)=true:=by simpa using h1
  refine sk (nN (sr (tm (Str (cutA s 58)) r0 (tm (I ((decI (cutZ s 58)).1)) r0 (qt r0 (bdv (v:=.agg #[I 3,ns,Str (cutA s 58),I ((decI (cutZ s 58)).1)]) [(0,I 3),(2,Str (cutA s 58)),(3,I ((decI (cutZ s 58)).1))] r0 (fun _=>by kernel_rfl)) (al (v:=.agg #[I 0,ns,Str [],I 0]) (cs:=[I 0,ns,Str [],I 0]) hs3 tz43 r0 trivial r0 (fun b2 w5 hs6=>?_)))))))
  refine sG [I 3,ns,Str (cutA s 58),I ((decI (cutZ s 58)).1)] hs6 1 r0 ag43 (fun w6 hs7=>?_)
  refine nn (sq (sr (tm (Str (cutA s 58)) r0 (cL r0 (iQuadFrom (s:=cutA s 58) (w:=_) (hs_n:=(by(have hcA:=cutA_len s 58; have hcZ:=cutZ_len s 58; omega))) (hGp:=(hGp.up0 hs7)) (hEr:=(hEr.up0 hs7)) (hEs:=(hEs.up0 hs7))) ?_))))
  rintro _ w7 ⟨A1,c1,rfl,hs8⟩
  replace hs8:=hs7.call0 hs8
  refine tm (.tuple #[.slice A1 (((quadFrom (cutA s 58)).1).length) c1,.bool ((quadFrom (cutA s 58)).2)]) r0 (qt r0 (xt 0 (v:=.slice A1 (((quadFrom (cutA s 58)).1).length) c1) r0 r0) (qt r0 (xt 1 (v:=.bool ((quadFrom (cutA s 58)).2)) r0 r0) (tA (.slice A1 (((quadFrom (cutA s 58)).1).length) c1) r0 (tA (.bool ((quadFrom (cutA s 58)).2)) r0 (nn (sq ?_))))))
  refine rg (tm (.bool ((quadFrom (cutA s 58)).2)) r0 (nn ?_))
  refine cd (b:=(quadFrom (cutA s 58)).2) r0 (fun h4=>?_) (fun h4=>?_)
  ·refine rg (tm (.slice A1 (((quadFrom (cutA s 58)).1).length) c1) r0 (tm (I ((decI (cutZ s 58)).1)) r0 (qt r0 (bdv (v:=.agg #[I 1,.slice A1 (((quadFrom (cutA s 58)).1).length) c1,Str [],I ((decI (cutZ s 58)).1)]) [(0,I 1),(1,.slice A1 (((quadFrom (cutA s 58)).1).length) c1),(3,I ((decI (cutZ s 58)).1))] r0 (fun _=>by kernel_rfl)) (sG [I 1,.slice A1 (((quadFrom (cutA s 58)).1).length) c1,Str [],I ((decI (cutZ s 58)).1)] hs8 1 r0 ag43 (fun w8 hs9=>?_)))))
   refine nn (sq (sr (qt r0 (lG [I 1,.slice A1 (((quadFrom (cutA s 58)).1).length) c1,Str [],I ((decI (cutZ s 58)).1)] hs9 2 r0 ag43) (cL r0 (iAddressValid (ak:=1) (Aaq:=A1) (caq:=c1) (aq:=(quadFrom (cutA s 58)).1) (an:=[]) (apt:=(decI (cutZ s 58)).1) (w:=_) (haq:=(hs9.sl0 1 r0)) (han_n:=(by((simp; done))))) ?_))))
   rintro _ w9 ⟨rfl,hs10⟩
   replace hs10:=hs9.call0 hs10
   refine qt r0 (nt (b:=addrOk 1 ((quadFrom (cutA s 58)).1) [] ((decI (cutZ s 58)).1)) r0) (nn ?_)
   refine cd (b:=!(addrOk 1 ((quadFrom (cutA s 58)).1) [] ((decI (cutZ s 58)).1))) r0 (fun h5=>?_) (fun h5=>?_)
   ·have h6:(addrOk 1 ((quadFrom (cutA s 58)).1) [] ((decI (cutZ s 58)).1))=false:=by simpa using h5
    refine sr (qt r0 (bdv (v:=.agg #[I 0,ns,Str [],I 0]) [] r0 (fun _=>by kernel_rfl)) (sG [I 0,ns,Str [],I 0] hs10 0 r0 ag43 (fun w10 hs11=>?_)))
    refine tA (.bool false) r0 (nn (rt (tR ?_)))
    refine fret (v:=.tuple #[.agg #[I 0,ns,Str [],I 0],.bool false]) (resC hs11 2 r0 r0 ag43 r0 (.tmp .nil)) r0 ?_
    have hs12:=hs11.nl [.own none (([]:List Int).length) 0 3 1 (([]:List Int).map I)] r0
    have e8:addrFrom s=((0,([]:List Int),[],0),false):=by(rw[addr_impl]; simp[addrOf,aOk,h3,h4,h6])
    have e9:=pj11 e8
    have e10:=pj121 e8
    have e11:=congrArg List.length e10
    have e12:=pj1221 e8
    have e13:=pj1222 e8
    have e14:=pj2 e8
    exact⟨none,0,(tup2 (aggv (lc (congrArg (Value.int .i64) e9) (lc (slv r0 e11 r0) (lc (congrArg (Str) e12) (lc (congrArg (Value.int .i64) e13) r0))))) (congrArg (Value.bool) e14)),((hs12.pq [3] r0).cast (lc (own_eq (g:=I) r0 e11 r0 e10) r0))⟩
   ·have h7:(addrOk 1 ((quadFrom (cutA s 58)).1) [] ((decI (cutZ s 58)).1))=true:=by simpa using h5
    refine sk (nN (sr (qt r0 (lG [I 1,.slice A1 (((quadFrom (cutA s 58)).1).length) c1,Str [],I ((decI (cutZ s 58)).1)] hs10 2 r0 ag43) (sG [I 1,.slice A1 (((quadFrom (cutA s 58)).1).length) c1,Str [],I ((decI (cutZ s 58)).1)] hs10 0 r0 ag43 (fun w11 hs13=>?_)))))
    refine tA (.bool true) r0 (nn (rt (fret (v:=.tuple #[.agg #[I 1,.slice A1 (((quadFrom (cutA s 58)).1).length) c1,Str [],I ((decI (cutZ s 58)).1)],.bool true]) (resC hs13 2 r0 r0 ag43 r0 (.tmp .nil)) r0 ?_)))
    have e15:addrFrom s=((1,(quadFrom (cutA s 58)).1,[],(decI (cutZ s 58)).1),true):=by(rw[addr_impl]; simp[addrOf,aOk,h3,h4,h7])
    have e16:=pj11 e15
    have e17:=pj121 e15
    have e18:=congrArg List.length e17
    have e19:=pj1221 e15
    have e20:=pj1222 e15
    have e21:=pj2 e15
    exact⟨A1,c1,(tup2 (aggv (lc (congrArg (Value.int .i64) e16) (lc (slv r0 e18 r0) (lc (congrArg (Str) e19) (lc (congrArg (Value.int .i64) e20) r0))))) (congrArg (Value.bool) e21)),((hs13.pq [0] r0).cast (lc (own_eq (g:=I) r0 e18 r0 e17) r0))⟩
  ·refine sk (nN (sq (sr (qt r0 (lG [I 3,ns,Str (cutA s 58),I ((decI (cutZ s 58)).1)] hs8 1 r0 ag43) (cL r0 (iAddressValid (ak:=3) (Aaq:=none) (caq:=0) (aq:=([]:List Int)) (an:=cutA s 58) (apt:=(decI (cutZ s 58)).1) (w:=_) (haq:=Sl.nil) (han_n:=(by(have hcA:=cutA_len s 58; have hcZ:=cutZ_len s 58; omega)))) ?_)))))
   rintro _ w12 ⟨rfl,hs14⟩
   replace hs14:=hs8.call0 hs14
   refine qt r0 (nt (b:=addrOk 3 ([]:List Int) (cutA s 58) ((decI (cutZ s 58)).1)) r0) (nn ?_)
   refine cd (b:=!(addrOk 3 ([]:List Int) (cutA s 58) ((decI (cutZ s 58)).1))) r0 (fun h8=>?_) (fun h8=>?_)
   ·have h9:(addrOk 3 ([]:List Int) (cutA s 58) ((decI (cutZ s 58)).1))=false:=by simpa using h8
    refine sr (qt r0 (bdv (v:=.agg #[I 0,ns,Str [],I 0]) [] r0 (fun _=>by kernel_rfl)) (sG [I 0,ns,Str [],I 0] hs14 0 r0 ag43 (fun w13 hs15=>?_)))
    refine tA (.bool false) r0 (nn (rt (tR ?_)))
    refine fret (v:=.tuple #[.agg #[I 0,ns,Str [],I 0],.bool false]) (resC hs15 2 r0 r0 ag43 r0 (.tmp .nil)) r0 ?_
    have hs16:=hs15.nl [.own none (([]:List Int).length) 0 3 1 (([]:List Int).map I)] r0
    have e22:addrFrom s=((0,([]:List Int),[],0),false):=by(rw[addr_impl]; simp[addrOf,aOk,h3,h4,h9])
    have e23:=pj11 e22
    have e24:=pj121 e22
    have e25:=congrArg List.length e24
    have e26:=pj1221 e22
    have e27:=pj1222 e22
    have e28:=pj2 e22
    exact⟨none,0,(tup2 (aggv (lc (congrArg (Value.int .i64) e23) (lc (slv r0 e25 r0) (lc (congrArg (Str) e26) (lc (congrArg (Value.int .i64) e27) r0))))) (congrArg (Value.bool) e28)),((hs16.pq [3] r0).cast (lc (own_eq (g:=I) r0 e25 r0 e24) r0))⟩
   ·have h10:(addrOk 3 ([]:List Int) (cutA s 58) ((decI (cutZ s 58)).1))=true:=by simpa using h8
    refine sk (nN (sr (qt r0 (lG [I 3,ns,Str (cutA s 58),I ((decI (cutZ s 58)).1)] hs14 1 r0 ag43) (sG [I 3,ns,Str (cutA s 58),I ((decI (cutZ s 58)).1)] hs14 0 r0 ag43 (fun w14 hs17=>?_)))))
    refine tA (.bool true) r0 (nn (rt (fret (v:=.tuple #[.agg #[I 3,ns,Str (cutA s 58),I ((decI (cutZ s 58)).1)],.bool true]) (resC hs17 2 r0 r0 ag43 r0 (.tmp .nil)) r0 ?_)))
    have hs18:=hs17.nl [.own none (([]:List Int).length) 0 3 1 (([]:List Int).map I)] r0
    have e29:addrFrom s=((3,([]:List Int),cutA s 58,(decI (cutZ s 58)).1),true):=by(rw[addr_impl]; simp[addrOf,aOk,h3,h4,h10])
    have e30:=pj11 e29
    have e31:=pj121 e29
    have e32:=congrArg List.length e31
    have e33:=pj1221 e29
    have e34:=pj1222 e29
    have e35:=pj2 e29
    exact⟨none,0,(tup2 (aggv (lc (congrArg (Value.int .i64) e30) (lc (slv r0 e32 r0) (lc (congrArg (Str) e33) (lc (congrArg (Value.int .i64) e34) r0))))) (congrArg (Value.bool) e35)),((hs18.pq [3] r0).cast (lc (own_eq (g:=I) r0 e32 r0 e31) r0))⟩
theorem sL2Number (s:List UInt8) (w:World) (hs_n:s.length≤1099511627776):Does Tryz.prog 143 [Str s] w (fun v w'=>v=.int .i64 (numD s)∧SH w w' [] []):=by
 refine fE (N:=34) Tryz.func143 r0 (by kernel_rfl) r0 ?_
 have hs0:=SH.refl w []
 refine sr (tA (I 0) r0 (nn (sq (sr ?_))))
 refine tm (Str s) r0 (qt r0 (lnS (l:=s) st9 r0) (cL r0 (sIn (x:=(s.length:Int)) (lo:=1) (hi:=5) (w:=_)) ?_))
 rintro _ w1 ⟨rfl,hs1⟩
 replace hs1:=hs0.call0 hs1
 refine qt r0 (nd (p:=1≤(s.length:Int)∧(s.length:Int)≤5) r0) (nn ?_)
 refine cdd (p:=¬ (1≤(s.length:Int)∧(s.length:Int)≤5)) r0 (fun h1=>?_) (fun h1=>?_)
 ·refine sr (tA (I (-1)) r0 (nn (rt (tR ?_))))
  refine fT (I (-1)) r0 ?_
  have e1:(-1)=numD s:=by exact Eq.symm (numD_no1 (by omega))
  exact⟨(congrArg (Value.int .i64) e1),hs1⟩
 ·refine sk (nN (sr (tA (I 0) r0 (nn (sq ?_)))))
  refine sr (tA (I 0) r0 (nn (bl (lp (σ:=Nat) (fun(k:Nat) f w'=>Hz f [(0,Str s),(3,I (numF (s.take k))),(4,I (k:Int))]∧(k≤s.length)∧((s.take k).all digB=true)∧SH w w' [] []) (fun k=>s.length-k) 0 ⟨(zH ⟨rfl,(show (I 0:Value)=I (numF (s.take 0)) from congrArg (Value.int .i64) (by rfl)),rfl,trivial⟩),(by simp),(by simp),hs1⟩ ?_))))
  rintro k f w2 ⟨⟨g1,rfl⟩,hk,ha,hs2⟩
  refine sq (sr (tm (I (k:Int)) r0 (tm (Str s) r0 (qt r0 (lnS (l:=s) st9 r0) (qt r0 (lss (k:=.i64) (a:=(k:Int)) (b:=(s.length:Int)) r0 r0) (nl ?_))))))
  refine nN ?_
  refine cdd (p:=(k:Int)<(s.length:Int)) r0 (fun h2=>?_) (fun h2=>?_)
  ·refine sk (nN (sq (bl (sq (sr (tm (Str s) r0 ?_))))))
   refine tm (I (k:Int)) r0 (qt r0 (ixs (l:=s) k st9 r0 r0 (by(omega))) (qt r0 (lss (k:=.u8) (a:=(((s.getD k 0).toNat:Nat):Int)) (b:=48) r0 r0) (tm (.bool (decide ((((s.getD k 0).toNat:Nat):Int)<48))) r0 ?_)))
   refine spd (p:=(((s.getD k 0).toNat:Nat):Int)<48) 19 r0 (fun h3=>?_) (fun h3=>?_)
   ·refine gt5 r0 (gt5 r0 (gt5 r0 (gt5 r0 (qt r0 (pt (v:=.bool true) r0 r0) (nn (cdt r0 ?_))))))
    refine sr (tA (I (-1)) r0 (nn ?_))
    refine rt (tR (bR (tR (tR (bR (tR ?_))))))
    refine fT (I (-1)) r0 ?_
    have e2:(-1)=numD s:=by exact Eq.symm (numD_no2 (k:=k) (by omega) (by omega))
    exact⟨(congrArg (Value.int .i64) e2),hs2⟩
   ·refine q ⟨_,rfl,rfl⟩ r0 r0 (mv (v:=Str s) r0) (q ⟨_,rfl,rfl⟩ r0 r0 (mv (v:=I (k:Int)) r0) (q ⟨_,rfl,rfl⟩ r0 r0 (ixs (l:=s) k st9 r0 r0 (by(omega))) (q ⟨_,rfl,rfl⟩ r0 r0 (gtr (k:=.u8) (a:=(((s.getD k 0).toNat:Nat):Int)) (b:=57) r0 r0) (qt r0 (pf (v:=.bool (decide ((57:Int)<(((s.getD k 0).toNat:Nat):Int)))) r0 r0) (nn ?_)))))
    refine cdd (p:=(57:Int)<(((s.getD k 0).toNat:Nat):Int)) r0 (fun h4=>?_) (fun h4=>?_)
    ·refine sr (tA (I (-1)) r0 (nn ?_))
     refine rt (tR (bR (tR (tR (bR (tR ?_))))))
     refine fT (I (-1)) r0 ?_
     have e3:(-1)=numD s:=by exact Eq.symm (numD_no2 (k:=k) (by omega) (by omega))
     exact⟨(congrArg (Value.int .i64) e3),hs2⟩
    ·refine sk (nN (rg (tm (I (numF (s.take k))) r0 (qt r0 (mul (a:=10) (b:=numF (s.take k)) r0 r0 (by(have hnb:=numF_bd2 (k:=k) ha (by omega); have hub:=u8_bd (s.getD k 0); exact⟨by omega,by omega⟩))) (tm (Str s) r0 (tm (I (k:Int)) r0 (qt r0 (ixs (l:=s) k st9 r0 r0 (by(omega))) ?_)))))))
     refine qt r0 (subU (a:=(((s.getD k 0).toNat:Nat):Int)) (b:=48) r0 r0 (by omega) (by omega)) (qt r0 (cvI (a:=(((s.getD k 0).toNat:Nat):Int)-48) (s:=.u8) ti5 ti3 r0 (by(exact⟨by omega,by omega⟩))) (qt r0 (add (a:=10*(numF (s.take k))) (b:=(((s.getD k 0).toNat:Nat):Int)-48) r0 r0 (by(have hnb:=numF_bd2 (k:=k) ha (by omega); have hub:=u8_bd (s.getD k 0); exact⟨by omega,by omega⟩))) (tA (I ((10*(numF (s.take k)))+((((s.getD k 0).toNat:Nat):Int)-48))) r0 (nl (bN (nN (rg ?_)))))))
     refine tm (I (k:Int)) r0 (qt r0 (add (a:=(k:Int)) (b:=1) r0 r0 (by(exact⟨by omega,by omega⟩))) (tA (I ((k:Int)+1)) r0 (nn ?_)))
     refine⟨(k+1),⟨(zH ⟨rfl,(show (I ((10*(numF (s.take k)))+((((s.getD k 0).toNat:Nat):Int)-48)):Value)=I (numF (s.take (k+1))) from congrArg (Value.int .i64) (by rw[numF_take (by omega)])),rfl,trivial⟩),(by omega),(all_step (d:=0) (by omega) ha (by simp only[digB,decide_eq_true_eq]; omega)),hs2⟩,?_⟩
     omega
  ·refine ex (tE (tE (bE ?_)))
   refine nN (sr (tm (I (numF (s.take k))) r0 (tA (I (numF (s.take k))) r0 (nn (rt ?_)))))
   refine fT (I (numF (s.take k))) r0 ?_
   have e4:numF (s.take k)=numD s:=by exact numD_yes (by omega) (by omega) ha
   exact⟨(congrArg (Value.int .i64) e4),hs2⟩
theorem sQuadText {Aqs:Option Addr} {cqs:Nat} (qs:List Int) (w:World) (hqs:Sl w [] 1 Aqs qs.length cqs (qs.map I)):Does Tryz.prog 185 [.slice Aqs qs.length cqs] w (fun v w'=>v=Str (quadQ qs)∧SH w w' [] []):=by
 refine fE (N:=8) Tryz.func185 r0 (by kernel_rfl) r0 ?_
 have hs0:=SH.refl w []
 have hqs_m:qs.length≤9223372036854775807:=Nat.le_trans hqs.cap hqs.capMax
 refine sr (tA (Str []) r0 (nn (sq (sr ?_))))
 refine tm (Z13 Aqs qs cqs) r0 (cL r0 (sQuadValid (Aqs:=Aqs) (cqs:=cqs) (qs:=qs) (w:=_) (hqs:=(hqs.up0 hs0))) ?_)
 rintro _ w1 ⟨rfl,hs1⟩
 replace hs1:=hs0.call0 hs1
 refine qt r0 (nt (b:=quadOk qs) r0) (nn ?_)
 refine cd (b:=!(quadOk qs)) r0 (fun h1=>?_) (fun h1=>?_)
 ·have h2:(quadOk qs)=false:=by simpa using h1
  refine sr (tA (Str []) r0 (nn (rt (tR ?_))))
  refine fT (Str []) r0 ?_
  have e1:[]=quadQ qs:=by simp[quadQ,h2]
  exact⟨(congrArg (Str) e1),hs1⟩
 ·have h3:(quadOk qs)=true:=by simpa using h1
  refine sk (nN (sr (tm (Z13 Aqs qs cqs) r0 (cL r0 (sL2Quad (Aqs:=Aqs) (cqs:=cqs) (qs:=qs) (w:=_) (hqs:=(hqs.up0 hs1)) (hq:=(by omega))) ?_))))
  rintro _ w2 ⟨rfl,hs2⟩
  replace hs2:=hs1.call0 hs2
  refine tA (Str (quadT qs)) r0 (nn (rt (fT (Str (quadT qs)) r0 ?_)))
  have e2:quadT qs=quadQ qs:=by simp[quadQ,h3]
  exact⟨(congrArg (Str) e2),hs2⟩
theorem sQuadFrom (s:List UInt8) (w:World) (hs_n:s.length≤1099511627776):Does Tryz.prog 169 [Str s] w (fun v w'=>∃ Ar:Option Addr,∃ cr:Nat,v=.tuple #[.slice Ar ((quadFrom s).1).length cr,.bool ((quadFrom s).2)]∧SH w w' [] [.own Ar (((quadFrom s).1).length) cr 3 1 (((quadFrom s).1).map I)]):=by
 refine fE (N:=34) Tryz.func169 r0 (by kernel_rfl) r0 ?_
 have hs0:=SH.refl w []
 refine sr (tA ns r0 (tA (.bool false) r0 (nx ?_)))
 refine tm (Str s) r0 (cL r0 (l2Cut (l:=s) (c:=(46:UInt8)) (w:=_) (hl_n:=(by(omega)))) ?_)
 rintro _ w1 ⟨A1,c1,rfl,hs1⟩
 replace hs1:=hs0.call0 hs1
 refine tA (.slice A1 ((splitB (46:UInt8) s).length) c1) r0 (nx (bsk hs1 sl22 [] [] trivial r0 (fun b1 w2 hs2=>?_)))
 refine tA (sb b1 (([]:List Int).length) 0) r0 (nn (sq (sr (tA (I 0) r0 (nl ?_)))))
 refine nN (bl ?_)
 have e1:([]:List Int)=(quadD s).take 0:=by simp
 have e2:([]:List Int).length=((quadD s).take 0).length:=by rw[e1]
 refine lp (σ:=(Option Addr)×Nat×Nat) (fun⟨Ag5,cg5,k⟩ f w'=>Hz f [(0,Str s),(4,.slice A1 ((splitB (46:UInt8) s).length) c1),(5,.slice Ag5 (((quadD s).take k).length) cg5),(6,I (k:Int))]∧(k≤(splitB 46 s).length)∧SH w w' [] [.own A1 ((splitB (46:UInt8) s).length) c1 9 1 ((splitB (46:UInt8) s).map Str),.own Ag5 (((quadD s).take k).length) cg5 3 1 (((quadD s).take k).map I)]) (fun⟨Ag5,cg5,k⟩=>(splitB 46 s).length-k) ((Z6 b1),0,0) ⟨(zH ⟨rfl,rfl,(show (.slice (Z6 b1) (([]:List Int).length) 0:Value)=.slice (Z6 b1) (((quadD s).take 0).length) 0 from slv r0 e2 r0),rfl,trivial⟩),(by simp),(hs2.cast (lc r0 (lc (own_eq (g:=I) r0 e2 r0 e1) r0)))⟩ ?_
 rintro ⟨Ag5,cg5,k⟩ f w3 ⟨⟨g1,rfl⟩,hk,hs3⟩
 refine sq (sr (tm (I (k:Int)) r0 (tm (.slice A1 ((splitB (46:UInt8) s).length) c1) r0 (qt r0 (lnA (n:=(splitB (46:UInt8) s).length) sl147 r0) (qt r0 (lss (k:=.i64) (a:=(k:Int)) (b:=(((splitB (46:UInt8) s).length:Nat):Int)) r0 r0) (nl ?_))))))
 refine nN ?_
 refine cdd (p:=(k:Int)<(((splitB (46:UInt8) s).length:Nat):Int)) r0 (fun h1=>?_) (fun h1=>?_)
 ·refine sk (nN (sq (bl (rg (tm (.slice Ag5 (((quadD s).take k).length) cg5) r0 (tm (.slice A1 ((splitB (46:UInt8) s).length) c1) r0 (tm (I (k:Int)) r0 ?_)))))))
  refine ixw1 k sl147 r0 r0 (hs3.sl0 0 r0) (by(omega)) (getm Str [] (by(omega))) trivial r0 (fun a1 ha1=>?_)
  refine qt r0 (lda (v:=Str ((splitB (46:UInt8) s).getD k [])) (SH.refl w3 []) ha1 (fun _ h=>h) r0 r0 one9) (cL r0 (sL2Number (s:=(splitB (46:UInt8) s).getD k []) (w:=_) (hs_n:=(by(have hsl:=splitB_len 46 s; have hsb:=splitB_getD 46 s k; have hcl:=List.count_le_length (a:=(46:UInt8)) (l:=s); omega)))) ?_)
  rintro _ w4 ⟨rfl,hs4⟩
  replace hs4:=hs3.call0 hs4
  refine bsk hs4 sl22 [I (numD ((splitB (46:UInt8) s).getD k []))] [I (numD ((splitB (46:UInt8) s).getD k []))] trivial r0 (fun b2 w5 hs5=>?_)
  refine apm (g:=I) (ys:=(quadD s).take k) (zs:=([numD ((splitB (46:UInt8) s).getD k [])]:List Int)) hs5 1 r0 sl22 r0 r0 r0 (hs5.sl0 2 r0) (fun _=>rfl) (by unfold maxLen; (have hsl:=splitB_len 46 s; have hsb:=splitB_getD 46 s k; have hcl:=List.count_le_length (a:=(46:UInt8)) (l:=s); (simp; omega))) (by(have hsl:=splitB_len 46 s; have hsb:=splitB_getD 46 s k; have hcl:=List.count_le_length (a:=(46:UInt8)) (l:=s); (simp; omega))) trivial r0 (fun A2 c2 w6 hs6=>?_)
  refine tA (.slice A2 ((((quadD s).take k)++([numD ((splitB (46:UInt8) s).getD k [])]:List Int)).length) c2) r0 (nl (bN (nN (rg (tm (I (k:Int)) r0 (qt r0 (add (a:=(k:Int)) (b:=1) r0 r0 (by(have hsl:=splitB_len 46 s; have hsb:=splitB_getD 46 s k; have hcl:=List.count_le_length (a:=(46:UInt8)) (l:=s); exact⟨by omega,by omega⟩))) (tA (I ((k:Int)+1)) r0 ?_)))))))
  refine nn ?_
  have e3:((quadD s).take k)++([numD ((splitB (46:UInt8) s).getD k [])]:List Int)=(quadD s).take (k+1):=by exact quadD_app (by omega)
  have e4:(((quadD s).take k)++([numD ((splitB (46:UInt8) s).getD k [])]:List Int)).length=((quadD s).take (k+1)).length:=by rw[e3]
  refine⟨(A2,c2,k+1),⟨(zH ⟨rfl,rfl,(show (.slice A2 ((((quadD s).take k)++([numD ((splitB (46:UInt8) s).getD k [])]:List Int)).length) c2:Value)=.slice A2 (((quadD s).take (k+1)).length) c2 from slv r0 e4 r0),rfl,trivial⟩),(by omega),((hs6.pq [0,2] r0).cast (lc r0 (lc (own_eq (g:=I) r0 e4 r0 e3) r0)))⟩,?_⟩
  show (splitB 46 s).length-(k+1)<(splitB 46 s).length-k
  omega
 ·refine ex (tE (tE (bE ?_)))
  refine nN (sq (sr (tm (.slice Ag5 (((quadD s).take k).length) cg5) r0 (cL r0 (sQuadText (Aqs:=Ag5) (cqs:=cg5) (qs:=(quadD s).take k) (w:=_) (hqs:=(hs3.sl0 1 r0))) ?_))))
  rintro _ w7 ⟨rfl,hs7⟩
  replace hs7:=hs3.call0 hs7
  refine tm (Str s) r0 (qt r0 (nes (l:=quadQ ((quadD s).take k)) (m:=s) r0 r0) (tm (.bool (decide (quadQ ((quadD s).take k)≠s))) r0 ?_))
  refine spd (p:=quadQ ((quadD s).take k)≠s) 28 r0 (fun h2=>?_) (fun h2=>?_)
  ·refine gt5 r0 (gt5 r0 (qt r0 (pt (v:=.bool true) r0 r0) (nn (cdt r0 (sr ?_)))))
   refine bsk hs7 sl22 [] [] trivial r0 (fun b3 w8 hs8=>?_)
   refine tA (sb b3 (([]:List Int).length) 0) r0 (tA (.bool false) r0 (nn (rt (tR ?_))))
   refine fret (v:=.tuple #[sb b3 (([]:List Int).length) 0,.bool false]) (.tmp (.tmp .nil)) r0 ?_
   have e5:quadFrom s=(([]:List Int),false):=by((try rw[quadD_all (k:=k) (by omega)]at*); exact quad_s2 (fun hq=>absurd hq.1 ‹_›))
   have e6:=pj1 e5
   have e7:=congrArg List.length e6
   have e8:=pj2 e5
   exact⟨(Z6 b3),0,(tup2 (slv r0 e7 r0) (congrArg (Value.bool) e8)),((hs8.pq [2] r0).cast (lc (own_eq (g:=I) r0 e7 r0 e6) r0))⟩
  ·refine q ⟨_,rfl,rfl⟩ r0 r0 (mv (v:=Str s) r0) (q ⟨_,rfl,rfl⟩ r0 r0 (eqs (l:=s) (m:=[]) r0 r0) (qt r0 (pf (v:=.bool (decide (s=[]))) r0 r0) (nn ?_)))
   refine cdd (p:=s=[]) r0 (fun h3=>?_) (fun h3=>?_)
   ·refine sr (bsk hs7 sl22 [] [] trivial r0 (fun b4 w9 hs9=>?_))
    refine tA (sb b4 (([]:List Int).length) 0) r0 (tA (.bool false) r0 (nn (rt (tR ?_))))
    refine fret (v:=.tuple #[sb b4 (([]:List Int).length) 0,.bool false]) (.tmp (.tmp .nil)) r0 ?_
    have e9:quadFrom s=(([]:List Int),false):=by((try rw[quadD_all (k:=k) (by omega)]at*); exact quad_s2 (fun hq=>absurd ‹_› hq.2))
    have e10:=pj1 e9
    have e11:=congrArg List.length e10
    have e12:=pj2 e9
    exact⟨(Z6 b4),0,(tup2 (slv r0 e11 r0) (congrArg (Value.bool) e12)),((hs9.pq [2] r0).cast (lc (own_eq (g:=I) r0 e11 r0 e10) r0))⟩
   ·refine sk (nN (sr (tm (.slice Ag5 (((quadD s).take k).length) cg5) r0 (tA (.slice Ag5 (((quadD s).take k).length) cg5) r0 (tA (.bool true) r0 (nl ?_))))))
    refine nN (rt (fret (v:=.tuple #[.slice Ag5 (((quadD s).take k).length) cg5,.bool true]) (.tmp (.tmp .nil)) r0 ?_))
    have e13:quadFrom s=((quadD s).take k,true):=by((try rw[quadD_all (k:=k) (by omega)]at*); exact quad_s1 ‹_› ‹_›)
    have e14:=pj1 e13
    have e15:=congrArg List.length e14
    have e16:=pj2 e13
    exact⟨Ag5,cg5,(tup2 (slv r0 e15 r0) (congrArg (Value.bool) e16)),((hs7.pq [1] r0).cast (lc (own_eq (g:=I) r0 e15 r0 e14) r0))⟩
theorem sL3Of (s:List UInt8) (n:Int) (w:World) (hs_n:s.length≤1099511627776):Does Tryz.prog 142 [Str s,I n] w (fun v w'=>∃ Aqr:Option Addr,∃ cqr:Nat,v=.agg #[.int .i64 ((addrOf s n).1),.slice Aqr ((addrOf s n).2.1).length cqr,Str ((addrOf s n).2.2.1),.int .i64 ((addrOf s n).2.2.2)]∧SH w w' [] [.own Aqr (((addrOf s n).2.1).length) cqr 3 1 (((addrOf s n).2.1).map I)]):=by
 refine fE (N:=20) Tryz.func142 r0 (by kernel_rfl) r0 ?_
 have hs0:=SH.refl w []
 refine sr (al (v:=.agg #[I 0,ns,Str [],I 0]) (cs:=[I 0,ns,Str [],I 0]) hs0 tz43 r0 trivial r0 (fun b1 w1 hs1=>?_))
 refine nx (tm (Str s) r0 (cL r0 (sQuadFrom (s:=s) (w:=_) (hs_n:=(by omega))) ?_))
 rintro _ w2 ⟨A1,c1,rfl,hs2⟩
 replace hs2:=hs1.call0 hs2
 refine tm (.tuple #[.slice A1 (((quadFrom s).1).length) c1,.bool ((quadFrom s).2)]) r0 (qt r0 (xt 0 (v:=.slice A1 (((quadFrom s).1).length) c1) r0 r0) (qt r0 (xt 1 (v:=.bool ((quadFrom s).2)) r0 r0) (tA (.slice A1 (((quadFrom s).1).length) c1) r0 (tA (.bool ((quadFrom s).2)) r0 (nn (sq ?_))))))
 refine sr (tm (.bool ((quadFrom s).2)) r0 (nn ?_))
 refine cd (b:=(quadFrom s).2) r0 (fun h1=>?_) (fun h1=>?_)
 ·refine sr (tm (.slice A1 (((quadFrom s).1).length) c1) r0 (tm (I n) r0 (qt r0 (bdv (v:=.agg #[I 1,.slice A1 (((quadFrom s).1).length) c1,Str [],I n]) [(0,I 1),(1,.slice A1 (((quadFrom s).1).length) c1),(3,I n)] r0 (fun _=>by kernel_rfl)) (sG [I 1,.slice A1 (((quadFrom s).1).length) c1,Str [],I n] hs2 0 r0 ag43 (fun w3 hs3=>?_)))))
  refine nn (rt (tR ?_))
  refine fret (v:=.agg #[I 1,.slice A1 (((quadFrom s).1).length) c1,Str [],I n]) (resC hs3 1 r0 r0 ag43 r0 .nil) r0 ?_
  have e1:1=(addrOf s n).1:=by simp[addrOf,h1]
  have e2:(quadFrom s).1=(addrOf s n).2.1:=by simp[addrOf,h1]
  have e3:=congrArg List.length e2
  have e4:[]=(addrOf s n).2.2.1:=by simp[addrOf,h1]
  have e5:n=(addrOf s n).2.2.2:=by simp[addrOf,h1]
  exact⟨A1,c1,(aggv (lc (congrArg (Value.int .i64) e1) (lc (slv r0 e3 r0) (lc (congrArg (Str) e4) (lc (congrArg (Value.int .i64) e5) r0))))),((hs3.pq [0] r0).cast (lc (own_eq (g:=I) r0 e3 r0 e2) r0))⟩
 ·refine sk (nN (sr (bsk hs2 sl22 [] [] trivial r0 (fun b2 w4 hs4=>?_))))
  refine tm (Str s) r0 (tm (I n) r0 (qt r0 (bdv (v:=.agg #[I 3,sb b2 (([]:List Int).length) 0,Str s,I n]) [(0,I 3),(1,sb b2 (([]:List Int).length) 0),(2,Str s),(3,I n)] r0 (fun _=>by kernel_rfl)) (sG [I 3,sb b2 (([]:List Int).length) 0,Str s,I n] hs4 0 r0 ag43 (fun w5 hs5=>?_))))
  refine nn (rt (fret (v:=.agg #[I 3,sb b2 (([]:List Int).length) 0,Str s,I n]) (resC hs5 2 r0 r0 ag43 r0 .nil) r0 ?_))
  have e6:3=(addrOf s n).1:=by simp[addrOf,h1]
  have e7:([]:List Int)=(addrOf s n).2.1:=by simp[addrOf,h1]
  have e8:=congrArg List.length e7
  have e9:s=(addrOf s n).2.2.1:=by simp[addrOf,h1]
  have e10:n=(addrOf s n).2.2.2:=by simp[addrOf,h1]
  exact⟨(Z6 b2),0,(aggv (lc (congrArg (Value.int .i64) e6) (lc (slv r0 e8 r0) (lc (congrArg (Str) e9) (lc (congrArg (Value.int .i64) e10) r0))))),((hs5.pq [1] r0).cast (lc (own_eq (g:=I) r0 e8 r0 e7) r0))⟩
set_option maxHeartbeats 8000000 in
theorem sAddressFrom (s:List UInt8) (w:World) (hs_n:s.length≤1099511627776):Does Tryz.prog 90 [Str s] w (fun v w'=>∃ Aqr:Option Addr,∃ cqr:Nat,v=.tuple #[.agg #[.int .i64 ((addrFrom s).1.1),.slice Aqr ((addrFrom s).1.2.1).length cqr,Str ((addrFrom s).1.2.2.1),.int .i64 ((addrFrom s).1.2.2.2)],.bool ((addrFrom s).2)]∧SH w w' [] [.own Aqr (((addrFrom s).1.2.1).length) cqr 3 1 (((addrFrom s).1.2.1).map I)]):=by
 refine fE (N:=31) Tryz.func90 r0 (by kernel_rfl) r0 ?_
 have hs0:=SH.refl w []
 refine sr (al (v:=.agg #[I 0,ns,Str [],I 0]) (cs:=[I 0,ns,Str [],I 0]) hs0 tz43 r0 trivial r0 (fun b1 w1 hs1=>?_))
 refine tA (.bool false) r0 (nx (tm (Str s) r0 (cL r0 (l2Cut (l:=s) (c:=(58:UInt8)) (w:=_) (hl_n:=(by(omega)))) ?_)))
 rintro _ w2 ⟨A1,c1,rfl,hs2'⟩
 have hs2:=hs1.call0 hs2'
 clear hs2'
 refine tA (.slice A1 ((splitB (58:UInt8) s).length) c1) r0 (nn (sq (sr (tm (.slice A1 ((splitB (58:UInt8) s).length) c1) r0 (qt r0 (lnA (n:=(splitB (58:UInt8) s).length) sl147 r0) ?_)))))
 refine qt r0 (nei (k:=.i64) (a:=(((splitB (58:UInt8) s).length:Nat):Int)) (b:=2) r0 r0) (nn ?_)
 refine cdd (p:=(((splitB (58:UInt8) s).length:Nat):Int)≠2) r0 (fun h1=>?_) (fun h1=>?_)
 ·refine sr (qt r0 (bdv (v:=.agg #[I 0,ns,Str [],I 0]) [] r0 (fun _=>by kernel_rfl)) (sG [I 0,ns,Str [],I 0] hs2 0 r0 ag43 (fun w3 hs3=>?_)))
  refine tA (.bool false) r0 (nn (rt (tR ?_)))
  refine fret (v:=.tuple #[.agg #[I 0,ns,Str [],I 0],.bool false]) (resC hs3 1 r0 r0 ag43 r0 (.tmp .nil)) r0 ?_
  have hs4:=hs3.nl [.own none (([]:List Int).length) 0 3 1 (([]:List Int).map I)] r0
  have e1:addrFrom s=((0,([]:List Int),[],0),false):=by exact addr_s0 ‹_›
  have e2:=pj11 e1
  have e3:=pj121 e1
  have e4:=congrArg List.length e3
  have e5:=pj1221 e1
  have e6:=pj1222 e1
  have e7:=pj2 e1
  exact⟨none,0,(tup2 (aggv (lc (congrArg (Value.int .i64) e2) (lc (slv r0 e4 r0) (lc (congrArg (Str) e5) (lc (congrArg (Value.int .i64) e6) r0))))) (congrArg (Value.bool) e7)),((hs4.pq [2] r0).cast (lc (own_eq (g:=I) r0 e4 r0 e3) r0))⟩
 ·refine sk (nN (sq ?_))
  obtain ⟨b2,rfl⟩:=own_form hs2 1 r0 (by omega)
  refine raJ (fun w'=>∃ L,SH w w' [] L∧(.blk b1 43 [I 0,ns,Str [],I 0])∈L∧True) (fun f w'=>∃ (b8':Nat) (Aq7':Option Addr) (cq7':Nat),Hz f [(0,Str s),(2,pB b1),(5,pB b8')]∧SH w w' [] [(Z14 b1),.own (Z6 b2) ((splitB (58:UInt8) s).length) c1 9 1 ((splitB (58:UInt8) s).map Str),.own Aq7' (((addrOf ((splitB (58:UInt8) s).getD 0 []) (numD ((splitB (58:UInt8) s).getD 1 []))).2.1).length) cq7' 3 1 (((addrOf ((splitB (58:UInt8) s).getD 0 []) (numD ((splitB (58:UInt8) s).getD 1 []))).2.1).map I),.blk b8' 43 [I ((addrOf ((splitB (58:UInt8) s).getD 0 []) (numD ((splitB (58:UInt8) s).getD 1 []))).1),.slice Aq7' (((addrOf ((splitB (58:UInt8) s).getD 0 []) (numD ((splitB (58:UInt8) s).getD 1 []))).2.1).length) cq7',Str ((addrOf ((splitB (58:UInt8) s).getD 0 []) (numD ((splitB (58:UInt8) s).getD 1 []))).2.2.1),I ((addrOf ((splitB (58:UInt8) s).getD 0 []) (numD ((splitB (58:UInt8) s).getD 1 []))).2.2.2)]]) mixed ?_ ?_
  ·refine dG 1 10 511 (fun f w'=>∃ (b8':Nat) (Aq7':Option Addr) (cq7':Nat),Hz f [(0,Str s),(2,pB b1),(5,pB b8'),(19,.agg #[I ((addrOf ((splitB (58:UInt8) s).getD 0 []) (numD ((splitB (58:UInt8) s).getD 1 []))).1),.slice Aq7' (((addrOf ((splitB (58:UInt8) s).getD 0 []) (numD ((splitB (58:UInt8) s).getD 1 []))).2.1).length) cq7',Str ((addrOf ((splitB (58:UInt8) s).getD 0 []) (numD ((splitB (58:UInt8) s).getD 1 []))).2.2.1),I ((addrOf ((splitB (58:UInt8) s).getD 0 []) (numD ((splitB (58:UInt8) s).getD 1 []))).2.2.2)])]∧SH w w' [] [(Z14 b1),.own (Z6 b2) ((splitB (58:UInt8) s).length) c1 9 1 ((splitB (58:UInt8) s).map Str),.own Aq7' (((addrOf ((splitB (58:UInt8) s).getD 0 []) (numD ((splitB (58:UInt8) s).getD 1 []))).2.1).length) cq7' 3 1 (((addrOf ((splitB (58:UInt8) s).getD 0 []) (numD ((splitB (58:UInt8) s).getD 1 []))).2.1).map I),(Z14 b8')]) ?_ (fun D_4_0=>?_)
   ·rintro f w4 ⟨b8',Aq7',cq7',⟨g1,rfl⟩,hs5⟩
    refine aO 9 r0 (sG [I ((addrOf ((splitB (58:UInt8) s).getD 0 []) (numD ((splitB (58:UInt8) s).getD 1 []))).1),.slice Aq7' (((addrOf ((splitB (58:UInt8) s).getD 0 []) (numD ((splitB (58:UInt8) s).getD 1 []))).2.1).length) cq7',Str ((addrOf ((splitB (58:UInt8) s).getD 0 []) (numD ((splitB (58:UInt8) s).getD 1 []))).2.2.1),I ((addrOf ((splitB (58:UInt8) s).getD 0 []) (numD ((splitB (58:UInt8) s).getD 1 []))).2.2.2)] hs5 3 r0 ag43 (fun w5 hs6=>?_))
    refine nk (m1 hs6 0 r0) ?_
    refine ad (by kernel_rfl) ?_
    exact⟨b8',Aq7',cq7',(zR r0),hs6⟩
   refine dG 2 10 255 (fun f w'=>∃ (Aq7':Option Addr) (cq7':Nat),Hz f [(0,Str s),(2,pB b1),(19,.agg #[I ((addrOf ((splitB (58:UInt8) s).getD 0 []) (numD ((splitB (58:UInt8) s).getD 1 []))).1),.slice Aq7' (((addrOf ((splitB (58:UInt8) s).getD 0 []) (numD ((splitB (58:UInt8) s).getD 1 []))).2.1).length) cq7',Str ((addrOf ((splitB (58:UInt8) s).getD 0 []) (numD ((splitB (58:UInt8) s).getD 1 []))).2.2.1),I ((addrOf ((splitB (58:UInt8) s).getD 0 []) (numD ((splitB (58:UInt8) s).getD 1 []))).2.2.2)])]∧SH w w' [] [(Z14 b1),.own (Z6 b2) ((splitB (58:UInt8) s).length) c1 9 1 ((splitB (58:UInt8) s).map Str),.own Aq7' (((addrOf ((splitB (58:UInt8) s).getD 0 []) (numD ((splitB (58:UInt8) s).getD 1 []))).2.1).length) cq7' 3 1 (((addrOf ((splitB (58:UInt8) s).getD 0 []) (numD ((splitB (58:UInt8) s).getD 1 []))).2.1).map I)]) ?_ (fun D_4_1=>?_)
   ·rintro f w6 ⟨Aq7',cq7',⟨g2,rfl⟩,hs7⟩
    refine aO 8 r0 (al (v:=.agg #[I 0,ns,Str [],I 0]) (cs:=[I 0,ns,Str [],I 0]) hs7 tz43 r0 trivial r0 (fun b8' w7 hs8=>?_))
    exact nk (m1 hs8 0 r0) (alc D_4_0 ⟨b8',Aq7',cq7',(zR r0),hs8⟩)
   refine dG 2 10 383 (fun f w'=>∃ (b8':Nat),Hz f [(0,Str s),(2,pB b1),(5,pB b8'),(14,Str ((splitB (58:UInt8) s).getD 0 [])),(18,I (numD ((splitB (58:UInt8) s).getD 1 [])))]∧SH w w' [] [(Z14 b1),.own (Z6 b2) ((splitB (58:UInt8) s).length) c1 9 1 ((splitB (58:UInt8) s).map Str),(Z14 b8')]) ?_ (fun D_4_2=>?_)
   ·rintro f w8 ⟨b8',⟨g3,rfl⟩,hs9⟩
    refine aO 7 r0 (cL r0 (sL3Of (s:=(splitB (58:UInt8) s).getD 0 []) (n:=numD ((splitB (58:UInt8) s).getD 1 [])) (w:=_) (hs_n:=(by(have hs0:=splitB_getD 58 s 0; have hs1:=splitB_getD 58 s 1; have hs2:=addrOf_len ((splitB 58 s).getD 0 []) (numD ((splitB 58 s).getD 1 [])); omega)))) ?_)
    rintro _ w9 ⟨Aq7',cq7',rfl,hs10⟩
    replace hs10:=hs9.call0 hs10
    exact nk (m1 hs10 0 r0) (alc D_4_0 ⟨b8',Aq7',cq7',(zR r0),(hs10.pk [0,1,3,2] r0)⟩)
   refine dG 3 10 127 (fun f w'=>Hz f [(0,Str s),(2,pB b1),(14,Str ((splitB (58:UInt8) s).getD 0 [])),(18,I (numD ((splitB (58:UInt8) s).getD 1 [])))]∧SH w w' [] [(Z14 b1),.own (Z6 b2) ((splitB (58:UInt8) s).length) c1 9 1 ((splitB (58:UInt8) s).map Str)]) ?_ (fun D_4_3=>?_)
   ·rintro f w10 ⟨⟨g4,rfl⟩,hs11⟩
    refine aaL [7,8] (fa_cons ?_ (fa_one ?_))
    ·refine one_ r0 (cL r0 (sL3Of (s:=(splitB (58:UInt8) s).getD 0 []) (n:=numD ((splitB (58:UInt8) s).getD 1 [])) (w:=_) (hs_n:=(by(have hs0:=splitB_getD 58 s 0; have hs1:=splitB_getD 58 s 1; have hs2:=addrOf_len ((splitB 58 s).getD 0 []) (numD ((splitB 58 s).getD 1 [])); omega)))) ?_)
     rintro _ w11 ⟨Aq7',cq7',rfl,hs12⟩
     replace hs12:=hs11.call0 hs12
     exact nk (m1 hs12 0 r0) (alc D_4_1 ⟨Aq7',cq7',(zR r0),hs12⟩)
    ·refine one_ r0 (al (v:=.agg #[I 0,ns,Str [],I 0]) (cs:=[I 0,ns,Str [],I 0]) hs11 tz43 r0 trivial r0 (fun b8' w12 hs13=>?_))
     exact nk (m1 hs13 0 r0) (alc D_4_2 ⟨b8',(zR r0),hs13⟩)
   refine dG 3 10 319 (fun f w'=>∃ (b8':Nat),Hz f [(0,Str s),(2,pB b1),(5,pB b8'),(14,Str ((splitB (58:UInt8) s).getD 0 [])),(17,Str ((splitB (58:UInt8) s).getD 1 []))]∧SH w w' [] [(Z14 b1),.own (Z6 b2) ((splitB (58:UInt8) s).length) c1 9 1 ((splitB (58:UInt8) s).map Str),(Z14 b8')]) ?_ (fun D_4_4=>?_)
   ·rintro f w13 ⟨b8',⟨g5,rfl⟩,hs14⟩
    refine aO 6 r0 (cL r0 (sL2Number (s:=(splitB (58:UInt8) s).getD 1 []) (w:=_) (hs_n:=(by(have hs0:=splitB_getD 58 s 0; have hs1:=splitB_getD 58 s 1; have hs2:=addrOf_len ((splitB 58 s).getD 0 []) (numD ((splitB 58 s).getD 1 [])); omega)))) ?_)
    rintro _ w14 ⟨rfl,hs15⟩
    replace hs15:=hs14.call0 hs15
    exact nk (m1 hs15 0 r0) (alc D_4_2 ⟨b8',(zR r0),hs15⟩)
   refine dG 3 10 379 (fun f w'=>∃ (b8':Nat),Hz f [(0,Str s),(2,pB b1),(5,pB b8'),(13,.pointer (some ⟨b2,0*1,none⟩)),(18,I (numD ((splitB (58:UInt8) s).getD 1 [])))]∧SH w w' [] [(Z14 b1),.own (Z6 b2) ((splitB (58:UInt8) s).length) c1 9 1 ((splitB (58:UInt8) s).map Str),(Z14 b8')]) ?_ (fun D_4_5=>?_)
   ·rintro f w15 ⟨b8',⟨g6,rfl⟩,hs16⟩
    refine aO 2 r0 (qt r0 (ldo1n (g:=Str) (ys:=splitB (58:UInt8) s) (o:=0) [] hs16 1 r0 r0 (by(omega)) one9) ?_)
    exact nk (m1 hs16 0 r0) (alc D_4_2 ⟨b8',(zR r0),hs16⟩)
   refine dG 4 10 63 (fun f w'=>Hz f [(0,Str s),(2,pB b1),(14,Str ((splitB (58:UInt8) s).getD 0 [])),(17,Str ((splitB (58:UInt8) s).getD 1 []))]∧SH w w' [] [(Z14 b1),.own (Z6 b2) ((splitB (58:UInt8) s).length) c1 9 1 ((splitB (58:UInt8) s).map Str)]) ?_ (fun D_4_6=>?_)
   ·rintro f w16 ⟨⟨g7,rfl⟩,hs17⟩
    refine aaL [6,8] (fa_cons ?_ (fa_one ?_))
    ·refine one_ r0 (cL r0 (sL2Number (s:=(splitB (58:UInt8) s).getD 1 []) (w:=_) (hs_n:=(by(have hs0:=splitB_getD 58 s 0; have hs1:=splitB_getD 58 s 1; have hs2:=addrOf_len ((splitB 58 s).getD 0 []) (numD ((splitB 58 s).getD 1 [])); omega)))) ?_)
     rintro _ w17 ⟨rfl,hs18⟩
     replace hs18:=hs17.call0 hs18
     exact nk (m1 hs18 0 r0) (alc D_4_3 ⟨(zR r0),hs18⟩)
    ·refine one_ r0 (al (v:=.agg #[I 0,ns,Str [],I 0]) (cs:=[I 0,ns,Str [],I 0]) hs17 tz43 r0 trivial r0 (fun b8' w18 hs19=>?_))
     exact nk (m1 hs19 0 r0) (alc D_4_4 ⟨b8',(zR r0),hs19⟩)
   refine dG 4 10 287 (fun f w'=>∃ (b8':Nat),Hz f [(0,Str s),(2,pB b1),(5,pB b8'),(14,Str ((splitB (58:UInt8) s).getD 0 [])),(16,.pointer (some ⟨b2,1*1,none⟩))]∧SH w w' [] [(Z14 b1),.own (Z6 b2) ((splitB (58:UInt8) s).length) c1 9 1 ((splitB (58:UInt8) s).map Str),(Z14 b8')]) ?_ (fun D_4_7=>?_)
   ·rintro f w19 ⟨b8',⟨g8,rfl⟩,hs20⟩
    refine aO 5 r0 (qt r0 (ldo1n (g:=Str) (ys:=splitB (58:UInt8) s) (o:=1) [] hs20 1 r0 r0 (by(omega)) one9) ?_)
    exact nk (m1 hs20 0 r0) (alc D_4_4 ⟨b8',(zR r0),hs20⟩)
   refine dG 4 10 123 (fun f w'=>Hz f [(0,Str s),(2,pB b1),(13,.pointer (some ⟨b2,0*1,none⟩)),(18,I (numD ((splitB (58:UInt8) s).getD 1 [])))]∧SH w w' [] [(Z14 b1),.own (Z6 b2) ((splitB (58:UInt8) s).length) c1 9 1 ((splitB (58:UInt8) s).map Str)]) ?_ (fun D_4_8=>?_)
   ·rintro f w20 ⟨⟨g9,rfl⟩,hs21⟩
    refine aaL [2,8] (fa_cons ?_ (fa_one ?_))
    ·refine one_ r0 (qt r0 (ldo1n (g:=Str) (ys:=splitB (58:UInt8) s) (o:=0) [] hs21 1 r0 r0 (by(omega)) one9) ?_)
     exact nk (m1 hs21 0 r0) (alc D_4_3 ⟨(zR r0),hs21⟩)
    ·refine one_ r0 (al (v:=.agg #[I 0,ns,Str [],I 0]) (cs:=[I 0,ns,Str [],I 0]) hs21 tz43 r0 trivial r0 (fun b8' w21 hs22=>?_))
     exact nk (m1 hs22 0 r0) (alc D_4_5 ⟨b8',(zR r0),hs22⟩)
   refine dG 4 10 315 (fun f w'=>∃ (b8':Nat),Hz f [(0,Str s),(2,pB b1),(5,pB b8'),(13,.pointer (some ⟨b2,0*1,none⟩)),(17,Str ((splitB (58:UInt8) s).getD 1 []))]∧SH w w' [] [(Z14 b1),.own (Z6 b2) ((splitB (58:UInt8) s).length) c1 9 1 ((splitB (58:UInt8) s).map Str),(Z14 b8')]) ?_ (fun D_4_9=>?_)
   ·rintro f w22 ⟨b8',⟨g10,rfl⟩,hs23⟩
    refine aaL [2,6] (fa_cons ?_ (fa_one ?_))
    ·refine one_ r0 (qt r0 (ldo1n (g:=Str) (ys:=splitB (58:UInt8) s) (o:=0) [] hs23 1 r0 r0 (by(omega)) one9) ?_)
     exact nk (m1 hs23 0 r0) (alc D_4_4 ⟨b8',(zR r0),hs23⟩)
    ·refine one_ r0 (cL r0 (sL2Number (s:=(splitB (58:UInt8) s).getD 1 []) (w:=_) (hs_n:=(by(have hs0:=splitB_getD 58 s 0; have hs1:=splitB_getD 58 s 1; have hs2:=addrOf_len ((splitB 58 s).getD 0 []) (numD ((splitB 58 s).getD 1 [])); omega)))) ?_)
     rintro _ w23 ⟨rfl,hs24⟩
     replace hs24:=hs23.call0 hs24
     exact nk (m1 hs24 0 r0) (alc D_4_5 ⟨b8',(zR r0),hs24⟩)
   refine dG 5 10 31 (fun f w'=>Hz f [(0,Str s),(2,pB b1),(14,Str ((splitB (58:UInt8) s).getD 0 [])),(16,.pointer (some ⟨b2,1*1,none⟩))]∧SH w w' [] [(Z14 b1),.own (Z6 b2) ((splitB (58:UInt8) s).length) c1 9 1 ((splitB (58:UInt8) s).map Str)]) ?_ (fun D_4_10=>?_)
   ·rintro f w24 ⟨⟨g11,rfl⟩,hs25⟩
    refine aaL [5,8] (fa_cons ?_ (fa_one ?_))
    ·refine one_ r0 (qt r0 (ldo1n (g:=Str) (ys:=splitB (58:UInt8) s) (o:=1) [] hs25 1 r0 r0 (by(omega)) one9) ?_)
     exact nk (m1 hs25 0 r0) (alc D_4_6 ⟨(zR r0),hs25⟩)
    ·refine one_ r0 (al (v:=.agg #[I 0,ns,Str [],I 0]) (cs:=[I 0,ns,Str [],I 0]) hs25 tz43 r0 trivial r0 (fun b8' w25 hs26=>?_))
     exact nk (m1 hs26 0 r0) (alc D_4_7 ⟨b8',(zR r0),hs26⟩)
   refine dG 5 10 59 (fun f w'=>Hz f [(0,Str s),(2,pB b1),(13,.pointer (some ⟨b2,0*1,none⟩)),(17,Str ((splitB (58:UInt8) s).getD 1 []))]∧SH w w' [] [(Z14 b1),.own (Z6 b2) ((splitB (58:UInt8) s).length) c1 9 1 ((splitB (58:UInt8) s).map Str)]) ?_ (fun D_4_11=>?_)
   ·rintro f w26 ⟨⟨g12,rfl⟩,hs27⟩
    refine aaL [2,6,8] (fa_cons ?_ (fa_cons ?_ (fa_one ?_)))
    ·refine one_ r0 (qt r0 (ldo1n (g:=Str) (ys:=splitB (58:UInt8) s) (o:=0) [] hs27 1 r0 r0 (by(omega)) one9) ?_)
     exact nk (m1 hs27 0 r0) (alc D_4_6 ⟨(zR r0),hs27⟩)
    ·refine one_ r0 (cL r0 (sL2Number (s:=(splitB (58:UInt8) s).getD 1 []) (w:=_) (hs_n:=(by(have hs0:=splitB_getD 58 s 0; have hs1:=splitB_getD 58 s 1; have hs2:=addrOf_len ((splitB 58 s).getD 0 []) (numD ((splitB 58 s).getD 1 [])); omega)))) ?_)
     rintro _ w27 ⟨rfl,hs28⟩
     replace hs28:=hs27.call0 hs28
     exact nk (m1 hs28 0 r0) (alc D_4_8 ⟨(zR r0),hs28⟩)
    ·refine one_ r0 (al (v:=.agg #[I 0,ns,Str [],I 0]) (cs:=[I 0,ns,Str [],I 0]) hs27 tz43 r0 trivial r0 (fun b8' w28 hs29=>?_))
     exact nk (m1 hs29 0 r0) (alc D_4_9 ⟨b8',(zR r0),hs29⟩)
   refine dG 5 10 283 (fun f w'=>∃ (b8':Nat),Hz f [(0,Str s),(2,pB b1),(5,pB b8'),(13,.pointer (some ⟨b2,0*1,none⟩)),(16,.pointer (some ⟨b2,1*1,none⟩))]∧SH w w' [] [(Z14 b1),.own (Z6 b2) ((splitB (58:UInt8) s).length) c1 9 1 ((splitB (58:UInt8) s).map Str),(Z14 b8')]) ?_ (fun D_4_12=>?_)
   ·rintro f w29 ⟨b8',⟨g13,rfl⟩,hs30⟩
    refine aaL [2,5] (fa_cons ?_ (fa_one ?_))
    ·refine one_ r0 (qt r0 (ldo1n (g:=Str) (ys:=splitB (58:UInt8) s) (o:=0) [] hs30 1 r0 r0 (by(omega)) one9) ?_)
     exact nk (m1 hs30 0 r0) (alc D_4_7 ⟨b8',(zR r0),hs30⟩)
    ·refine one_ r0 (qt r0 (ldo1n (g:=Str) (ys:=splitB (58:UInt8) s) (o:=1) [] hs30 1 r0 r0 (by(omega)) one9) ?_)
     exact nk (m1 hs30 0 r0) (alc D_4_9 ⟨b8',(zR r0),hs30⟩)
   refine dG 6 10 27 (fun f w'=>Hz f [(0,Str s),(2,pB b1),(13,.pointer (some ⟨b2,0*1,none⟩)),(16,.pointer (some ⟨b2,1*1,none⟩))]∧SH w w' [] [(Z14 b1),.own (Z6 b2) ((splitB (58:UInt8) s).length) c1 9 1 ((splitB (58:UInt8) s).map Str)]) ?_ (fun D_4_13=>?_)
   ·rintro f w30 ⟨⟨g14,rfl⟩,hs31⟩
    refine aaL [2,5,8] (fa_cons ?_ (fa_cons ?_ (fa_one ?_)))
    ·refine one_ r0 (qt r0 (ldo1n (g:=Str) (ys:=splitB (58:UInt8) s) (o:=0) [] hs31 1 r0 r0 (by(omega)) one9) ?_)
     exact nk (m1 hs31 0 r0) (alc D_4_10 ⟨(zR r0),hs31⟩)
    ·refine one_ r0 (qt r0 (ldo1n (g:=Str) (ys:=splitB (58:UInt8) s) (o:=1) [] hs31 1 r0 r0 (by(omega)) one9) ?_)
     exact nk (m1 hs31 0 r0) (alc D_4_11 ⟨(zR r0),hs31⟩)
    ·refine one_ r0 (al (v:=.agg #[I 0,ns,Str [],I 0]) (cs:=[I 0,ns,Str [],I 0]) hs31 tz43 r0 trivial r0 (fun b8' w31 hs32=>?_))
     exact nk (m1 hs32 0 r0) (alc D_4_12 ⟨b8',(zR r0),hs32⟩)
   have hs33:=hs2.drew
   refine tk (fuel:=6) (is:=[0,1,3,4]) (.cons r0 (.cons r0 (.cons r0 (.cons r0 (.nil))))) (by kernel_rfl) (by kernel_rfl) (m1 hs33 0 r0) (yA r0 (mv (v:=sb b2 ((splitB (58:UInt8) s).length) c1) r0) (yA r0 (ixo 0 sl147 r0 r0 (by(omega))) (yA r0 (mv (v:=sb b2 ((splitB (58:UInt8) s).length) c1) r0) (yA r0 (ixo 1 sl147 r0 r0 (by(omega))) (.nil ?_)))))
   exact alc D_4_13 ⟨(zR r0),hs33⟩
  rintro f w32 ⟨b8',Aq7',cq7',⟨g15,rfl⟩,hs34⟩
  refine nN (sq (sr (qt r0 (lG [I ((addrOf ((splitB (58:UInt8) s).getD 0 []) (numD ((splitB (58:UInt8) s).getD 1 []))).1),.slice Aq7' (((addrOf ((splitB (58:UInt8) s).getD 0 []) (numD ((splitB (58:UInt8) s).getD 1 []))).2.1).length) cq7',Str ((addrOf ((splitB (58:UInt8) s).getD 0 []) (numD ((splitB (58:UInt8) s).getD 1 []))).2.2.1),I ((addrOf ((splitB (58:UInt8) s).getD 0 []) (numD ((splitB (58:UInt8) s).getD 1 []))).2.2.2)] hs34 3 r0 ag43) (cL r0 (sAddressValid (ak:=(addrOf ((splitB (58:UInt8) s).getD 0 []) (numD ((splitB (58:UInt8) s).getD 1 []))).1) (Aaq:=Aq7') (caq:=cq7') (aq:=(addrOf ((splitB (58:UInt8) s).getD 0 []) (numD ((splitB (58:UInt8) s).getD 1 []))).2.1) (an:=(addrOf ((splitB (58:UInt8) s).getD 0 []) (numD ((splitB (58:UInt8) s).getD 1 []))).2.2.1) (apt:=(addrOf ((splitB (58:UInt8) s).getD 0 []) (numD ((splitB (58:UInt8) s).getD 1 []))).2.2.2) (w:=_) (haq:=(hs34.sl0 2 r0)) (han_n:=(by(have hs0:=splitB_getD 58 s 0; have hs1:=splitB_getD 58 s 1; have hs2:=addrOf_len ((splitB 58 s).getD 0 []) (numD ((splitB 58 s).getD 1 [])); omega)))) ?_))))
  rintro _ w33 ⟨rfl,hs35⟩
  replace hs35:=hs34.call0 hs35
  refine qt r0 (nt (b:=addrOk ((addrOf ((splitB (58:UInt8) s).getD 0 []) (numD ((splitB (58:UInt8) s).getD 1 []))).1) ((addrOf ((splitB (58:UInt8) s).getD 0 []) (numD ((splitB (58:UInt8) s).getD 1 []))).2.1) ((addrOf ((splitB (58:UInt8) s).getD 0 []) (numD ((splitB (58:UInt8) s).getD 1 []))).2.2.1) ((addrOf ((splitB (58:UInt8) s).getD 0 []) (numD ((splitB (58:UInt8) s).getD 1 []))).2.2.2)) r0) (tm (.bool (!(addrOk ((addrOf ((splitB (58:UInt8) s).getD 0 []) (numD ((splitB (58:UInt8) s).getD 1 []))).1) ((addrOf ((splitB (58:UInt8) s).getD 0 []) (numD ((splitB (58:UInt8) s).getD 1 []))).2.1) ((addrOf ((splitB (58:UInt8) s).getD 0 []) (numD ((splitB (58:UInt8) s).getD 1 []))).2.2.1) ((addrOf ((splitB (58:UInt8) s).getD 0 []) (numD ((splitB (58:UInt8) s).getD 1 []))).2.2.2)))) r0 ?_)
  refine spl (b:=!(addrOk ((addrOf ((splitB (58:UInt8) s).getD 0 []) (numD ((splitB (58:UInt8) s).getD 1 []))).1) ((addrOf ((splitB (58:UInt8) s).getD 0 []) (numD ((splitB (58:UInt8) s).getD 1 []))).2.1) ((addrOf ((splitB (58:UInt8) s).getD 0 []) (numD ((splitB (58:UInt8) s).getD 1 []))).2.2.1) ((addrOf ((splitB (58:UInt8) s).getD 0 []) (numD ((splitB (58:UInt8) s).getD 1 []))).2.2.2))) 23 r0 (fun h2=>?_) (fun h2=>?_)
  ·have h3:(addrOk ((addrOf ((splitB (58:UInt8) s).getD 0 []) (numD ((splitB (58:UInt8) s).getD 1 []))).1) ((addrOf ((splitB (58:UInt8) s).getD 0 []) (numD ((splitB (58:UInt8) s).getD 1 []))).2.1) ((addrOf ((splitB (58:UInt8) s).getD 0 []) (numD ((splitB (58:UInt8) s).getD 1 []))).2.2.1) ((addrOf ((splitB (58:UInt8) s).getD 0 []) (numD ((splitB (58:UInt8) s).getD 1 []))).2.2.2))=false:=by simpa using h2
   refine gt5 r0 (gt5 r0 (gt5 r0 (gt5 r0 (qt r0 (pt (v:=.bool true) r0 r0) (nn (cdt r0 ?_))))))
   refine sr (qt r0 (bdv (v:=.agg #[I 0,ns,Str [],I 0]) [] r0 (fun _=>by kernel_rfl)) (sG [I 0,ns,Str [],I 0] hs35 0 r0 ag43 (fun w34 hs36=>?_)))
   refine tA (.bool false) r0 (nn ?_)
   have hs37:=hs36.pq [3] r0
   refine rt (tR ?_)
   refine fret (v:=.tuple #[.agg #[I 0,ns,Str [],I 0],.bool false]) (resC hs37 0 r0 r0 ag43 r0 (.tmp .nil)) r0 ?_
   have hs38:=hs37.nl [.own none (([]:List Int).length) 0 3 1 (([]:List Int).map I)] r0
   have e8:addrFrom s=((0,([]:List Int),[],0),false):=by exact addr_s1 ‹_›
   have e9:=pj11 e8
   have e10:=pj121 e8
   have e11:=congrArg List.length e10
   have e12:=pj1221 e8
   have e13:=pj1222 e8
   have e14:=pj2 e8
   exact⟨none,0,(tup2 (aggv (lc (congrArg (Value.int .i64) e9) (lc (slv r0 e11 r0) (lc (congrArg (Str) e12) (lc (congrArg (Value.int .i64) e13) r0))))) (congrArg (Value.bool) e14)),((hs38.pq [1] r0).cast (lc (own_eq (g:=I) r0 e11 r0 e10) r0))⟩
  ·have h4:(addrOk ((addrOf ((splitB (58:UInt8) s).getD 0 []) (numD ((splitB (58:UInt8) s).getD 1 []))).1) ((addrOf ((splitB (58:UInt8) s).getD 0 []) (numD ((splitB (58:UInt8) s).getD 1 []))).2.1) ((addrOf ((splitB (58:UInt8) s).getD 0 []) (numD ((splitB (58:UInt8) s).getD 1 []))).2.2.1) ((addrOf ((splitB (58:UInt8) s).getD 0 []) (numD ((splitB (58:UInt8) s).getD 1 []))).2.2.2))=true:=by simpa using h2
   refine q ⟨_,rfl,rfl⟩ r0 r0 (lG [I ((addrOf ((splitB (58:UInt8) s).getD 0 []) (numD ((splitB (58:UInt8) s).getD 1 []))).1),.slice Aq7' (((addrOf ((splitB (58:UInt8) s).getD 0 []) (numD ((splitB (58:UInt8) s).getD 1 []))).2.1).length) cq7',Str ((addrOf ((splitB (58:UInt8) s).getD 0 []) (numD ((splitB (58:UInt8) s).getD 1 []))).2.2.1),I ((addrOf ((splitB (58:UInt8) s).getD 0 []) (numD ((splitB (58:UInt8) s).getD 1 []))).2.2.2)] hs35 3 r0 ag43) (cl ⟨_,rfl,rfl⟩ r0 (sAddressText (ak:=(addrOf ((splitB (58:UInt8) s).getD 0 []) (numD ((splitB (58:UInt8) s).getD 1 []))).1) (Aaq:=Aq7') (caq:=cq7') (aq:=(addrOf ((splitB (58:UInt8) s).getD 0 []) (numD ((splitB (58:UInt8) s).getD 1 []))).2.1) (an:=(addrOf ((splitB (58:UInt8) s).getD 0 []) (numD ((splitB (58:UInt8) s).getD 1 []))).2.2.1) (apt:=(addrOf ((splitB (58:UInt8) s).getD 0 []) (numD ((splitB (58:UInt8) s).getD 1 []))).2.2.2) (w:=_) (haq:=(hs35.sl0 2 r0)) (han_n:=(by(have hs0:=splitB_getD 58 s 0; have hs1:=splitB_getD 58 s 1; have hs2:=addrOf_len ((splitB 58 s).getD 0 []) (numD ((splitB 58 s).getD 1 [])); omega)))) ?_)
   rintro _ w35 ⟨rfl,hs39⟩
   replace hs39:=hs35.call0 hs39
   refine q ⟨_,rfl,rfl⟩ r0 r0 (mv (v:=Str s) r0) (q ⟨_,rfl,rfl⟩ r0 r0 (nes (l:=addrT ((addrOf ((splitB (58:UInt8) s).getD 0 []) (numD ((splitB (58:UInt8) s).getD 1 []))).1) ((addrOf ((splitB (58:UInt8) s).getD 0 []) (numD ((splitB (58:UInt8) s).getD 1 []))).2.1) ((addrOf ((splitB (58:UInt8) s).getD 0 []) (numD ((splitB (58:UInt8) s).getD 1 []))).2.2.1) ((addrOf ((splitB (58:UInt8) s).getD 0 []) (numD ((splitB (58:UInt8) s).getD 1 []))).2.2.2)) (m:=s) r0 r0) (qt r0 (pf (v:=.bool (decide (addrT ((addrOf ((splitB (58:UInt8) s).getD 0 []) (numD ((splitB (58:UInt8) s).getD 1 []))).1) ((addrOf ((splitB (58:UInt8) s).getD 0 []) (numD ((splitB (58:UInt8) s).getD 1 []))).2.1) ((addrOf ((splitB (58:UInt8) s).getD 0 []) (numD ((splitB (58:UInt8) s).getD 1 []))).2.2.1) ((addrOf ((splitB (58:UInt8) s).getD 0 []) (numD ((splitB (58:UInt8) s).getD 1 []))).2.2.2)≠s))) r0 r0) (nn ?_)))
   refine cdd (p:=addrT ((addrOf ((splitB (58:UInt8) s).getD 0 []) (numD ((splitB (58:UInt8) s).getD 1 []))).1) ((addrOf ((splitB (58:UInt8) s).getD 0 []) (numD ((splitB (58:UInt8) s).getD 1 []))).2.1) ((addrOf ((splitB (58:UInt8) s).getD 0 []) (numD ((splitB (58:UInt8) s).getD 1 []))).2.2.1) ((addrOf ((splitB (58:UInt8) s).getD 0 []) (numD ((splitB (58:UInt8) s).getD 1 []))).2.2.2)≠s) r0 (fun h5=>?_) (fun h5=>?_)
   ·refine sr (qt r0 (bdv (v:=.agg #[I 0,ns,Str [],I 0]) [] r0 (fun _=>by kernel_rfl)) (sG [I 0,ns,Str [],I 0] hs39 0 r0 ag43 (fun w36 hs40=>?_)))
    refine tA (.bool false) r0 (nn ?_)
    have hs41:=hs40.pq [3] r0
    refine rt (tR ?_)
    refine fret (v:=.tuple #[.agg #[I 0,ns,Str [],I 0],.bool false]) (resC hs41 0 r0 r0 ag43 r0 (.tmp .nil)) r0 ?_
    have hs42:=hs41.nl [.own none (([]:List Int).length) 0 3 1 (([]:List Int).map I)] r0
    have e15:addrFrom s=((0,([]:List Int),[],0),false):=by exact addr_s2 ‹_›
    have e16:=pj11 e15
    have e17:=pj121 e15
    have e18:=congrArg List.length e17
    have e19:=pj1221 e15
    have e20:=pj1222 e15
    have e21:=pj2 e15
    exact⟨none,0,(tup2 (aggv (lc (congrArg (Value.int .i64) e16) (lc (slv r0 e18 r0) (lc (congrArg (Str) e19) (lc (congrArg (Value.int .i64) e20) r0))))) (congrArg (Value.bool) e21)),((hs42.pq [1] r0).cast (lc (own_eq (g:=I) r0 e18 r0 e17) r0))⟩
   ·refine sk (nN (sr (qt r0 (lG [I ((addrOf ((splitB (58:UInt8) s).getD 0 []) (numD ((splitB (58:UInt8) s).getD 1 []))).1),.slice Aq7' (((addrOf ((splitB (58:UInt8) s).getD 0 []) (numD ((splitB (58:UInt8) s).getD 1 []))).2.1).length) cq7',Str ((addrOf ((splitB (58:UInt8) s).getD 0 []) (numD ((splitB (58:UInt8) s).getD 1 []))).2.2.1),I ((addrOf ((splitB (58:UInt8) s).getD 0 []) (numD ((splitB (58:UInt8) s).getD 1 []))).2.2.2)] hs39 3 r0 ag43) (sG [I ((addrOf ((splitB (58:UInt8) s).getD 0 []) (numD ((splitB (58:UInt8) s).getD 1 []))).1),.slice Aq7' (((addrOf ((splitB (58:UInt8) s).getD 0 []) (numD ((splitB (58:UInt8) s).getD 1 []))).2.1).length) cq7',Str ((addrOf ((splitB (58:UInt8) s).getD 0 []) (numD ((splitB (58:UInt8) s).getD 1 []))).2.2.1),I ((addrOf ((splitB (58:UInt8) s).getD 0 []) (numD ((splitB (58:UInt8) s).getD 1 []))).2.2.2)] hs39 0 r0 ag43 (fun w37 hs43=>?_)))))
    refine tA (.bool true) r0 (nn ?_)
    have hs44:=hs43.pq [1,3] r0
    refine rt (fret (v:=.tuple #[.agg #[I ((addrOf ((splitB (58:UInt8) s).getD 0 []) (numD ((splitB (58:UInt8) s).getD 1 []))).1),.slice Aq7' (((addrOf ((splitB (58:UInt8) s).getD 0 []) (numD ((splitB (58:UInt8) s).getD 1 []))).2.1).length) cq7',Str ((addrOf ((splitB (58:UInt8) s).getD 0 []) (numD ((splitB (58:UInt8) s).getD 1 []))).2.2.1),I ((addrOf ((splitB (58:UInt8) s).getD 0 []) (numD ((splitB (58:UInt8) s).getD 1 []))).2.2.2)],.bool true]) (resC hs44 1 r0 r0 ag43 r0 (.tmp .nil)) r0 ?_)
    have e22:addrFrom s=(((addrOf ((splitB (58:UInt8) s).getD 0 []) (numD ((splitB (58:UInt8) s).getD 1 []))).1,(addrOf ((splitB (58:UInt8) s).getD 0 []) (numD ((splitB (58:UInt8) s).getD 1 []))).2.1,(addrOf ((splitB (58:UInt8) s).getD 0 []) (numD ((splitB (58:UInt8) s).getD 1 []))).2.2.1,(addrOf ((splitB (58:UInt8) s).getD 0 []) (numD ((splitB (58:UInt8) s).getD 1 []))).2.2.2),true):=by exact addr_sy ‹_› ‹_› ‹_›
    have e23:=pj11 e22
    have e24:=pj121 e22
    have e25:=congrArg List.length e24
    have e26:=pj1221 e22
    have e27:=pj1222 e22
    have e28:=pj2 e22
    exact⟨Aq7',cq7',(tup2 (aggv (lc (congrArg (Value.int .i64) e23) (lc (slv r0 e25 r0) (lc (congrArg (Str) e26) (lc (congrArg (Value.int .i64) e27) r0))))) (congrArg (Value.bool) e28)),((hs44.pq [0] r0).cast (lc (own_eq (g:=I) r0 e25 r0 e24) r0))⟩
theorem slIndexFuncL (p:Lg→Bool) {Azs:Option Addr} {czs:Nat} (zs:List (List UInt8×List UInt8)) (kf:FuncId) (w:World) (hzs:Sl w [] 2 Azs zs.length czs (zs.flatMap gLogin)) (hzs_e: ∀ u∈zs,u.1.length≤9223372036854775807∧u.2.length≤9223372036854775807) (hf: ∀ (x:Lg) (w:World) (_:x.1.length≤9223372036854775807∧x.2.length≤9223372036854775807),Does Tryz.prog kf [.agg #[Str x.1,Str x.2]] w (fun v w'=>v=.bool (p x)∧SH w w' [] [])):Does Tryz.prog 134 [.slice Azs zs.length czs,.func (.func kf) #[] #[]] w (fun v w'=>v=.int .i64 (idxP p zs)∧SH w w' [] []):=by
 refine fE (N:=19) Tryz.func134 r0 (by kernel_rfl) r0 ?_
 have hs0:=SH.refl w []
 have hzs_m:zs.length≤9223372036854775807:=Nat.le_trans hzs.cap hzs.capMax
 refine sr (tA (I 0) r0 (nn (sq (sr ?_))))
 refine tm (.slice Azs zs.length czs) r0 (qt r0 (lnA (n:=zs.length) sl27 r0) (tm (I 0) r0 (nn (bl (lp (σ:=Nat) (fun(k:Nat) f w'=>Has f [(0,.slice Azs zs.length czs),(1,.func (.func kf) #[] #[]),(7,I (zs.length:Int)),(8,I (k:Int))]∧(k≤zs.length)∧(∀ j,j<k→p (zs.getD j login0)=false)∧SH w w' [] []) (fun k=>zs.length-k) 0 ⟨(hA r0),(by simp),(by intro j hj; omega),hs0⟩ ?_)))))
 rintro k f w1 ⟨hf,hk,hn,hs1⟩
 obtain ⟨g1,rfl⟩:=has_upd hf
 clear hf
 refine sr (qt r0 (lss (k:=.i64) (a:=(k:Int)) (b:=(zs.length:Int)) r0 r0) (nn (sq ?_)))
 refine cdd (p:=(k:Int)<(zs.length:Int)) r0 (fun h1=>?_) (fun h1=>?_)
 ·refine sk (nN (sq (bl (sr (tm (I (k:Int)) r0 (tA (I (k:Int)) r0 ?_))))))
  refine nx (tm (.func (.func kf) #[] #[]) r0 (tm (.slice Azs zs.length czs) r0 (tm (I (k:Int)) r0 (ixwf (g:=gLogin) (zs:=zs) (fun _=>rfl) login0 k sl27 r0 r0 hzs (by omega) (by omega) trivial r0 (fun a1 ha1=>?_)))))
  refine qt r0 (ldag (us:=[Str ((zs.getD k login0).1),Str ((zs.getD k login0).2)]) hs1 ha1 (fun _ h=>h) r0 r0 ag51) (clv (k:=kf) trivial r0 r0 (hf (zs.getD k login0) _ (hzs_e _ (getD_mem' (by omega)))) ?_)
  rintro _ w2 ⟨rfl,hs2⟩
  replace hs2:=hs1.call0 hs2
  refine nn ?_
  refine cd (b:=p (zs.getD k login0)) r0 (fun h2=>?_) (fun h2=>?_)
  ·refine sr (tm (I (k:Int)) r0 (tA (I (k:Int)) r0 (nn ?_)))
   refine rt (bR (tR (tR (bR (tR ?_)))))
   refine fT (I (k:Int)) r0 ?_
   have e1:(k:Int)=idxP p zs:=by exact idxP_eq (d:=login0) (by omega) hn h2
   exact⟨(congrArg (Value.int .i64) e1),hs2⟩
  ·refine sk (bN (nN (rg (qt r0 (add (a:=(k:Int)) (b:=1) r0 r0 (by exact⟨by omega,by omega⟩)) (tm (I ((k:Int)+1)) r0 (nn ?_))))))
   refine⟨(k+1),⟨(hA r0),(by omega),(by intro j hj; rcases Nat.lt_succ_iff_lt_or_eq.1 hj with h | h; exact hn j h; subst h; exact h2),hs2⟩,?_⟩
   omega
 ·refine ex (tE (tE (bE ?_)))
  refine nN (sr (tA (I (-1)) r0 (nn (rt (fT (I (-1)) r0 ?_)))))
  have e2:(-1)=idxP p zs:=by exact idxP_none (d:=login0) (fun j hj=>hn j (by omega))
  exact⟨(congrArg (Value.int .i64) e2),hs1⟩
theorem slContainsFuncL (p:Lg→Bool) {Azs:Option Addr} {czs:Nat} (zs:List (List UInt8×List UInt8)) (kf:FuncId) (w:World) (hzs:Sl w [] 2 Azs zs.length czs (zs.flatMap gLogin)) (hzs_e: ∀ u∈zs,u.1.length≤9223372036854775807∧u.2.length≤9223372036854775807) (hf: ∀ (x:Lg) (w:World) (_:x.1.length≤9223372036854775807∧x.2.length≤9223372036854775807),Does Tryz.prog kf [.agg #[Str x.1,Str x.2]] w (fun v w'=>v=.bool (p x)∧SH w w' [] [])):Does Tryz.prog 77 [.slice Azs zs.length czs,.func (.func kf) #[] #[]] w (fun v w'=>v=.bool (zs.any p)∧SH w w' [] []):=by
 refine fE (N:=9) Tryz.func77 r0 (by kernel_rfl) r0 ?_
 have hs0:=SH.refl w []
 have hzs_m:zs.length≤9223372036854775807:=Nat.le_trans hzs.cap hzs.capMax
 refine sr (tA (.bool false) r0 (nx (tm (.slice Azs zs.length czs) r0 ?_)))
 refine tm (.func (.func kf) #[] #[]) r0 (cL r0 (slIndexFuncL (p:=p) (Azs:=Azs) (czs:=czs) (zs:=zs) (kf:=kf) (w:=_) (hzs:=(hzs.up0 hs0)) (hzs_e:=hzs_e) (hf:=hf)) ?_)
 rintro _ w1 ⟨rfl,hs1⟩
 replace hs1:=hs0.call0 hs1
 refine qt r0 (geq (k:=.i64) (a:=idxP p zs) (b:=0) r0 r0) (tA (.bool (decide ((0:Int)≤(idxP p zs)))) r0 (nn (rt (fT (.bool (decide ((0:Int)≤(idxP p zs)))) r0 ?_))))
 have e1:(decide ((0:Int)≤(idxP p zs)))=zs.any p:=by exact idxP_any p zs
 exact⟨(congrArg (Value.bool) e1),hs1⟩
theorem iTV1 (m:Int) (w:World):Does Tryz.prog 76 [I m] w (fun v w'=>v=.bool (decide (m≠0∧m≠2))∧SH w w' [] []):=by
 refine fE (N:=9) Tryz.func76 r0 (by kernel_rfl) r0 ?_
 have hs0:=SH.refl w []
 refine sr (tA (.bool false) r0 (nx (tm (I m) r0 ?_)))
 refine qt r0 (nei (k:=.i64) (a:=m) (b:=0) r0 r0) (tm (.bool (decide (m≠0))) r0 ?_)
 refine spd (p:=m≠0) 5 r0 (fun h1=>?_) (fun h1=>?_)
 ·refine q ⟨_,rfl,rfl⟩ r0 r0 (mv (v:=I m) r0) (q ⟨_,rfl,rfl⟩ r0 r0 (nei (k:=.i64) (a:=m) (b:=2) r0 r0) (qt r0 (pt (v:=.bool (decide (m≠2))) r0 r0) (tA (.bool (decide (m≠2))) r0 (nn (rt (fT (.bool (decide (m≠2))) r0 ?_))))))
  have e1:(decide (m≠2))=(decide (m≠0∧m≠2)):=by simp[h1]
  exact⟨(congrArg (Value.bool) e1),hs0⟩
 ·refine gf5 r0 (gf5 r0 (qt r0 (pf (v:=.bool false) r0 r0) (tA (.bool false) r0 (nn (rt (fT (.bool false) r0 ?_))))))
  have e2:false=(decide (m≠0∧m≠2)):=by simp[h1]
  exact⟨(congrArg (Value.bool) e2),hs0⟩
theorem iTV2 (lu:List UInt8) (lw:List UInt8) (w:World) (hlu_n:lu.length≤9223372036854775807) (hlw_n:lw.length≤9223372036854775807):Does Tryz.prog 78 [.agg #[Str lu,Str lw]] w (fun v w'=>v=.bool (!loginOk lu lw)∧SH w w' [] []):=by
 refine fE (N:=6) Tryz.func78 r0 (by kernel_rfl) r0 ?_
 have hs0:=SH.refl w []
 refine sr (bx (v:=.agg #[Str lu,Str lw]) (cs:=[Str lu,Str lw]) hs0 r0 r0 trivial r0 (fun b1 w1 hs1=>?_))
 refine tA (.bool false) r0 (nx (qt r0 (lG [Str lu,Str lw] hs1 0 r0 ag51) (cL r0 (iIsLogin (lu:=lu) (lw:=lw) (w:=_) (hlu_n:=(by omega)) (hlw_n:=(by omega))) ?_)))
 rintro _ w2 ⟨rfl,hs2⟩
 replace hs2:=hs1.call0 hs2
 refine qt r0 (nt (b:=loginOk lu lw) r0) (tA (.bool (!(loginOk lu lw))) r0 (nn (rt (fT (.bool (!(loginOk lu lw))) r0 ?_))))
 have e1:(!(loginOk lu lw))=!loginOk lu lw:=by rfl
 exact⟨(congrArg (Value.bool) e1),(hs2.pk [] r0)⟩

end Go.Proofs.YtjehmnojfpedjaaGreatDoor
