/-
  Part of the proofs over this seat: what each function of the program computes, function by function (the text is written by a program of this hand-in's own).
  Conditions: each theorem states its own.
-/
import Derived.Test.YtjehmnojfpedjaaGreatDoorPfWalks
namespace Go.Proofs.YtjehmnojfpedjaaGreatDoor
open Go.PF
set_option maxRecDepth 100000
set_option linter.unusedSimpArgs false
set_option linter.unusedVariables false

set_option maxHeartbeats 8000000 in
theorem l92Client {rb:Nat} {Ab:Option Addr} {cb:Nat} {bs:List UInt8} {p:Nat} (w:World) (hr:w.heap[rb]?=some (.cells [.slice Ab bs.length cb,.int .i64 (p:Int)].toArray 124 (0,0))) (hb:Sl w [rb] 1 Ab bs.length cb (bs.map U)) (hbn:bs.length≤2000) (hp:p≤68719476736):Does Tryz.prog 64 [pB rb] w (fun v w'=>∃ Amr:Option Addr,∃ cmr:Nat,∃ Aqr:Option Addr,∃ cqr:Nat,∃ ms:List Int,∃ lu:List UInt8,∃ lw:List UInt8,∃ ak:Int,∃ aq:List Int,∃ an:List UInt8,∃ apt:Int,∃ q:Nat,v=.agg #[.slice Amr ms.length cmr,Str lu,Str lw,.int .i64 ak,.slice Aqr aq.length cqr,Str an,.int .i64 apt]∧(ms.length≤2)∧(lu.length≤5)∧(lw.length≤5)∧(aq.length≤4)∧(an.length≤21)∧(q≤p+60)∧SH w w' [rb] [.blk rb 124 [.slice Ab bs.length cb,I (q:Int)],.own Amr ms.length cmr 3 1 (ms.map I),.own Aqr aq.length cqr 3 1 (aq.map I)]):=by
 refine fE (N:=39) Tryz.func64 r0 (by kernel_rfl) r0 ?_
 have hs0:SH w w [rb] [(Z5 rb Ab bs cb p)]:=SH.entry1 hr
 refine sr (al (v:=.agg #[ns,Str [],Str [],I 0,ns,Str [],I 0]) (cs:=Z1) hs0 tz53 r0 trivial r0 (fun b1 w1 hs1=>?_))
 refine nn (sq ?_)
 refine raJ (fun w'=>∃ L,SH w w' [rb] L∧(.blk b1 53 Z1)∈L∧True) (fun f w'=>∃ (b0' b1' b2' b3':Nat) (r6':Int) (q6' b12':Nat) (Aq10':Option Addr) (cq10':Nat) (ak10':Int) (aq10':List Int) (an10':List UInt8) (apt10':Int) (q10' b4':Nat),Hz f [(0,pB rb),(2,pB b1),(3,pB b12')]∧(0≤r6'∧(r6'<4∨r6'=0))∧(q6'≤p+1)∧(aq10'.length≤4)∧(an10'.length≤21)∧(q10'≤q6'+40)∧SH w w' [rb] [(Z5 rb Ab bs cb q10'),.blk b1 53 Z1,(Z17 b0'),(Z19 b1'),(Z7 Aq10' aq10' cq10'),.blk b12' 53 [.slice (((Z0 b0' b1' b2' b3').getD r6'.toNat hd0).A) ((Z4.getD r6'.toNat []).length) (((Z0 b0' b1' b2' b3').getD r6'.toNat hd0).c),Str [],Str [],I ak10',(Z10 Aq10' aq10' cq10'),Str an10',I apt10'],(Z15 b2'),(Z16 b3'),.own (Z6 b4') ((Z0 b0' b1' b2' b3').length) 4 22 1 ((Z0 b0' b1' b2' b3').map hv)]) mixed ?_ ?_
 ·refine dG 1 14 8191 (fun f w'=>∃ (b0' b1' b2' b3':Nat) (r6':Int) (q6' b12':Nat) (Aq10':Option Addr) (cq10':Nat) (ak10':Int) (aq10':List Int) (an10':List UInt8) (apt10':Int) (q10' b4':Nat),Hz f [(0,pB rb),(2,pB b1),(3,pB b12'),(15,.agg #[.slice (((Z0 b0' b1' b2' b3').getD r6'.toNat hd0).A) ((Z4.getD r6'.toNat []).length) (((Z0 b0' b1' b2' b3').getD r6'.toNat hd0).c),Str [],Str [],I ak10',(Z10 Aq10' aq10' cq10'),Str an10',I apt10'])]∧(0≤r6'∧(r6'<4∨r6'=0))∧(q6'≤p+1)∧(aq10'.length≤4)∧(an10'.length≤21)∧(q10'≤q6'+40)∧SH w w' [rb] [(Z5 rb Ab bs cb q10'),.blk b1 53 Z1,(Z17 b0'),(Z19 b1'),(Z7 Aq10' aq10' cq10'),.blk b12' 53 Z1,(Z15 b2'),(Z16 b3'),.own (Z6 b4') ((Z0 b0' b1' b2' b3').length) 4 22 1 ((Z0 b0' b1' b2' b3').map hv)]) ?_ (fun D_1_0=>?_)
  ·rintro f w2 ⟨b0',b1',b2',b3',r6',q6',b12',Aq10',cq10',ak10',aq10',an10',apt10',q10',b4',⟨g1,rfl⟩,p1,p2,p3,p4,p5,hs2⟩
   refine aO 13 r0 (sG [.slice (((Z0 b0' b1' b2' b3').getD r6'.toNat hd0).A) ((Z4.getD r6'.toNat []).length) (((Z0 b0' b1' b2' b3').getD r6'.toNat hd0).c),Str [],Str [],I ak10',(Z10 Aq10' aq10' cq10'),Str an10',I apt10'] hs2 5 r0 ag53 (fun w3 hs3=>?_))
   refine nk (m1 hs3 1 r0) ?_
   refine ad (by kernel_rfl) ?_
   exact⟨b0',b1',b2',b3',r6',q6',b12',Aq10',cq10',ak10',aq10',an10',apt10',q10',b4',(zR r0),p1,p2,p3,p4,p5,(hs3.pk [0,1,2,3,4,8,5,6,7] r0)⟩
  refine dG 2 14 4095 (fun f w'=>∃ (b0' b1' b2' b3':Nat) (r6':Int) (q6':Nat) (Aq10':Option Addr) (cq10':Nat) (ak10':Int) (aq10':List Int) (an10':List UInt8) (apt10':Int) (q10' b4':Nat),Hz f [(0,pB rb),(2,pB b1),(15,.agg #[.slice (((Z0 b0' b1' b2' b3').getD r6'.toNat hd0).A) ((Z4.getD r6'.toNat []).length) (((Z0 b0' b1' b2' b3').getD r6'.toNat hd0).c),Str [],Str [],I ak10',(Z10 Aq10' aq10' cq10'),Str an10',I apt10'])]∧(0≤r6'∧(r6'<4∨r6'=0))∧(q6'≤p+1)∧(aq10'.length≤4)∧(an10'.length≤21)∧(q10'≤q6'+40)∧SH w w' [rb] [(Z5 rb Ab bs cb q10'),.blk b1 53 Z1,(Z17 b0'),(Z19 b1'),(Z7 Aq10' aq10' cq10'),(Z15 b2'),(Z16 b3'),.own (Z6 b4') ((Z0 b0' b1' b2' b3').length) 4 22 1 ((Z0 b0' b1' b2' b3').map hv)]) ?_ (fun D_1_1=>?_)
  ·rintro f w4 ⟨b0',b1',b2',b3',r6',q6',Aq10',cq10',ak10',aq10',an10',apt10',q10',b4',⟨g2,rfl⟩,p6,p7,p8,p9,p10,hs4⟩
   refine aO 12 r0 (al (v:=.agg #[ns,Str [],Str [],I 0,ns,Str [],I 0]) (cs:=Z1) hs4 tz53 r0 trivial r0 (fun b12' w5 hs5=>?_))
   exact nk (m1 hs5 1 r0) (alc D_1_0 ⟨b0',b1',b2',b3',r6',q6',b12',Aq10',cq10',ak10',aq10',an10',apt10',q10',b4',(zR r0),p6,p7,p8,p9,p10,(hs5.pk [0,1,2,3,4,8,5,6,7] r0)⟩)
  refine dG 3 14 5119 (fun f w'=>∃ (b0' b1' b2' b3':Nat) (r6':Int) (q6' b12' b4':Nat),Hz f [(0,pB rb),(2,pB b1),(3,pB b12'),(12,.slice (((Z0 b0' b1' b2' b3').getD r6'.toNat hd0).A) ((Z4.getD r6'.toNat []).length) (((Z0 b0' b1' b2' b3').getD r6'.toNat hd0).c)),(13,pB rb)]∧(0≤r6'∧(r6'<4∨r6'=0))∧(q6'≤p+1)∧SH w w' [rb] [(Z5 rb Ab bs cb q6'),.blk b1 53 Z1,(Z17 b0'),(Z19 b1'),.blk b12' 53 Z1,(Z15 b2'),(Z16 b3'),.own (Z6 b4') ((Z0 b0' b1' b2' b3').length) 4 22 1 ((Z0 b0' b1' b2' b3').map hv)]) ?_ (fun D_1_2=>?_)
  ·rintro f w6 ⟨b0',b1',b2',b3',r6',q6',b12',b4',⟨g3,rfl⟩,p11,p12,hs6⟩
   refine aO 10 r0 (cL r0 (l91Address (rb:=rb) (Ab:=Ab) (cb:=cb) (bs:=bs) (p:=q6') (w:=_) (hr:=(blk_heap hs6 0 r0)) (hb:=(hb.up hs6 (fun _ h=>h) (fun _ h=>.inl h))) (hbn:=‹_›) (hp:=(by omega))) ?_)
   rintro _ w7 ⟨Aq10',cq10',ak10',aq10',an10',apt10',q10',rfl,p13,p14,p15,hs7⟩
   replace hs7:=hs6.callM 0 r0 hs7 m_1
   refine nk (m1 hs7 0 r0) ?_
   refine tk (fuel:=1) (is:=[11]) (.cons r0 (.nil)) (by kernel_rfl) (by kernel_rfl) (m1 hs7 0 r0) (yA r0 (bdv (v:=.agg #[.slice (((Z0 b0' b1' b2' b3').getD r6'.toNat hd0).A) ((Z4.getD r6'.toNat []).length) (((Z0 b0' b1' b2' b3').getD r6'.toNat hd0).c),Str [],Str [],I ak10',(Z10 Aq10' aq10' cq10'),Str an10',I apt10']) [(0,.slice (((Z0 b0' b1' b2' b3').getD r6'.toNat hd0).A) ((Z4.getD r6'.toNat []).length) (((Z0 b0' b1' b2' b3').getD r6'.toNat hd0).c)),(2,.agg #[I ak10',(Z10 Aq10' aq10' cq10'),Str an10',I apt10'])] r0 (fun _=>by kernel_rfl)) (.nil ?_))
   exact alc D_1_0 ⟨b0',b1',b2',b3',r6',q6',b12',Aq10',cq10',ak10',aq10',an10',apt10',q10',b4',(zR r0),p11,p12,p13,p14,p15,(hs7.pk [7,0,1,2,8,3,4,5,6] r0)⟩
  refine dG 3 14 5887 (fun f w'=>∃ (b0' b1' b2' b3':Nat) (r6':Int) (q6' b12':Nat) (Aq10':Option Addr) (cq10':Nat) (ak10':Int) (aq10':List Int) (an10':List UInt8) (apt10':Int) (q10' b4':Nat),Hz f [(0,pB rb),(2,pB b1),(3,pB b12'),(11,.pointer (some ⟨b4',r6'.toNat*1,none⟩)),(14,.agg #[I ak10',(Z10 Aq10' aq10' cq10'),Str an10',I apt10'])]∧(0≤r6'∧(r6'<4∨r6'=0))∧(q6'≤p+1)∧(aq10'.length≤4)∧(an10'.length≤21)∧(q10'≤q6'+40)∧SH w w' [rb] [(Z5 rb Ab bs cb q10'),.blk b1 53 Z1,(Z17 b0'),(Z19 b1'),(Z7 Aq10' aq10' cq10'),.blk b12' 53 Z1,(Z15 b2'),(Z16 b3'),.own (Z6 b4') ((Z0 b0' b1' b2' b3').length) 4 22 1 ((Z0 b0' b1' b2' b3').map hv)]) ?_ (fun D_1_3=>?_)
  ·rintro f w8 ⟨b0',b1',b2',b3',r6',q6',b12',Aq10',cq10',ak10',aq10',an10',apt10',q10',b4',⟨g4,rfl⟩,p16,p17,p18,p19,p20,hs8⟩
   refine aO 8 r0 (qt r0 (ldoHd (L:=Z4) (ys:=(Z0 b0' b1' b2' b3')) (o:=r6'.toNat) r0 hs8 8 r0 r0 (by((simp; omega))) one22) (nk (m1 hs8 1 r0) ?_))
   refine tk (fuel:=1) (is:=[11]) (.cons r0 (.nil)) (by kernel_rfl) (by kernel_rfl) (m1 hs8 1 r0) (yA r0 (bdv (v:=.agg #[.slice (((Z0 b0' b1' b2' b3').getD r6'.toNat hd0).A) ((Z4.getD r6'.toNat []).length) (((Z0 b0' b1' b2' b3').getD r6'.toNat hd0).c),Str [],Str [],I ak10',(Z10 Aq10' aq10' cq10'),Str an10',I apt10']) [(0,.slice (((Z0 b0' b1' b2' b3').getD r6'.toNat hd0).A) ((Z4.getD r6'.toNat []).length) (((Z0 b0' b1' b2' b3').getD r6'.toNat hd0).c)),(2,.agg #[I ak10',(Z10 Aq10' aq10' cq10'),Str an10',I apt10'])] r0 (fun _=>by kernel_rfl)) (.nil ?_))
   exact alc D_1_0 ⟨b0',b1',b2',b3',r6',q6',b12',Aq10',cq10',ak10',aq10',an10',apt10',q10',b4',(zR r0),p16,p17,p18,p19,p20,hs8⟩
  refine dG 4 14 1023 (fun f w'=>∃ (b0' b1' b2' b3':Nat) (r6':Int) (q6' b4':Nat),Hz f [(0,pB rb),(2,pB b1),(12,.slice (((Z0 b0' b1' b2' b3').getD r6'.toNat hd0).A) ((Z4.getD r6'.toNat []).length) (((Z0 b0' b1' b2' b3').getD r6'.toNat hd0).c)),(13,pB rb)]∧(0≤r6'∧(r6'<4∨r6'=0))∧(q6'≤p+1)∧SH w w' [rb] [(Z5 rb Ab bs cb q6'),.blk b1 53 Z1,(Z17 b0'),(Z19 b1'),(Z15 b2'),(Z16 b3'),.own (Z6 b4') ((Z0 b0' b1' b2' b3').length) 4 22 1 ((Z0 b0' b1' b2' b3').map hv)]) ?_ (fun D_1_4=>?_)
  ·rintro f w9 ⟨b0',b1',b2',b3',r6',q6',b4',⟨g5,rfl⟩,p21,p22,hs9⟩
   refine aaL [10,12] (fa_cons ?_ (fa_one ?_))
   ·refine one_ r0 (cL r0 (l91Address (rb:=rb) (Ab:=Ab) (cb:=cb) (bs:=bs) (p:=q6') (w:=_) (hr:=(blk_heap hs9 0 r0)) (hb:=(hb.up hs9 (fun _ h=>h) (fun _ h=>.inl h))) (hbn:=‹_›) (hp:=(by omega))) ?_)
    rintro _ w10 ⟨Aq10',cq10',ak10',aq10',an10',apt10',q10',rfl,p23,p24,p25,hs10⟩
    replace hs10:=hs9.callM 0 r0 hs10 m_1
    refine nk (m1 hs10 0 r0) ?_
    refine tk (fuel:=2) (is:=[11]) (.cons r0 (.nil)) (by kernel_rfl) (by kernel_rfl) (m1 hs10 0 r0) (yA r0 (bdv (v:=.agg #[.slice (((Z0 b0' b1' b2' b3').getD r6'.toNat hd0).A) ((Z4.getD r6'.toNat []).length) (((Z0 b0' b1' b2' b3').getD r6'.toNat hd0).c),Str [],Str [],I ak10',(Z10 Aq10' aq10' cq10'),Str an10',I apt10']) [(0,.slice (((Z0 b0' b1' b2' b3').getD r6'.toNat hd0).A) ((Z4.getD r6'.toNat []).length) (((Z0 b0' b1' b2' b3').getD r6'.toNat hd0).c)),(2,.agg #[I ak10',(Z10 Aq10' aq10' cq10'),Str an10',I apt10'])] r0 (fun _=>by kernel_rfl)) (.nil ?_))
    exact alc D_1_1 ⟨b0',b1',b2',b3',r6',q6',Aq10',cq10',ak10',aq10',an10',apt10',q10',b4',(zR r0),p21,p22,p23,p24,p25,(hs10.pk [6,0,1,2,7,3,4,5] r0)⟩
   ·refine one_ r0 (al (v:=.agg #[ns,Str [],Str [],I 0,ns,Str [],I 0]) (cs:=Z1) hs9 tz53 r0 trivial r0 (fun b12' w11 hs11=>?_))
    exact nk (m1 hs11 1 r0) (alc D_1_2 ⟨b0',b1',b2',b3',r6',q6',b12',b4',(zR r0),p21,p22,(hs11.pk [0,1,2,3,7,4,5,6] r0)⟩)
  refine dG 4 14 1791 (fun f w'=>∃ (b0' b1' b2' b3':Nat) (r6':Int) (q6':Nat) (Aq10':Option Addr) (cq10':Nat) (ak10':Int) (aq10':List Int) (an10':List UInt8) (apt10':Int) (q10' b4':Nat),Hz f [(0,pB rb),(2,pB b1),(11,.pointer (some ⟨b4',r6'.toNat*1,none⟩)),(14,.agg #[I ak10',(Z10 Aq10' aq10' cq10'),Str an10',I apt10'])]∧(0≤r6'∧(r6'<4∨r6'=0))∧(q6'≤p+1)∧(aq10'.length≤4)∧(an10'.length≤21)∧(q10'≤q6'+40)∧SH w w' [rb] [(Z5 rb Ab bs cb q10'),.blk b1 53 Z1,(Z17 b0'),(Z19 b1'),(Z7 Aq10' aq10' cq10'),(Z15 b2'),(Z16 b3'),.own (Z6 b4') ((Z0 b0' b1' b2' b3').length) 4 22 1 ((Z0 b0' b1' b2' b3').map hv)]) ?_ (fun D_1_5=>?_)
  ·rintro f w12 ⟨b0',b1',b2',b3',r6',q6',Aq10',cq10',ak10',aq10',an10',apt10',q10',b4',⟨g6,rfl⟩,p26,p27,p28,p29,p30,hs12⟩
   refine aaL [8,12] (fa_cons ?_ (fa_one ?_))
   ·refine one_ r0 (qt r0 (ldoHd (L:=Z4) (ys:=(Z0 b0' b1' b2' b3')) (o:=r6'.toNat) r0 hs12 7 r0 r0 (by((simp; omega))) one22) (nk (m1 hs12 1 r0) ?_))
    refine tk (fuel:=2) (is:=[11]) (.cons r0 (.nil)) (by kernel_rfl) (by kernel_rfl) (m1 hs12 1 r0) (yA r0 (bdv (v:=.agg #[.slice (((Z0 b0' b1' b2' b3').getD r6'.toNat hd0).A) ((Z4.getD r6'.toNat []).length) (((Z0 b0' b1' b2' b3').getD r6'.toNat hd0).c),Str [],Str [],I ak10',(Z10 Aq10' aq10' cq10'),Str an10',I apt10']) [(0,.slice (((Z0 b0' b1' b2' b3').getD r6'.toNat hd0).A) ((Z4.getD r6'.toNat []).length) (((Z0 b0' b1' b2' b3').getD r6'.toNat hd0).c)),(2,.agg #[I ak10',(Z10 Aq10' aq10' cq10'),Str an10',I apt10'])] r0 (fun _=>by kernel_rfl)) (.nil ?_))
    exact alc D_1_1 ⟨b0',b1',b2',b3',r6',q6',Aq10',cq10',ak10',aq10',an10',apt10',q10',b4',(zR r0),p26,p27,p28,p29,p30,hs12⟩
   ·refine one_ r0 (al (v:=.agg #[ns,Str [],Str [],I 0,ns,Str [],I 0]) (cs:=Z1) hs12 tz53 r0 trivial r0 (fun b12' w13 hs13=>?_))
    exact nk (m1 hs13 1 r0) (alc D_1_3 ⟨b0',b1',b2',b3',r6',q6',b12',Aq10',cq10',ak10',aq10',an10',apt10',q10',b4',(zR r0),p26,p27,p28,p29,p30,(hs13.pk [0,1,2,3,4,8,5,6,7] r0)⟩)
  refine dG 4 14 4863 (fun f w'=>∃ (b0' b1' b2' b3':Nat) (r6':Int) (q6' b12' b4':Nat),Hz f [(0,pB rb),(2,pB b1),(3,pB b12'),(11,.pointer (some ⟨b4',r6'.toNat*1,none⟩)),(13,pB rb)]∧(0≤r6'∧(r6'<4∨r6'=0))∧(q6'≤p+1)∧SH w w' [rb] [(Z5 rb Ab bs cb q6'),.blk b1 53 Z1,(Z17 b0'),(Z19 b1'),.blk b12' 53 Z1,(Z15 b2'),(Z16 b3'),.own (Z6 b4') ((Z0 b0' b1' b2' b3').length) 4 22 1 ((Z0 b0' b1' b2' b3').map hv)]) ?_ (fun D_1_6=>?_)
  ·rintro f w14 ⟨b0',b1',b2',b3',r6',q6',b12',b4',⟨g7,rfl⟩,p31,p32,hs14⟩
   refine aaL [8,10] (fa_cons ?_ (fa_one ?_))
   ·refine one_ r0 (qt r0 (ldoHd (L:=Z4) (ys:=(Z0 b0' b1' b2' b3')) (o:=r6'.toNat) r0 hs14 7 r0 r0 (by((simp; omega))) one22) ?_)
    exact nk (m1 hs14 1 r0) (alc D_1_2 ⟨b0',b1',b2',b3',r6',q6',b12',b4',(zR r0),p31,p32,hs14⟩)
   ·refine one_ r0 (cL r0 (l91Address (rb:=rb) (Ab:=Ab) (cb:=cb) (bs:=bs) (p:=q6') (w:=_) (hr:=(blk_heap hs14 0 r0)) (hb:=(hb.up hs14 (fun _ h=>h) (fun _ h=>.inl h))) (hbn:=‹_›) (hp:=(by omega))) ?_)
    rintro _ w15 ⟨Aq10',cq10',ak10',aq10',an10',apt10',q10',rfl,p33,p34,p35,hs15⟩
    replace hs15:=hs14.callM 0 r0 hs15 m_1
    exact nk (m1 hs15 0 r0) (alc D_1_3 ⟨b0',b1',b2',b3',r6',q6',b12',Aq10',cq10',ak10',aq10',an10',apt10',q10',b4',(zR r0),p31,p32,p33,p34,p35,(hs15.pk [7,0,1,2,8,3,4,5,6] r0)⟩)
  refine dG 5 14 767 (fun f w'=>∃ (b0' b1' b2' b3':Nat) (r6':Int) (q6' b4':Nat),Hz f [(0,pB rb),(2,pB b1),(11,.pointer (some ⟨b4',r6'.toNat*1,none⟩)),(13,pB rb)]∧(0≤r6'∧(r6'<4∨r6'=0))∧(q6'≤p+1)∧SH w w' [rb] [(Z5 rb Ab bs cb q6'),.blk b1 53 Z1,(Z17 b0'),(Z19 b1'),(Z15 b2'),(Z16 b3'),.own (Z6 b4') ((Z0 b0' b1' b2' b3').length) 4 22 1 ((Z0 b0' b1' b2' b3').map hv)]) ?_ (fun D_1_7=>?_)
  ·rintro f w16 ⟨b0',b1',b2',b3',r6',q6',b4',⟨g8,rfl⟩,p36,p37,hs16⟩
   refine aaL [8,10,12] (fa_cons ?_ (fa_cons ?_ (fa_one ?_)))
   ·refine one_ r0 (qt r0 (ldoHd (L:=Z4) (ys:=(Z0 b0' b1' b2' b3')) (o:=r6'.toNat) r0 hs16 6 r0 r0 (by((simp; omega))) one22) ?_)
    exact nk (m1 hs16 1 r0) (alc D_1_4 ⟨b0',b1',b2',b3',r6',q6',b4',(zR r0),p36,p37,hs16⟩)
   ·refine one_ r0 (cL r0 (l91Address (rb:=rb) (Ab:=Ab) (cb:=cb) (bs:=bs) (p:=q6') (w:=_) (hr:=(blk_heap hs16 0 r0)) (hb:=(hb.up hs16 (fun _ h=>h) (fun _ h=>.inl h))) (hbn:=‹_›) (hp:=(by omega))) ?_)
    rintro _ w17 ⟨Aq10',cq10',ak10',aq10',an10',apt10',q10',rfl,p38,p39,p40,hs17⟩
    replace hs17:=hs16.callM 0 r0 hs17 m_1
    exact nk (m1 hs17 0 r0) (alc D_1_5 ⟨b0',b1',b2',b3',r6',q6',Aq10',cq10',ak10',aq10',an10',apt10',q10',b4',(zR r0),p36,p37,p38,p39,p40,(hs17.pk [6,0,1,2,7,3,4,5] r0)⟩)
   ·refine one_ r0 (al (v:=.agg #[ns,Str [],Str [],I 0,ns,Str [],I 0]) (cs:=Z1) hs16 tz53 r0 trivial r0 (fun b12' w18 hs18=>?_))
    exact nk (m1 hs18 1 r0) (alc D_1_6 ⟨b0',b1',b2',b3',r6',q6',b12',b4',(zR r0),p36,p37,(hs18.pk [0,1,2,3,7,4,5,6] r0)⟩)
  refine dG 5 14 5743 (fun f w'=>∃ (b0' b1' b2' b3':Nat) (r6':Int) (q6' b12':Nat) (Aq10':Option Addr) (cq10':Nat) (ak10':Int) (aq10':List Int) (an10':List UInt8) (apt10':Int) (q10':Nat),Hz f [(0,pB rb),(2,pB b1),(3,pB b12'),(4,sb b0' (([0]:List Int).length) 1),(5,sb b1' (([2]:List Int).length) 1),(6,sb b2' (([0,2]:List Int).length) 2),(7,sb b3' (([2,1]:List Int).length) 2),(10,I r6'),(14,.agg #[I ak10',(Z10 Aq10' aq10' cq10'),Str an10',I apt10'])]∧(0≤r6'∧(r6'<4∨r6'=0))∧(q6'≤p+1)∧(aq10'.length≤4)∧(an10'.length≤21)∧(q10'≤q6'+40)∧SH w w' [rb] [(Z5 rb Ab bs cb q10'),.blk b1 53 Z1,(Z17 b0'),(Z19 b1'),(Z7 Aq10' aq10' cq10'),.blk b12' 53 Z1,(Z15 b2'),(Z16 b3')]) ?_ (fun D_1_8=>?_)
  ·rintro f w19 ⟨b0',b1',b2',b3',r6',q6',b12',Aq10',cq10',ak10',aq10',an10',apt10',q10',⟨g9,rfl⟩,p41,p42,p43,p44,p45,hs19⟩
   refine aO 4 r0 (bsk hs19 sl91 [sb b0' (([0]:List Int).length) 1,sb b1' (([2]:List Int).length) 1,sb b2' (([0,2]:List Int).length) 2,sb b3' (([2,1]:List Int).length) 2] [sb b0' (([0]:List Int).length) 1,sb b1' (([2]:List Int).length) 1,sb b2' (([0,2]:List Int).length) 2,sb b3' (([2,1]:List Int).length) 2] trivial r0 (fun b4' w20 hs20=>?_))
   refine nk (m1 hs20 1 r0) ?_
   refine tk (fuel:=3) (is:=[7]) (.cons r0 (.nil)) (by kernel_rfl) (by kernel_rfl) (m1 hs20 1 r0) (yA r0 (ixo r6'.toNat sl91 r0 (ieq (x:=r6') (by(omega))) (by(omega))) (.nil ?_))
   exact alc D_1_3 ⟨b0',b1',b2',b3',r6',q6',b12',Aq10',cq10',ak10',aq10',an10',apt10',q10',b4',(zR r0),p41,p42,p43,p44,p45,hs20⟩
  refine dG 6 14 4671 (fun f w'=>∃ (b0' b1' b2' b3' b12' b4':Nat),Hz f [(0,pB rb),(2,pB b1),(3,pB b12'),(8,sb b4' ((Z0 b0' b1' b2' b3').length) 4),(9,pB rb),(13,pB rb)]∧SH w w' [rb] [(Z5 rb Ab bs cb p),.blk b1 53 Z1,(Z17 b0'),(Z19 b1'),.blk b12' 53 Z1,(Z15 b2'),(Z16 b3'),.own (Z6 b4') ((Z0 b0' b1' b2' b3').length) 4 22 1 ((Z0 b0' b1' b2' b3').map hv)]) ?_ (fun D_1_9=>?_)
  ·rintro f w21 ⟨b0',b1',b2',b3',b12',b4',⟨g10,rfl⟩,hs21⟩
   refine aO 6 r0 (cL r0 (pick (rb:=rb) (Ab:=Ab) (cb:=cb) (bs:=bs) (p:=p) (n:=4) (w:=_) (hr:=(blk_heap hs21 0 r0)) (hb:=(hb.up hs21 (fun _ h=>h) (fun _ h=>.inl h))) (hbn:=‹_›) (hp:=(by omega))) ?_)
   rintro _ w22 ⟨r6',q6',rfl,p46,p47,hs22⟩
   replace hs22:=hs21.callM 0 r0 hs22 m_1
   refine nk (m1 hs22 0 r0) ?_
   refine tk (fuel:=4) (is:=[7]) (.cons r0 (.nil)) (by kernel_rfl) (by kernel_rfl) (m1 hs22 0 r0) (yA r0 (ixo r6'.toNat sl91 r0 (ieq (x:=r6') (by(omega))) (by((simp; omega)))) (.nil ?_))
   exact alc D_1_6 ⟨b0',b1',b2',b3',r6',q6',b12',b4',(zR r0),p46,p47,(hs22.pk [7,0,1,2,3,4,5,6] r0)⟩
  refine dG 6 14 1647 (fun f w'=>∃ (b0' b1' b2' b3':Nat) (r6':Int) (q6':Nat) (Aq10':Option Addr) (cq10':Nat) (ak10':Int) (aq10':List Int) (an10':List UInt8) (apt10':Int) (q10':Nat),Hz f [(0,pB rb),(2,pB b1),(4,sb b0' (([0]:List Int).length) 1),(5,sb b1' (([2]:List Int).length) 1),(6,sb b2' (([0,2]:List Int).length) 2),(7,sb b3' (([2,1]:List Int).length) 2),(10,I r6'),(14,.agg #[I ak10',(Z10 Aq10' aq10' cq10'),Str an10',I apt10'])]∧(0≤r6'∧(r6'<4∨r6'=0))∧(q6'≤p+1)∧(aq10'.length≤4)∧(an10'.length≤21)∧(q10'≤q6'+40)∧SH w w' [rb] [(Z5 rb Ab bs cb q10'),.blk b1 53 Z1,(Z17 b0'),(Z19 b1'),(Z7 Aq10' aq10' cq10'),(Z15 b2'),(Z16 b3')]) ?_ (fun D_1_10=>?_)
  ·rintro f w23 ⟨b0',b1',b2',b3',r6',q6',Aq10',cq10',ak10',aq10',an10',apt10',q10',⟨g11,rfl⟩,p48,p49,p50,p51,p52,hs23⟩
   refine aaL [4,12] (fa_cons ?_ (fa_one ?_))
   ·refine one_ r0 (bsk hs23 sl91 [sb b0' (([0]:List Int).length) 1,sb b1' (([2]:List Int).length) 1,sb b2' (([0,2]:List Int).length) 2,sb b3' (([2,1]:List Int).length) 2] [sb b0' (([0]:List Int).length) 1,sb b1' (([2]:List Int).length) 1,sb b2' (([0,2]:List Int).length) 2,sb b3' (([2,1]:List Int).length) 2] trivial r0 (fun b4' w24 hs24=>?_))
    refine nk (m1 hs24 1 r0) ?_
    refine tk (fuel:=4) (is:=[7]) (.cons r0 (.nil)) (by kernel_rfl) (by kernel_rfl) (m1 hs24 1 r0) (yA r0 (ixo r6'.toNat sl91 r0 (ieq (x:=r6') (by(omega))) (by(omega))) (.nil ?_))
    exact alc D_1_5 ⟨b0',b1',b2',b3',r6',q6',Aq10',cq10',ak10',aq10',an10',apt10',q10',b4',(zR r0),p48,p49,p50,p51,p52,hs24⟩
   ·refine one_ r0 (al (v:=.agg #[ns,Str [],Str [],I 0,ns,Str [],I 0]) (cs:=Z1) hs23 tz53 r0 trivial r0 (fun b12' w25 hs25=>?_))
    exact nk (m1 hs25 1 r0) (alc D_1_8 ⟨b0',b1',b2',b3',r6',q6',b12',Aq10',cq10',ak10',aq10',an10',apt10',q10',(zR r0),p48,p49,p50,p51,p52,(hs25.pk [0,1,2,3,4,7,5,6] r0)⟩)
  refine dG 6 14 4719 (fun f w'=>∃ (b0' b1' b2' b3':Nat) (r6':Int) (q6' b12':Nat),Hz f [(0,pB rb),(2,pB b1),(3,pB b12'),(4,sb b0' (([0]:List Int).length) 1),(5,sb b1' (([2]:List Int).length) 1),(6,sb b2' (([0,2]:List Int).length) 2),(7,sb b3' (([2,1]:List Int).length) 2),(10,I r6'),(13,pB rb)]∧(0≤r6'∧(r6'<4∨r6'=0))∧(q6'≤p+1)∧SH w w' [rb] [(Z5 rb Ab bs cb q6'),.blk b1 53 Z1,(Z17 b0'),(Z19 b1'),.blk b12' 53 Z1,(Z15 b2'),(Z16 b3')]) ?_ (fun D_1_11=>?_)
  ·rintro f w26 ⟨b0',b1',b2',b3',r6',q6',b12',⟨g12,rfl⟩,p53,p54,hs26⟩
   refine aaL [4,10] (fa_cons ?_ (fa_one ?_))
   ·refine one_ r0 (bsk hs26 sl91 [sb b0' (([0]:List Int).length) 1,sb b1' (([2]:List Int).length) 1,sb b2' (([0,2]:List Int).length) 2,sb b3' (([2,1]:List Int).length) 2] [sb b0' (([0]:List Int).length) 1,sb b1' (([2]:List Int).length) 1,sb b2' (([0,2]:List Int).length) 2,sb b3' (([2,1]:List Int).length) 2] trivial r0 (fun b4' w27 hs27=>?_))
    refine nk (m1 hs27 1 r0) ?_
    refine tk (fuel:=4) (is:=[7]) (.cons r0 (.nil)) (by kernel_rfl) (by kernel_rfl) (m1 hs27 1 r0) (yA r0 (ixo r6'.toNat sl91 r0 (ieq (x:=r6') (by(omega))) (by(omega))) (.nil ?_))
    exact alc D_1_6 ⟨b0',b1',b2',b3',r6',q6',b12',b4',(zR r0),p53,p54,hs27⟩
   ·refine one_ r0 (cL r0 (l91Address (rb:=rb) (Ab:=Ab) (cb:=cb) (bs:=bs) (p:=q6') (w:=_) (hr:=(blk_heap hs26 0 r0)) (hb:=(hb.up hs26 (fun _ h=>h) (fun _ h=>.inl h))) (hbn:=‹_›) (hp:=(by omega))) ?_)
    rintro _ w28 ⟨Aq10',cq10',ak10',aq10',an10',apt10',q10',rfl,p55,p56,p57,hs28⟩
    replace hs28:=hs26.callM 0 r0 hs28 m_1
    exact nk (m1 hs28 0 r0) (alc D_1_8 ⟨b0',b1',b2',b3',r6',q6',b12',Aq10',cq10',ak10',aq10',an10',apt10',q10',(zR r0),p53,p54,p55,p56,p57,(hs28.pk [6,0,1,2,7,3,4,5] r0)⟩)
  refine dG 6 14 5735 (fun f w'=>∃ (b0' b1' b2':Nat) (r6':Int) (q6' b12':Nat) (Aq10':Option Addr) (cq10':Nat) (ak10':Int) (aq10':List Int) (an10':List UInt8) (apt10':Int) (q10':Nat),Hz f [(0,pB rb),(2,pB b1),(3,pB b12'),(4,sb b0' (([0]:List Int).length) 1),(5,sb b1' (([2]:List Int).length) 1),(6,sb b2' (([0,2]:List Int).length) 2),(10,I r6'),(14,.agg #[I ak10',(Z10 Aq10' aq10' cq10'),Str an10',I apt10'])]∧(0≤r6'∧(r6'<4∨r6'=0))∧(q6'≤p+1)∧(aq10'.length≤4)∧(an10'.length≤21)∧(q10'≤q6'+40)∧SH w w' [rb] [(Z5 rb Ab bs cb q10'),.blk b1 53 Z1,(Z17 b0'),(Z19 b1'),(Z7 Aq10' aq10' cq10'),.blk b12' 53 Z1,(Z15 b2')]) ?_ (fun D_1_12=>?_)
  ·rintro f w29 ⟨b0',b1',b2',r6',q6',b12',Aq10',cq10',ak10',aq10',an10',apt10',q10',⟨g13,rfl⟩,p58,p59,p60,p61,p62,hs29⟩
   refine aO 3 r0 (bsk hs29 sl22 [I 2,I 1] [I 2,I 1] trivial r0 (fun b3' w30 hs30=>?_))
   exact nk (m1 hs30 1 r0) (alc D_1_8 ⟨b0',b1',b2',b3',r6',q6',b12',Aq10',cq10',ak10',aq10',an10',apt10',q10',(zR r0),p58,p59,p60,p61,p62,hs30⟩)
  refine dG 6 14 5739 (fun f w'=>∃ (b0' b1' b3':Nat) (r6':Int) (q6' b12':Nat) (Aq10':Option Addr) (cq10':Nat) (ak10':Int) (aq10':List Int) (an10':List UInt8) (apt10':Int) (q10':Nat),Hz f [(0,pB rb),(2,pB b1),(3,pB b12'),(4,sb b0' (([0]:List Int).length) 1),(5,sb b1' (([2]:List Int).length) 1),(7,sb b3' (([2,1]:List Int).length) 2),(10,I r6'),(14,.agg #[I ak10',(Z10 Aq10' aq10' cq10'),Str an10',I apt10'])]∧(0≤r6'∧(r6'<4∨r6'=0))∧(q6'≤p+1)∧(aq10'.length≤4)∧(an10'.length≤21)∧(q10'≤q6'+40)∧SH w w' [rb] [(Z5 rb Ab bs cb q10'),.blk b1 53 Z1,(Z17 b0'),(Z19 b1'),(Z7 Aq10' aq10' cq10'),.blk b12' 53 Z1,(Z16 b3')]) ?_ (fun D_1_13=>?_)
  ·rintro f w31 ⟨b0',b1',b3',r6',q6',b12',Aq10',cq10',ak10',aq10',an10',apt10',q10',⟨g14,rfl⟩,p63,p64,p65,p66,p67,hs31⟩
   refine aO 2 r0 (bsk hs31 sl22 [I 0,I 2] [I 0,I 2] trivial r0 (fun b2' w32 hs32=>?_))
   exact nk (m1 hs32 1 r0) (alc D_1_8 ⟨b0',b1',b2',b3',r6',q6',b12',Aq10',cq10',ak10',aq10',an10',apt10',q10',(zR r0),p63,p64,p65,p66,p67,(hs32.pk [0,1,2,3,4,5,7,6] r0)⟩)
  refine dG 6 14 5741 (fun f w'=>∃ (b0' b2' b3':Nat) (r6':Int) (q6' b12':Nat) (Aq10':Option Addr) (cq10':Nat) (ak10':Int) (aq10':List Int) (an10':List UInt8) (apt10':Int) (q10':Nat),Hz f [(0,pB rb),(2,pB b1),(3,pB b12'),(4,sb b0' (([0]:List Int).length) 1),(6,sb b2' (([0,2]:List Int).length) 2),(7,sb b3' (([2,1]:List Int).length) 2),(10,I r6'),(14,.agg #[I ak10',(Z10 Aq10' aq10' cq10'),Str an10',I apt10'])]∧(0≤r6'∧(r6'<4∨r6'=0))∧(q6'≤p+1)∧(aq10'.length≤4)∧(an10'.length≤21)∧(q10'≤q6'+40)∧SH w w' [rb] [(Z5 rb Ab bs cb q10'),.blk b1 53 Z1,(Z17 b0'),(Z7 Aq10' aq10' cq10'),.blk b12' 53 Z1,(Z15 b2'),(Z16 b3')]) ?_ (fun D_1_14=>?_)
  ·rintro f w33 ⟨b0',b2',b3',r6',q6',b12',Aq10',cq10',ak10',aq10',an10',apt10',q10',⟨g15,rfl⟩,p68,p69,p70,p71,p72,hs33⟩
   refine aO 1 r0 (bsk hs33 sl22 [I 2] [I 2] trivial r0 (fun b1' w34 hs34=>?_))
   exact nk (m1 hs34 1 r0) (alc D_1_8 ⟨b0',b1',b2',b3',r6',q6',b12',Aq10',cq10',ak10',aq10',an10',apt10',q10',(zR r0),p68,p69,p70,p71,p72,(hs34.pk [0,1,2,7,3,4,5,6] r0)⟩)
  refine dG 6 14 5742 (fun f w'=>∃ (b1' b2' b3':Nat) (r6':Int) (q6' b12':Nat) (Aq10':Option Addr) (cq10':Nat) (ak10':Int) (aq10':List Int) (an10':List UInt8) (apt10':Int) (q10':Nat),Hz f [(0,pB rb),(2,pB b1),(3,pB b12'),(5,sb b1' (([2]:List Int).length) 1),(6,sb b2' (([0,2]:List Int).length) 2),(7,sb b3' (([2,1]:List Int).length) 2),(10,I r6'),(14,.agg #[I ak10',(Z10 Aq10' aq10' cq10'),Str an10',I apt10'])]∧(0≤r6'∧(r6'<4∨r6'=0))∧(q6'≤p+1)∧(aq10'.length≤4)∧(an10'.length≤21)∧(q10'≤q6'+40)∧SH w w' [rb] [(Z5 rb Ab bs cb q10'),.blk b1 53 Z1,(Z19 b1'),(Z7 Aq10' aq10' cq10'),.blk b12' 53 Z1,(Z15 b2'),(Z16 b3')]) ?_ (fun D_1_15=>?_)
  ·rintro f w35 ⟨b1',b2',b3',r6',q6',b12',Aq10',cq10',ak10',aq10',an10',apt10',q10',⟨g16,rfl⟩,p73,p74,p75,p76,p77,hs35⟩
   refine aO 0 r0 (bsk hs35 sl22 [I 0] [I 0] trivial r0 (fun b0' w36 hs36=>?_))
   exact nk (m1 hs36 1 r0) (alc D_1_8 ⟨b0',b1',b2',b3',r6',q6',b12',Aq10',cq10',ak10',aq10',an10',apt10',q10',(zR r0),p73,p74,p75,p76,p77,(hs36.pk [0,1,7,2,3,4,5,6] r0)⟩)
  refine dG 7 14 575 (fun f w'=>∃ (b0' b1' b2' b3' b4':Nat),Hz f [(0,pB rb),(2,pB b1),(8,sb b4' ((Z0 b0' b1' b2' b3').length) 4),(9,pB rb),(13,pB rb)]∧SH w w' [rb] [(Z5 rb Ab bs cb p),.blk b1 53 Z1,(Z17 b0'),(Z19 b1'),(Z15 b2'),(Z16 b3'),.own (Z6 b4') ((Z0 b0' b1' b2' b3').length) 4 22 1 ((Z0 b0' b1' b2' b3').map hv)]) ?_ (fun D_1_16=>?_)
  ·rintro f w37 ⟨b0',b1',b2',b3',b4',⟨g17,rfl⟩,hs37⟩
   refine aaL [6,12] (fa_cons ?_ (fa_one ?_))
   ·refine one_ r0 (cL r0 (pick (rb:=rb) (Ab:=Ab) (cb:=cb) (bs:=bs) (p:=p) (n:=4) (w:=_) (hr:=(blk_heap hs37 0 r0)) (hb:=(hb.up hs37 (fun _ h=>h) (fun _ h=>.inl h))) (hbn:=‹_›) (hp:=(by omega))) ?_)
    rintro _ w38 ⟨r6',q6',rfl,p78,p79,hs38⟩
    replace hs38:=hs37.callM 0 r0 hs38 m_1
    refine nk (m1 hs38 0 r0) ?_
    refine tk (fuel:=5) (is:=[7]) (.cons r0 (.nil)) (by kernel_rfl) (by kernel_rfl) (m1 hs38 0 r0) (yA r0 (ixo r6'.toNat sl91 r0 (ieq (x:=r6') (by(omega))) (by((simp; omega)))) (.nil ?_))
    exact alc D_1_7 ⟨b0',b1',b2',b3',r6',q6',b4',(zR r0),p78,p79,(hs38.pk [6,0,1,2,3,4,5] r0)⟩
   ·refine one_ r0 (al (v:=.agg #[ns,Str [],Str [],I 0,ns,Str [],I 0]) (cs:=Z1) hs37 tz53 r0 trivial r0 (fun b12' w39 hs39=>?_))
    exact nk (m1 hs39 1 r0) (alc D_1_9 ⟨b0',b1',b2',b3',b12',b4',(zR r0),(hs39.pk [0,1,2,3,7,4,5,6] r0)⟩)
  refine dG 7 14 623 (fun f w'=>∃ (b0' b1' b2' b3':Nat) (r6':Int) (q6':Nat),Hz f [(0,pB rb),(2,pB b1),(4,sb b0' (([0]:List Int).length) 1),(5,sb b1' (([2]:List Int).length) 1),(6,sb b2' (([0,2]:List Int).length) 2),(7,sb b3' (([2,1]:List Int).length) 2),(10,I r6'),(13,pB rb)]∧(0≤r6'∧(r6'<4∨r6'=0))∧(q6'≤p+1)∧SH w w' [rb] [(Z5 rb Ab bs cb q6'),.blk b1 53 Z1,(Z17 b0'),(Z19 b1'),(Z15 b2'),(Z16 b3')]) ?_ (fun D_1_17=>?_)
  ·rintro f w40 ⟨b0',b1',b2',b3',r6',q6',⟨g18,rfl⟩,p80,p81,hs40⟩
   refine aaL [4,10,12] (fa_cons ?_ (fa_cons ?_ (fa_one ?_)))
   ·refine one_ r0 (bsk hs40 sl91 [sb b0' (([0]:List Int).length) 1,sb b1' (([2]:List Int).length) 1,sb b2' (([0,2]:List Int).length) 2,sb b3' (([2,1]:List Int).length) 2] [sb b0' (([0]:List Int).length) 1,sb b1' (([2]:List Int).length) 1,sb b2' (([0,2]:List Int).length) 2,sb b3' (([2,1]:List Int).length) 2] trivial r0 (fun b4' w41 hs41=>?_))
    refine nk (m1 hs41 1 r0) ?_
    refine tk (fuel:=5) (is:=[7]) (.cons r0 (.nil)) (by kernel_rfl) (by kernel_rfl) (m1 hs41 1 r0) (yA r0 (ixo r6'.toNat sl91 r0 (ieq (x:=r6') (by(omega))) (by(omega))) (.nil ?_))
    exact alc D_1_7 ⟨b0',b1',b2',b3',r6',q6',b4',(zR r0),p80,p81,hs41⟩
   ·refine one_ r0 (cL r0 (l91Address (rb:=rb) (Ab:=Ab) (cb:=cb) (bs:=bs) (p:=q6') (w:=_) (hr:=(blk_heap hs40 0 r0)) (hb:=(hb.up hs40 (fun _ h=>h) (fun _ h=>.inl h))) (hbn:=‹_›) (hp:=(by omega))) ?_)
    rintro _ w42 ⟨Aq10',cq10',ak10',aq10',an10',apt10',q10',rfl,p82,p83,p84,hs42⟩
    replace hs42:=hs40.callM 0 r0 hs42 m_1
    exact nk (m1 hs42 0 r0) (alc D_1_10 ⟨b0',b1',b2',b3',r6',q6',Aq10',cq10',ak10',aq10',an10',apt10',q10',(zR r0),p80,p81,p82,p83,p84,(hs42.pk [5,0,1,2,6,3,4] r0)⟩)
   ·refine one_ r0 (al (v:=.agg #[ns,Str [],Str [],I 0,ns,Str [],I 0]) (cs:=Z1) hs40 tz53 r0 trivial r0 (fun b12' w43 hs43=>?_))
    exact nk (m1 hs43 1 r0) (alc D_1_11 ⟨b0',b1',b2',b3',r6',q6',b12',(zR r0),p80,p81,(hs43.pk [0,1,2,3,6,4,5] r0)⟩)
  refine dG 7 14 4655 (fun f w'=>∃ (b0' b1' b2' b3' b12':Nat),Hz f [(0,pB rb),(2,pB b1),(3,pB b12'),(4,sb b0' (([0]:List Int).length) 1),(5,sb b1' (([2]:List Int).length) 1),(6,sb b2' (([0,2]:List Int).length) 2),(7,sb b3' (([2,1]:List Int).length) 2),(9,pB rb),(13,pB rb)]∧SH w w' [rb] [(Z5 rb Ab bs cb p),.blk b1 53 Z1,(Z17 b0'),(Z19 b1'),.blk b12' 53 Z1,(Z15 b2'),(Z16 b3')]) ?_ (fun D_1_18=>?_)
  ·rintro f w44 ⟨b0',b1',b2',b3',b12',⟨g19,rfl⟩,hs44⟩
   refine aaL [4,6] (fa_cons ?_ (fa_one ?_))
   ·refine one_ r0 (bsk hs44 sl91 [sb b0' (([0]:List Int).length) 1,sb b1' (([2]:List Int).length) 1,sb b2' (([0,2]:List Int).length) 2,sb b3' (([2,1]:List Int).length) 2] [sb b0' (([0]:List Int).length) 1,sb b1' (([2]:List Int).length) 1,sb b2' (([0,2]:List Int).length) 2,sb b3' (([2,1]:List Int).length) 2] trivial r0 (fun b4' w45 hs45=>?_))
    exact nk (m1 hs45 1 r0) (alc D_1_9 ⟨b0',b1',b2',b3',b12',b4',(zR r0),hs45⟩)
   ·refine one_ r0 (cL r0 (pick (rb:=rb) (Ab:=Ab) (cb:=cb) (bs:=bs) (p:=p) (n:=4) (w:=_) (hr:=(blk_heap hs44 0 r0)) (hb:=(hb.up hs44 (fun _ h=>h) (fun _ h=>.inl h))) (hbn:=‹_›) (hp:=(by omega))) ?_)
    rintro _ w46 ⟨r6',q6',rfl,p85,p86,hs46⟩
    replace hs46:=hs44.callM 0 r0 hs46 m_1
    exact nk (m1 hs46 0 r0) (alc D_1_11 ⟨b0',b1',b2',b3',r6',q6',b12',(zR r0),p85,p86,(hs46.pk [6,0,1,2,3,4,5] r0)⟩)
  refine dG 7 14 1639 (fun f w'=>∃ (b0' b1' b2':Nat) (r6':Int) (q6':Nat) (Aq10':Option Addr) (cq10':Nat) (ak10':Int) (aq10':List Int) (an10':List UInt8) (apt10':Int) (q10':Nat),Hz f [(0,pB rb),(2,pB b1),(4,sb b0' (([0]:List Int).length) 1),(5,sb b1' (([2]:List Int).length) 1),(6,sb b2' (([0,2]:List Int).length) 2),(10,I r6'),(14,.agg #[I ak10',(Z10 Aq10' aq10' cq10'),Str an10',I apt10'])]∧(0≤r6'∧(r6'<4∨r6'=0))∧(q6'≤p+1)∧(aq10'.length≤4)∧(an10'.length≤21)∧(q10'≤q6'+40)∧SH w w' [rb] [(Z5 rb Ab bs cb q10'),.blk b1 53 Z1,(Z17 b0'),(Z19 b1'),(Z7 Aq10' aq10' cq10'),(Z15 b2')]) ?_ (fun D_1_19=>?_)
  ·rintro f w47 ⟨b0',b1',b2',r6',q6',Aq10',cq10',ak10',aq10',an10',apt10',q10',⟨g20,rfl⟩,p87,p88,p89,p90,p91,hs47⟩
   refine aaL [3,12] (fa_cons ?_ (fa_one ?_))
   ·refine one_ r0 (bsk hs47 sl22 [I 2,I 1] [I 2,I 1] trivial r0 (fun b3' w48 hs48=>?_))
    exact nk (m1 hs48 1 r0) (alc D_1_10 ⟨b0',b1',b2',b3',r6',q6',Aq10',cq10',ak10',aq10',an10',apt10',q10',(zR r0),p87,p88,p89,p90,p91,hs48⟩)
   ·refine one_ r0 (al (v:=.agg #[ns,Str [],Str [],I 0,ns,Str [],I 0]) (cs:=Z1) hs47 tz53 r0 trivial r0 (fun b12' w49 hs49=>?_))
    exact nk (m1 hs49 1 r0) (alc D_1_12 ⟨b0',b1',b2',r6',q6',b12',Aq10',cq10',ak10',aq10',an10',apt10',q10',(zR r0),p87,p88,p89,p90,p91,(hs49.pk [0,1,2,3,4,6,5] r0)⟩)
  refine dG 7 14 4711 (fun f w'=>∃ (b0' b1' b2':Nat) (r6':Int) (q6' b12':Nat),Hz f [(0,pB rb),(2,pB b1),(3,pB b12'),(4,sb b0' (([0]:List Int).length) 1),(5,sb b1' (([2]:List Int).length) 1),(6,sb b2' (([0,2]:List Int).length) 2),(10,I r6'),(13,pB rb)]∧(0≤r6'∧(r6'<4∨r6'=0))∧(q6'≤p+1)∧SH w w' [rb] [(Z5 rb Ab bs cb q6'),.blk b1 53 Z1,(Z17 b0'),(Z19 b1'),.blk b12' 53 Z1,(Z15 b2')]) ?_ (fun D_1_20=>?_)
  ·rintro f w50 ⟨b0',b1',b2',r6',q6',b12',⟨g21,rfl⟩,p92,p93,hs50⟩
   refine aaL [3,10] (fa_cons ?_ (fa_one ?_))
   ·refine one_ r0 (bsk hs50 sl22 [I 2,I 1] [I 2,I 1] trivial r0 (fun b3' w51 hs51=>?_))
    exact nk (m1 hs51 1 r0) (alc D_1_11 ⟨b0',b1',b2',b3',r6',q6',b12',(zR r0),p92,p93,hs51⟩)
   ·refine one_ r0 (cL r0 (l91Address (rb:=rb) (Ab:=Ab) (cb:=cb) (bs:=bs) (p:=q6') (w:=_) (hr:=(blk_heap hs50 0 r0)) (hb:=(hb.up hs50 (fun _ h=>h) (fun _ h=>.inl h))) (hbn:=‹_›) (hp:=(by omega))) ?_)
    rintro _ w52 ⟨Aq10',cq10',ak10',aq10',an10',apt10',q10',rfl,p94,p95,p96,hs52⟩
    replace hs52:=hs50.callM 0 r0 hs52 m_1
    exact nk (m1 hs52 0 r0) (alc D_1_12 ⟨b0',b1',b2',r6',q6',b12',Aq10',cq10',ak10',aq10',an10',apt10',q10',(zR r0),p92,p93,p94,p95,p96,(hs52.pk [5,0,1,2,6,3,4] r0)⟩)
  refine dG 7 14 1643 (fun f w'=>∃ (b0' b1' b3':Nat) (r6':Int) (q6':Nat) (Aq10':Option Addr) (cq10':Nat) (ak10':Int) (aq10':List Int) (an10':List UInt8) (apt10':Int) (q10':Nat),Hz f [(0,pB rb),(2,pB b1),(4,sb b0' (([0]:List Int).length) 1),(5,sb b1' (([2]:List Int).length) 1),(7,sb b3' (([2,1]:List Int).length) 2),(10,I r6'),(14,.agg #[I ak10',(Z10 Aq10' aq10' cq10'),Str an10',I apt10'])]∧(0≤r6'∧(r6'<4∨r6'=0))∧(q6'≤p+1)∧(aq10'.length≤4)∧(an10'.length≤21)∧(q10'≤q6'+40)∧SH w w' [rb] [(Z5 rb Ab bs cb q10'),.blk b1 53 Z1,(Z17 b0'),(Z19 b1'),(Z7 Aq10' aq10' cq10'),(Z16 b3')]) ?_ (fun D_1_21=>?_)
  ·rintro f w53 ⟨b0',b1',b3',r6',q6',Aq10',cq10',ak10',aq10',an10',apt10',q10',⟨g22,rfl⟩,p97,p98,p99,p100,p101,hs53⟩
   refine aaL [2,12] (fa_cons ?_ (fa_one ?_))
   ·refine one_ r0 (bsk hs53 sl22 [I 0,I 2] [I 0,I 2] trivial r0 (fun b2' w54 hs54=>?_))
    exact nk (m1 hs54 1 r0) (alc D_1_10 ⟨b0',b1',b2',b3',r6',q6',Aq10',cq10',ak10',aq10',an10',apt10',q10',(zR r0),p97,p98,p99,p100,p101,(hs54.pk [0,1,2,3,4,6,5] r0)⟩)
   ·refine one_ r0 (al (v:=.agg #[ns,Str [],Str [],I 0,ns,Str [],I 0]) (cs:=Z1) hs53 tz53 r0 trivial r0 (fun b12' w55 hs55=>?_))
    exact nk (m1 hs55 1 r0) (alc D_1_13 ⟨b0',b1',b3',r6',q6',b12',Aq10',cq10',ak10',aq10',an10',apt10',q10',(zR r0),p97,p98,p99,p100,p101,(hs55.pk [0,1,2,3,4,6,5] r0)⟩)
  refine dG 7 14 4715 (fun f w'=>∃ (b0' b1' b3':Nat) (r6':Int) (q6' b12':Nat),Hz f [(0,pB rb),(2,pB b1),(3,pB b12'),(4,sb b0' (([0]:List Int).length) 1),(5,sb b1' (([2]:List Int).length) 1),(7,sb b3' (([2,1]:List Int).length) 2),(10,I r6'),(13,pB rb)]∧(0≤r6'∧(r6'<4∨r6'=0))∧(q6'≤p+1)∧SH w w' [rb] [(Z5 rb Ab bs cb q6'),.blk b1 53 Z1,(Z17 b0'),(Z19 b1'),.blk b12' 53 Z1,(Z16 b3')]) ?_ (fun D_1_22=>?_)
  ·rintro f w56 ⟨b0',b1',b3',r6',q6',b12',⟨g23,rfl⟩,p102,p103,hs56⟩
   refine aaL [2,10] (fa_cons ?_ (fa_one ?_))
   ·refine one_ r0 (bsk hs56 sl22 [I 0,I 2] [I 0,I 2] trivial r0 (fun b2' w57 hs57=>?_))
    exact nk (m1 hs57 1 r0) (alc D_1_11 ⟨b0',b1',b2',b3',r6',q6',b12',(zR r0),p102,p103,(hs57.pk [0,1,2,3,4,6,5] r0)⟩)
   ·refine one_ r0 (cL r0 (l91Address (rb:=rb) (Ab:=Ab) (cb:=cb) (bs:=bs) (p:=q6') (w:=_) (hr:=(blk_heap hs56 0 r0)) (hb:=(hb.up hs56 (fun _ h=>h) (fun _ h=>.inl h))) (hbn:=‹_›) (hp:=(by omega))) ?_)
    rintro _ w58 ⟨Aq10',cq10',ak10',aq10',an10',apt10',q10',rfl,p104,p105,p106,hs58⟩
    replace hs58:=hs56.callM 0 r0 hs58 m_1
    exact nk (m1 hs58 0 r0) (alc D_1_13 ⟨b0',b1',b3',r6',q6',b12',Aq10',cq10',ak10',aq10',an10',apt10',q10',(zR r0),p102,p103,p104,p105,p106,(hs58.pk [5,0,1,2,6,3,4] r0)⟩)
  refine dG 7 14 5731 (fun f w'=>∃ (b0' b1':Nat) (r6':Int) (q6' b12':Nat) (Aq10':Option Addr) (cq10':Nat) (ak10':Int) (aq10':List Int) (an10':List UInt8) (apt10':Int) (q10':Nat),Hz f [(0,pB rb),(2,pB b1),(3,pB b12'),(4,sb b0' (([0]:List Int).length) 1),(5,sb b1' (([2]:List Int).length) 1),(10,I r6'),(14,.agg #[I ak10',(Z10 Aq10' aq10' cq10'),Str an10',I apt10'])]∧(0≤r6'∧(r6'<4∨r6'=0))∧(q6'≤p+1)∧(aq10'.length≤4)∧(an10'.length≤21)∧(q10'≤q6'+40)∧SH w w' [rb] [(Z5 rb Ab bs cb q10'),.blk b1 53 Z1,(Z17 b0'),(Z19 b1'),(Z7 Aq10' aq10' cq10'),.blk b12' 53 Z1]) ?_ (fun D_1_23=>?_)
  ·rintro f w59 ⟨b0',b1',r6',q6',b12',Aq10',cq10',ak10',aq10',an10',apt10',q10',⟨g24,rfl⟩,p107,p108,p109,p110,p111,hs59⟩
   refine aaL [2,3] (fa_cons ?_ (fa_one ?_))
   ·refine one_ r0 (bsk hs59 sl22 [I 0,I 2] [I 0,I 2] trivial r0 (fun b2' w60 hs60=>?_))
    exact nk (m1 hs60 1 r0) (alc D_1_12 ⟨b0',b1',b2',r6',q6',b12',Aq10',cq10',ak10',aq10',an10',apt10',q10',(zR r0),p107,p108,p109,p110,p111,hs60⟩)
   ·refine one_ r0 (bsk hs59 sl22 [I 2,I 1] [I 2,I 1] trivial r0 (fun b3' w61 hs61=>?_))
    exact nk (m1 hs61 1 r0) (alc D_1_13 ⟨b0',b1',b3',r6',q6',b12',Aq10',cq10',ak10',aq10',an10',apt10',q10',(zR r0),p107,p108,p109,p110,p111,hs61⟩)
  refine dG 7 14 1645 (fun f w'=>∃ (b0' b2' b3':Nat) (r6':Int) (q6':Nat) (Aq10':Option Addr) (cq10':Nat) (ak10':Int) (aq10':List Int) (an10':List UInt8) (apt10':Int) (q10':Nat),Hz f [(0,pB rb),(2,pB b1),(4,sb b0' (([0]:List Int).length) 1),(6,sb b2' (([0,2]:List Int).length) 2),(7,sb b3' (([2,1]:List Int).length) 2),(10,I r6'),(14,.agg #[I ak10',(Z10 Aq10' aq10' cq10'),Str an10',I apt10'])]∧(0≤r6'∧(r6'<4∨r6'=0))∧(q6'≤p+1)∧(aq10'.length≤4)∧(an10'.length≤21)∧(q10'≤q6'+40)∧SH w w' [rb] [(Z5 rb Ab bs cb q10'),.blk b1 53 Z1,(Z17 b0'),(Z7 Aq10' aq10' cq10'),(Z15 b2'),(Z16 b3')]) ?_ (fun D_1_24=>?_)
  ·rintro f w62 ⟨b0',b2',b3',r6',q6',Aq10',cq10',ak10',aq10',an10',apt10',q10',⟨g25,rfl⟩,p112,p113,p114,p115,p116,hs62⟩
   refine aaL [1,12] (fa_cons ?_ (fa_one ?_))
   ·refine one_ r0 (bsk hs62 sl22 [I 2] [I 2] trivial r0 (fun b1' w63 hs63=>?_))
    exact nk (m1 hs63 1 r0) (alc D_1_10 ⟨b0',b1',b2',b3',r6',q6',Aq10',cq10',ak10',aq10',an10',apt10',q10',(zR r0),p112,p113,p114,p115,p116,(hs63.pk [0,1,2,6,3,4,5] r0)⟩)
   ·refine one_ r0 (al (v:=.agg #[ns,Str [],Str [],I 0,ns,Str [],I 0]) (cs:=Z1) hs62 tz53 r0 trivial r0 (fun b12' w64 hs64=>?_))
    exact nk (m1 hs64 1 r0) (alc D_1_14 ⟨b0',b2',b3',r6',q6',b12',Aq10',cq10',ak10',aq10',an10',apt10',q10',(zR r0),p112,p113,p114,p115,p116,(hs64.pk [0,1,2,3,6,4,5] r0)⟩)
  refine dG 7 14 4717 (fun f w'=>∃ (b0' b2' b3':Nat) (r6':Int) (q6' b12':Nat),Hz f [(0,pB rb),(2,pB b1),(3,pB b12'),(4,sb b0' (([0]:List Int).length) 1),(6,sb b2' (([0,2]:List Int).length) 2),(7,sb b3' (([2,1]:List Int).length) 2),(10,I r6'),(13,pB rb)]∧(0≤r6'∧(r6'<4∨r6'=0))∧(q6'≤p+1)∧SH w w' [rb] [(Z5 rb Ab bs cb q6'),.blk b1 53 Z1,(Z17 b0'),.blk b12' 53 Z1,(Z15 b2'),(Z16 b3')]) ?_ (fun D_1_25=>?_)
  ·rintro f w65 ⟨b0',b2',b3',r6',q6',b12',⟨g26,rfl⟩,p117,p118,hs65⟩
   refine aaL [1,10] (fa_cons ?_ (fa_one ?_))
   ·refine one_ r0 (bsk hs65 sl22 [I 2] [I 2] trivial r0 (fun b1' w66 hs66=>?_))
    exact nk (m1 hs66 1 r0) (alc D_1_11 ⟨b0',b1',b2',b3',r6',q6',b12',(zR r0),p117,p118,(hs66.pk [0,1,2,6,3,4,5] r0)⟩)
   ·refine one_ r0 (cL r0 (l91Address (rb:=rb) (Ab:=Ab) (cb:=cb) (bs:=bs) (p:=q6') (w:=_) (hr:=(blk_heap hs65 0 r0)) (hb:=(hb.up hs65 (fun _ h=>h) (fun _ h=>.inl h))) (hbn:=‹_›) (hp:=(by omega))) ?_)
    rintro _ w67 ⟨Aq10',cq10',ak10',aq10',an10',apt10',q10',rfl,p119,p120,p121,hs67⟩
    replace hs67:=hs65.callM 0 r0 hs67 m_1
    exact nk (m1 hs67 0 r0) (alc D_1_14 ⟨b0',b2',b3',r6',q6',b12',Aq10',cq10',ak10',aq10',an10',apt10',q10',(zR r0),p117,p118,p119,p120,p121,(hs67.pk [5,0,1,6,2,3,4] r0)⟩)
  refine dG 7 14 5733 (fun f w'=>∃ (b0' b2':Nat) (r6':Int) (q6' b12':Nat) (Aq10':Option Addr) (cq10':Nat) (ak10':Int) (aq10':List Int) (an10':List UInt8) (apt10':Int) (q10':Nat),Hz f [(0,pB rb),(2,pB b1),(3,pB b12'),(4,sb b0' (([0]:List Int).length) 1),(6,sb b2' (([0,2]:List Int).length) 2),(10,I r6'),(14,.agg #[I ak10',(Z10 Aq10' aq10' cq10'),Str an10',I apt10'])]∧(0≤r6'∧(r6'<4∨r6'=0))∧(q6'≤p+1)∧(aq10'.length≤4)∧(an10'.length≤21)∧(q10'≤q6'+40)∧SH w w' [rb] [(Z5 rb Ab bs cb q10'),.blk b1 53 Z1,(Z17 b0'),(Z7 Aq10' aq10' cq10'),.blk b12' 53 Z1,(Z15 b2')]) ?_ (fun D_1_26=>?_)
  ·rintro f w68 ⟨b0',b2',r6',q6',b12',Aq10',cq10',ak10',aq10',an10',apt10',q10',⟨g27,rfl⟩,p122,p123,p124,p125,p126,hs68⟩
   refine aaL [1,3] (fa_cons ?_ (fa_one ?_))
   ·refine one_ r0 (bsk hs68 sl22 [I 2] [I 2] trivial r0 (fun b1' w69 hs69=>?_))
    exact nk (m1 hs69 1 r0) (alc D_1_12 ⟨b0',b1',b2',r6',q6',b12',Aq10',cq10',ak10',aq10',an10',apt10',q10',(zR r0),p122,p123,p124,p125,p126,(hs69.pk [0,1,2,6,3,4,5] r0)⟩)
   ·refine one_ r0 (bsk hs68 sl22 [I 2,I 1] [I 2,I 1] trivial r0 (fun b3' w70 hs70=>?_))
    exact nk (m1 hs70 1 r0) (alc D_1_14 ⟨b0',b2',b3',r6',q6',b12',Aq10',cq10',ak10',aq10',an10',apt10',q10',(zR r0),p122,p123,p124,p125,p126,hs70⟩)
  refine dG 7 14 5737 (fun f w'=>∃ (b0' b3':Nat) (r6':Int) (q6' b12':Nat) (Aq10':Option Addr) (cq10':Nat) (ak10':Int) (aq10':List Int) (an10':List UInt8) (apt10':Int) (q10':Nat),Hz f [(0,pB rb),(2,pB b1),(3,pB b12'),(4,sb b0' (([0]:List Int).length) 1),(7,sb b3' (([2,1]:List Int).length) 2),(10,I r6'),(14,.agg #[I ak10',(Z10 Aq10' aq10' cq10'),Str an10',I apt10'])]∧(0≤r6'∧(r6'<4∨r6'=0))∧(q6'≤p+1)∧(aq10'.length≤4)∧(an10'.length≤21)∧(q10'≤q6'+40)∧SH w w' [rb] [(Z5 rb Ab bs cb q10'),.blk b1 53 Z1,(Z17 b0'),(Z7 Aq10' aq10' cq10'),.blk b12' 53 Z1,(Z16 b3')]) ?_ (fun D_1_27=>?_)
  ·rintro f w71 ⟨b0',b3',r6',q6',b12',Aq10',cq10',ak10',aq10',an10',apt10',q10',⟨g28,rfl⟩,p127,p128,p129,p130,p131,hs71⟩
   refine aaL [1,2] (fa_cons ?_ (fa_one ?_))
   ·refine one_ r0 (bsk hs71 sl22 [I 2] [I 2] trivial r0 (fun b1' w72 hs72=>?_))
    exact nk (m1 hs72 1 r0) (alc D_1_13 ⟨b0',b1',b3',r6',q6',b12',Aq10',cq10',ak10',aq10',an10',apt10',q10',(zR r0),p127,p128,p129,p130,p131,(hs72.pk [0,1,2,6,3,4,5] r0)⟩)
   ·refine one_ r0 (bsk hs71 sl22 [I 0,I 2] [I 0,I 2] trivial r0 (fun b2' w73 hs73=>?_))
    exact nk (m1 hs73 1 r0) (alc D_1_14 ⟨b0',b2',b3',r6',q6',b12',Aq10',cq10',ak10',aq10',an10',apt10',q10',(zR r0),p127,p128,p129,p130,p131,(hs73.pk [0,1,2,3,4,6,5] r0)⟩)
  refine dG 7 14 1646 (fun f w'=>∃ (b1' b2' b3':Nat) (r6':Int) (q6':Nat) (Aq10':Option Addr) (cq10':Nat) (ak10':Int) (aq10':List Int) (an10':List UInt8) (apt10':Int) (q10':Nat),Hz f [(0,pB rb),(2,pB b1),(5,sb b1' (([2]:List Int).length) 1),(6,sb b2' (([0,2]:List Int).length) 2),(7,sb b3' (([2,1]:List Int).length) 2),(10,I r6'),(14,.agg #[I ak10',(Z10 Aq10' aq10' cq10'),Str an10',I apt10'])]∧(0≤r6'∧(r6'<4∨r6'=0))∧(q6'≤p+1)∧(aq10'.length≤4)∧(an10'.length≤21)∧(q10'≤q6'+40)∧SH w w' [rb] [(Z5 rb Ab bs cb q10'),.blk b1 53 Z1,(Z19 b1'),(Z7 Aq10' aq10' cq10'),(Z15 b2'),(Z16 b3')]) ?_ (fun D_1_28=>?_)
  ·rintro f w74 ⟨b1',b2',b3',r6',q6',Aq10',cq10',ak10',aq10',an10',apt10',q10',⟨g29,rfl⟩,p132,p133,p134,p135,p136,hs74⟩
   refine aaL [0,12] (fa_cons ?_ (fa_one ?_))
   ·refine one_ r0 (bsk hs74 sl22 [I 0] [I 0] trivial r0 (fun b0' w75 hs75=>?_))
    exact nk (m1 hs75 1 r0) (alc D_1_10 ⟨b0',b1',b2',b3',r6',q6',Aq10',cq10',ak10',aq10',an10',apt10',q10',(zR r0),p132,p133,p134,p135,p136,(hs75.pk [0,1,6,2,3,4,5] r0)⟩)
   ·refine one_ r0 (al (v:=.agg #[ns,Str [],Str [],I 0,ns,Str [],I 0]) (cs:=Z1) hs74 tz53 r0 trivial r0 (fun b12' w76 hs76=>?_))
    exact nk (m1 hs76 1 r0) (alc D_1_15 ⟨b1',b2',b3',r6',q6',b12',Aq10',cq10',ak10',aq10',an10',apt10',q10',(zR r0),p132,p133,p134,p135,p136,(hs76.pk [0,1,2,3,6,4,5] r0)⟩)
  refine dG 7 14 4718 (fun f w'=>∃ (b1' b2' b3':Nat) (r6':Int) (q6' b12':Nat),Hz f [(0,pB rb),(2,pB b1),(3,pB b12'),(5,sb b1' (([2]:List Int).length) 1),(6,sb b2' (([0,2]:List Int).length) 2),(7,sb b3' (([2,1]:List Int).length) 2),(10,I r6'),(13,pB rb)]∧(0≤r6'∧(r6'<4∨r6'=0))∧(q6'≤p+1)∧SH w w' [rb] [(Z5 rb Ab bs cb q6'),.blk b1 53 Z1,(Z19 b1'),.blk b12' 53 Z1,(Z15 b2'),(Z16 b3')]) ?_ (fun D_1_29=>?_)
  ·rintro f w77 ⟨b1',b2',b3',r6',q6',b12',⟨g30,rfl⟩,p137,p138,hs77⟩
   refine aaL [0,10] (fa_cons ?_ (fa_one ?_))
   ·refine one_ r0 (bsk hs77 sl22 [I 0] [I 0] trivial r0 (fun b0' w78 hs78=>?_))
    exact nk (m1 hs78 1 r0) (alc D_1_11 ⟨b0',b1',b2',b3',r6',q6',b12',(zR r0),p137,p138,(hs78.pk [0,1,6,2,3,4,5] r0)⟩)
   ·refine one_ r0 (cL r0 (l91Address (rb:=rb) (Ab:=Ab) (cb:=cb) (bs:=bs) (p:=q6') (w:=_) (hr:=(blk_heap hs77 0 r0)) (hb:=(hb.up hs77 (fun _ h=>h) (fun _ h=>.inl h))) (hbn:=‹_›) (hp:=(by omega))) ?_)
    rintro _ w79 ⟨Aq10',cq10',ak10',aq10',an10',apt10',q10',rfl,p139,p140,p141,hs79⟩
    replace hs79:=hs77.callM 0 r0 hs79 m_1
    exact nk (m1 hs79 0 r0) (alc D_1_15 ⟨b1',b2',b3',r6',q6',b12',Aq10',cq10',ak10',aq10',an10',apt10',q10',(zR r0),p137,p138,p139,p140,p141,(hs79.pk [5,0,1,6,2,3,4] r0)⟩)
  refine dG 7 14 5734 (fun f w'=>∃ (b1' b2':Nat) (r6':Int) (q6' b12':Nat) (Aq10':Option Addr) (cq10':Nat) (ak10':Int) (aq10':List Int) (an10':List UInt8) (apt10':Int) (q10':Nat),Hz f [(0,pB rb),(2,pB b1),(3,pB b12'),(5,sb b1' (([2]:List Int).length) 1),(6,sb b2' (([0,2]:List Int).length) 2),(10,I r6'),(14,.agg #[I ak10',(Z10 Aq10' aq10' cq10'),Str an10',I apt10'])]∧(0≤r6'∧(r6'<4∨r6'=0))∧(q6'≤p+1)∧(aq10'.length≤4)∧(an10'.length≤21)∧(q10'≤q6'+40)∧SH w w' [rb] [(Z5 rb Ab bs cb q10'),.blk b1 53 Z1,(Z19 b1'),(Z7 Aq10' aq10' cq10'),.blk b12' 53 Z1,(Z15 b2')]) ?_ (fun D_1_30=>?_)
  ·rintro f w80 ⟨b1',b2',r6',q6',b12',Aq10',cq10',ak10',aq10',an10',apt10',q10',⟨g31,rfl⟩,p142,p143,p144,p145,p146,hs80⟩
   refine aaL [0,3] (fa_cons ?_ (fa_one ?_))
   ·refine one_ r0 (bsk hs80 sl22 [I 0] [I 0] trivial r0 (fun b0' w81 hs81=>?_))
    exact nk (m1 hs81 1 r0) (alc D_1_12 ⟨b0',b1',b2',r6',q6',b12',Aq10',cq10',ak10',aq10',an10',apt10',q10',(zR r0),p142,p143,p144,p145,p146,(hs81.pk [0,1,6,2,3,4,5] r0)⟩)
   ·refine one_ r0 (bsk hs80 sl22 [I 2,I 1] [I 2,I 1] trivial r0 (fun b3' w82 hs82=>?_))
    exact nk (m1 hs82 1 r0) (alc D_1_15 ⟨b1',b2',b3',r6',q6',b12',Aq10',cq10',ak10',aq10',an10',apt10',q10',(zR r0),p142,p143,p144,p145,p146,hs82⟩)
  refine dG 7 14 5738 (fun f w'=>∃ (b1' b3':Nat) (r6':Int) (q6' b12':Nat) (Aq10':Option Addr) (cq10':Nat) (ak10':Int) (aq10':List Int) (an10':List UInt8) (apt10':Int) (q10':Nat),Hz f [(0,pB rb),(2,pB b1),(3,pB b12'),(5,sb b1' (([2]:List Int).length) 1),(7,sb b3' (([2,1]:List Int).length) 2),(10,I r6'),(14,.agg #[I ak10',(Z10 Aq10' aq10' cq10'),Str an10',I apt10'])]∧(0≤r6'∧(r6'<4∨r6'=0))∧(q6'≤p+1)∧(aq10'.length≤4)∧(an10'.length≤21)∧(q10'≤q6'+40)∧SH w w' [rb] [(Z5 rb Ab bs cb q10'),.blk b1 53 Z1,(Z19 b1'),(Z7 Aq10' aq10' cq10'),.blk b12' 53 Z1,(Z16 b3')]) ?_ (fun D_1_31=>?_)
  ·rintro f w83 ⟨b1',b3',r6',q6',b12',Aq10',cq10',ak10',aq10',an10',apt10',q10',⟨g32,rfl⟩,p147,p148,p149,p150,p151,hs83⟩
   refine aaL [0,2] (fa_cons ?_ (fa_one ?_))
   ·refine one_ r0 (bsk hs83 sl22 [I 0] [I 0] trivial r0 (fun b0' w84 hs84=>?_))
    exact nk (m1 hs84 1 r0) (alc D_1_13 ⟨b0',b1',b3',r6',q6',b12',Aq10',cq10',ak10',aq10',an10',apt10',q10',(zR r0),p147,p148,p149,p150,p151,(hs84.pk [0,1,6,2,3,4,5] r0)⟩)
   ·refine one_ r0 (bsk hs83 sl22 [I 0,I 2] [I 0,I 2] trivial r0 (fun b2' w85 hs85=>?_))
    exact nk (m1 hs85 1 r0) (alc D_1_15 ⟨b1',b2',b3',r6',q6',b12',Aq10',cq10',ak10',aq10',an10',apt10',q10',(zR r0),p147,p148,p149,p150,p151,(hs85.pk [0,1,2,3,4,6,5] r0)⟩)
  refine dG 7 14 5740 (fun f w'=>∃ (b2' b3':Nat) (r6':Int) (q6' b12':Nat) (Aq10':Option Addr) (cq10':Nat) (ak10':Int) (aq10':List Int) (an10':List UInt8) (apt10':Int) (q10':Nat),Hz f [(0,pB rb),(2,pB b1),(3,pB b12'),(6,sb b2' (([0,2]:List Int).length) 2),(7,sb b3' (([2,1]:List Int).length) 2),(10,I r6'),(14,.agg #[I ak10',(Z10 Aq10' aq10' cq10'),Str an10',I apt10'])]∧(0≤r6'∧(r6'<4∨r6'=0))∧(q6'≤p+1)∧(aq10'.length≤4)∧(an10'.length≤21)∧(q10'≤q6'+40)∧SH w w' [rb] [(Z5 rb Ab bs cb q10'),.blk b1 53 Z1,(Z7 Aq10' aq10' cq10'),.blk b12' 53 Z1,(Z15 b2'),(Z16 b3')]) ?_ (fun D_1_32=>?_)
  ·rintro f w86 ⟨b2',b3',r6',q6',b12',Aq10',cq10',ak10',aq10',an10',apt10',q10',⟨g33,rfl⟩,p152,p153,p154,p155,p156,hs86⟩
   refine aaL [0,1] (fa_cons ?_ (fa_one ?_))
   ·refine one_ r0 (bsk hs86 sl22 [I 0] [I 0] trivial r0 (fun b0' w87 hs87=>?_))
    exact nk (m1 hs87 1 r0) (alc D_1_14 ⟨b0',b2',b3',r6',q6',b12',Aq10',cq10',ak10',aq10',an10',apt10',q10',(zR r0),p152,p153,p154,p155,p156,(hs87.pk [0,1,6,2,3,4,5] r0)⟩)
   ·refine one_ r0 (bsk hs86 sl22 [I 2] [I 2] trivial r0 (fun b1' w88 hs88=>?_))
    exact nk (m1 hs88 1 r0) (alc D_1_15 ⟨b1',b2',b3',r6',q6',b12',Aq10',cq10',ak10',aq10',an10',apt10',q10',(zR r0),p152,p153,p154,p155,p156,(hs88.pk [0,1,6,2,3,4,5] r0)⟩)
  refine dG 8 14 559 (fun f w'=>∃ (b0' b1' b2' b3':Nat),Hz f [(0,pB rb),(2,pB b1),(4,sb b0' (([0]:List Int).length) 1),(5,sb b1' (([2]:List Int).length) 1),(6,sb b2' (([0,2]:List Int).length) 2),(7,sb b3' (([2,1]:List Int).length) 2),(9,pB rb),(13,pB rb)]∧SH w w' [rb] [(Z5 rb Ab bs cb p),.blk b1 53 Z1,(Z17 b0'),(Z19 b1'),(Z15 b2'),(Z16 b3')]) ?_ (fun D_1_33=>?_)
  ·rintro f w89 ⟨b0',b1',b2',b3',⟨g34,rfl⟩,hs89⟩
   refine aaL [4,6,12] (fa_cons ?_ (fa_cons ?_ (fa_one ?_)))
   ·refine one_ r0 (bsk hs89 sl91 [sb b0' (([0]:List Int).length) 1,sb b1' (([2]:List Int).length) 1,sb b2' (([0,2]:List Int).length) 2,sb b3' (([2,1]:List Int).length) 2] [sb b0' (([0]:List Int).length) 1,sb b1' (([2]:List Int).length) 1,sb b2' (([0,2]:List Int).length) 2,sb b3' (([2,1]:List Int).length) 2] trivial r0 (fun b4' w90 hs90=>?_))
    exact nk (m1 hs90 1 r0) (alc D_1_16 ⟨b0',b1',b2',b3',b4',(zR r0),hs90⟩)
   ·refine one_ r0 (cL r0 (pick (rb:=rb) (Ab:=Ab) (cb:=cb) (bs:=bs) (p:=p) (n:=4) (w:=_) (hr:=(blk_heap hs89 0 r0)) (hb:=(hb.up hs89 (fun _ h=>h) (fun _ h=>.inl h))) (hbn:=‹_›) (hp:=(by omega))) ?_)
    rintro _ w91 ⟨r6',q6',rfl,p157,p158,hs91⟩
    replace hs91:=hs89.callM 0 r0 hs91 m_1
    exact nk (m1 hs91 0 r0) (alc D_1_17 ⟨b0',b1',b2',b3',r6',q6',(zR r0),p157,p158,(hs91.pk [5,0,1,2,3,4] r0)⟩)
   ·refine one_ r0 (al (v:=.agg #[ns,Str [],Str [],I 0,ns,Str [],I 0]) (cs:=Z1) hs89 tz53 r0 trivial r0 (fun b12' w92 hs92=>?_))
    exact nk (m1 hs92 1 r0) (alc D_1_18 ⟨b0',b1',b2',b3',b12',(zR r0),(hs92.pk [0,1,2,3,6,4,5] r0)⟩)
  refine dG 8 14 615 (fun f w'=>∃ (b0' b1' b2':Nat) (r6':Int) (q6':Nat),Hz f [(0,pB rb),(2,pB b1),(4,sb b0' (([0]:List Int).length) 1),(5,sb b1' (([2]:List Int).length) 1),(6,sb b2' (([0,2]:List Int).length) 2),(10,I r6'),(13,pB rb)]∧(0≤r6'∧(r6'<4∨r6'=0))∧(q6'≤p+1)∧SH w w' [rb] [(Z5 rb Ab bs cb q6'),.blk b1 53 Z1,(Z17 b0'),(Z19 b1'),(Z15 b2')]) ?_ (fun D_1_34=>?_)
  ·rintro f w93 ⟨b0',b1',b2',r6',q6',⟨g35,rfl⟩,p159,p160,hs93⟩
   refine aaL [3,10,12] (fa_cons ?_ (fa_cons ?_ (fa_one ?_)))
   ·refine one_ r0 (bsk hs93 sl22 [I 2,I 1] [I 2,I 1] trivial r0 (fun b3' w94 hs94=>?_))
    exact nk (m1 hs94 1 r0) (alc D_1_17 ⟨b0',b1',b2',b3',r6',q6',(zR r0),p159,p160,hs94⟩)
   ·refine one_ r0 (cL r0 (l91Address (rb:=rb) (Ab:=Ab) (cb:=cb) (bs:=bs) (p:=q6') (w:=_) (hr:=(blk_heap hs93 0 r0)) (hb:=(hb.up hs93 (fun _ h=>h) (fun _ h=>.inl h))) (hbn:=‹_›) (hp:=(by omega))) ?_)
    rintro _ w95 ⟨Aq10',cq10',ak10',aq10',an10',apt10',q10',rfl,p161,p162,p163,hs95⟩
    replace hs95:=hs93.callM 0 r0 hs95 m_1
    exact nk (m1 hs95 0 r0) (alc D_1_19 ⟨b0',b1',b2',r6',q6',Aq10',cq10',ak10',aq10',an10',apt10',q10',(zR r0),p159,p160,p161,p162,p163,(hs95.pk [4,0,1,2,5,3] r0)⟩)
   ·refine one_ r0 (al (v:=.agg #[ns,Str [],Str [],I 0,ns,Str [],I 0]) (cs:=Z1) hs93 tz53 r0 trivial r0 (fun b12' w96 hs96=>?_))
    exact nk (m1 hs96 1 r0) (alc D_1_20 ⟨b0',b1',b2',r6',q6',b12',(zR r0),p159,p160,(hs96.pk [0,1,2,3,5,4] r0)⟩)
  refine dG 8 14 4647 (fun f w'=>∃ (b0' b1' b2' b12':Nat),Hz f [(0,pB rb),(2,pB b1),(3,pB b12'),(4,sb b0' (([0]:List Int).length) 1),(5,sb b1' (([2]:List Int).length) 1),(6,sb b2' (([0,2]:List Int).length) 2),(9,pB rb),(13,pB rb)]∧SH w w' [rb] [(Z5 rb Ab bs cb p),.blk b1 53 Z1,(Z17 b0'),(Z19 b1'),.blk b12' 53 Z1,(Z15 b2')]) ?_ (fun D_1_35=>?_)
  ·rintro f w97 ⟨b0',b1',b2',b12',⟨g36,rfl⟩,hs97⟩
   refine aaL [3,6] (fa_cons ?_ (fa_one ?_))
   ·refine one_ r0 (bsk hs97 sl22 [I 2,I 1] [I 2,I 1] trivial r0 (fun b3' w98 hs98=>?_))
    exact nk (m1 hs98 1 r0) (alc D_1_18 ⟨b0',b1',b2',b3',b12',(zR r0),hs98⟩)
   ·refine one_ r0 (cL r0 (pick (rb:=rb) (Ab:=Ab) (cb:=cb) (bs:=bs) (p:=p) (n:=4) (w:=_) (hr:=(blk_heap hs97 0 r0)) (hb:=(hb.up hs97 (fun _ h=>h) (fun _ h=>.inl h))) (hbn:=‹_›) (hp:=(by omega))) ?_)
    rintro _ w99 ⟨r6',q6',rfl,p164,p165,hs99⟩
    replace hs99:=hs97.callM 0 r0 hs99 m_1
    exact nk (m1 hs99 0 r0) (alc D_1_20 ⟨b0',b1',b2',r6',q6',b12',(zR r0),p164,p165,(hs99.pk [5,0,1,2,3,4] r0)⟩)
  refine dG 8 14 619 (fun f w'=>∃ (b0' b1' b3':Nat) (r6':Int) (q6':Nat),Hz f [(0,pB rb),(2,pB b1),(4,sb b0' (([0]:List Int).length) 1),(5,sb b1' (([2]:List Int).length) 1),(7,sb b3' (([2,1]:List Int).length) 2),(10,I r6'),(13,pB rb)]∧(0≤r6'∧(r6'<4∨r6'=0))∧(q6'≤p+1)∧SH w w' [rb] [(Z5 rb Ab bs cb q6'),.blk b1 53 Z1,(Z17 b0'),(Z19 b1'),(Z16 b3')]) ?_ (fun D_1_36=>?_)
  ·rintro f w100 ⟨b0',b1',b3',r6',q6',⟨g37,rfl⟩,p166,p167,hs100⟩
   refine aaL [2,10,12] (fa_cons ?_ (fa_cons ?_ (fa_one ?_)))
   ·refine one_ r0 (bsk hs100 sl22 [I 0,I 2] [I 0,I 2] trivial r0 (fun b2' w101 hs101=>?_))
    exact nk (m1 hs101 1 r0) (alc D_1_17 ⟨b0',b1',b2',b3',r6',q6',(zR r0),p166,p167,(hs101.pk [0,1,2,3,5,4] r0)⟩)
   ·refine one_ r0 (cL r0 (l91Address (rb:=rb) (Ab:=Ab) (cb:=cb) (bs:=bs) (p:=q6') (w:=_) (hr:=(blk_heap hs100 0 r0)) (hb:=(hb.up hs100 (fun _ h=>h) (fun _ h=>.inl h))) (hbn:=‹_›) (hp:=(by omega))) ?_)
    rintro _ w102 ⟨Aq10',cq10',ak10',aq10',an10',apt10',q10',rfl,p168,p169,p170,hs102⟩
    replace hs102:=hs100.callM 0 r0 hs102 m_1
    exact nk (m1 hs102 0 r0) (alc D_1_21 ⟨b0',b1',b3',r6',q6',Aq10',cq10',ak10',aq10',an10',apt10',q10',(zR r0),p166,p167,p168,p169,p170,(hs102.pk [4,0,1,2,5,3] r0)⟩)
   ·refine one_ r0 (al (v:=.agg #[ns,Str [],Str [],I 0,ns,Str [],I 0]) (cs:=Z1) hs100 tz53 r0 trivial r0 (fun b12' w103 hs103=>?_))
    exact nk (m1 hs103 1 r0) (alc D_1_22 ⟨b0',b1',b3',r6',q6',b12',(zR r0),p166,p167,(hs103.pk [0,1,2,3,5,4] r0)⟩)
  refine dG 8 14 4651 (fun f w'=>∃ (b0' b1' b3' b12':Nat),Hz f [(0,pB rb),(2,pB b1),(3,pB b12'),(4,sb b0' (([0]:List Int).length) 1),(5,sb b1' (([2]:List Int).length) 1),(7,sb b3' (([2,1]:List Int).length) 2),(9,pB rb),(13,pB rb)]∧SH w w' [rb] [(Z5 rb Ab bs cb p),.blk b1 53 Z1,(Z17 b0'),(Z19 b1'),.blk b12' 53 Z1,(Z16 b3')]) ?_ (fun D_1_37=>?_)
  ·rintro f w104 ⟨b0',b1',b3',b12',⟨g38,rfl⟩,hs104⟩
   refine aaL [2,6] (fa_cons ?_ (fa_one ?_))
   ·refine one_ r0 (bsk hs104 sl22 [I 0,I 2] [I 0,I 2] trivial r0 (fun b2' w105 hs105=>?_))
    exact nk (m1 hs105 1 r0) (alc D_1_18 ⟨b0',b1',b2',b3',b12',(zR r0),(hs105.pk [0,1,2,3,4,6,5] r0)⟩)
   ·refine one_ r0 (cL r0 (pick (rb:=rb) (Ab:=Ab) (cb:=cb) (bs:=bs) (p:=p) (n:=4) (w:=_) (hr:=(blk_heap hs104 0 r0)) (hb:=(hb.up hs104 (fun _ h=>h) (fun _ h=>.inl h))) (hbn:=‹_›) (hp:=(by omega))) ?_)
    rintro _ w106 ⟨r6',q6',rfl,p171,p172,hs106⟩
    replace hs106:=hs104.callM 0 r0 hs106 m_1
    exact nk (m1 hs106 0 r0) (alc D_1_22 ⟨b0',b1',b3',r6',q6',b12',(zR r0),p171,p172,(hs106.pk [5,0,1,2,3,4] r0)⟩)
  refine dG 8 14 1635 (fun f w'=>∃ (b0' b1':Nat) (r6':Int) (q6':Nat) (Aq10':Option Addr) (cq10':Nat) (ak10':Int) (aq10':List Int) (an10':List UInt8) (apt10':Int) (q10':Nat),Hz f [(0,pB rb),(2,pB b1),(4,sb b0' (([0]:List Int).length) 1),(5,sb b1' (([2]:List Int).length) 1),(10,I r6'),(14,.agg #[I ak10',(Z10 Aq10' aq10' cq10'),Str an10',I apt10'])]∧(0≤r6'∧(r6'<4∨r6'=0))∧(q6'≤p+1)∧(aq10'.length≤4)∧(an10'.length≤21)∧(q10'≤q6'+40)∧SH w w' [rb] [(Z5 rb Ab bs cb q10'),.blk b1 53 Z1,(Z17 b0'),(Z19 b1'),(Z7 Aq10' aq10' cq10')]) ?_ (fun D_1_38=>?_)
  ·rintro f w107 ⟨b0',b1',r6',q6',Aq10',cq10',ak10',aq10',an10',apt10',q10',⟨g39,rfl⟩,p173,p174,p175,p176,p177,hs107⟩
   refine aaL [2,3,12] (fa_cons ?_ (fa_cons ?_ (fa_one ?_)))
   ·refine one_ r0 (bsk hs107 sl22 [I 0,I 2] [I 0,I 2] trivial r0 (fun b2' w108 hs108=>?_))
    exact nk (m1 hs108 1 r0) (alc D_1_19 ⟨b0',b1',b2',r6',q6',Aq10',cq10',ak10',aq10',an10',apt10',q10',(zR r0),p173,p174,p175,p176,p177,hs108⟩)
   ·refine one_ r0 (bsk hs107 sl22 [I 2,I 1] [I 2,I 1] trivial r0 (fun b3' w109 hs109=>?_))
    exact nk (m1 hs109 1 r0) (alc D_1_21 ⟨b0',b1',b3',r6',q6',Aq10',cq10',ak10',aq10',an10',apt10',q10',(zR r0),p173,p174,p175,p176,p177,hs109⟩)
   ·refine one_ r0 (al (v:=.agg #[ns,Str [],Str [],I 0,ns,Str [],I 0]) (cs:=Z1) hs107 tz53 r0 trivial r0 (fun b12' w110 hs110=>?_))
    exact nk (m1 hs110 1 r0) (alc D_1_23 ⟨b0',b1',r6',q6',b12',Aq10',cq10',ak10',aq10',an10',apt10',q10',(zR r0),p173,p174,p175,p176,p177,hs110⟩)
  refine dG 8 14 4707 (fun f w'=>∃ (b0' b1':Nat) (r6':Int) (q6' b12':Nat),Hz f [(0,pB rb),(2,pB b1),(3,pB b12'),(4,sb b0' (([0]:List Int).length) 1),(5,sb b1' (([2]:List Int).length) 1),(10,I r6'),(13,pB rb)]∧(0≤r6'∧(r6'<4∨r6'=0))∧(q6'≤p+1)∧SH w w' [rb] [(Z5 rb Ab bs cb q6'),.blk b1 53 Z1,(Z17 b0'),(Z19 b1'),.blk b12' 53 Z1]) ?_ (fun D_1_39=>?_)
  ·rintro f w111 ⟨b0',b1',r6',q6',b12',⟨g40,rfl⟩,p178,p179,hs111⟩
   refine aaL [2,3,10] (fa_cons ?_ (fa_cons ?_ (fa_one ?_)))
   ·refine one_ r0 (bsk hs111 sl22 [I 0,I 2] [I 0,I 2] trivial r0 (fun b2' w112 hs112=>?_))
    exact nk (m1 hs112 1 r0) (alc D_1_20 ⟨b0',b1',b2',r6',q6',b12',(zR r0),p178,p179,hs112⟩)
   ·refine one_ r0 (bsk hs111 sl22 [I 2,I 1] [I 2,I 1] trivial r0 (fun b3' w113 hs113=>?_))
    exact nk (m1 hs113 1 r0) (alc D_1_22 ⟨b0',b1',b3',r6',q6',b12',(zR r0),p178,p179,hs113⟩)
   ·refine one_ r0 (cL r0 (l91Address (rb:=rb) (Ab:=Ab) (cb:=cb) (bs:=bs) (p:=q6') (w:=_) (hr:=(blk_heap hs111 0 r0)) (hb:=(hb.up hs111 (fun _ h=>h) (fun _ h=>.inl h))) (hbn:=‹_›) (hp:=(by omega))) ?_)
    rintro _ w114 ⟨Aq10',cq10',ak10',aq10',an10',apt10',q10',rfl,p180,p181,p182,hs114⟩
    replace hs114:=hs111.callM 0 r0 hs114 m_1
    exact nk (m1 hs114 0 r0) (alc D_1_23 ⟨b0',b1',r6',q6',b12',Aq10',cq10',ak10',aq10',an10',apt10',q10',(zR r0),p178,p179,p180,p181,p182,(hs114.pk [4,0,1,2,5,3] r0)⟩)
  refine dG 8 14 621 (fun f w'=>∃ (b0' b2' b3':Nat) (r6':Int) (q6':Nat),Hz f [(0,pB rb),(2,pB b1),(4,sb b0' (([0]:List Int).length) 1),(6,sb b2' (([0,2]:List Int).length) 2),(7,sb b3' (([2,1]:List Int).length) 2),(10,I r6'),(13,pB rb)]∧(0≤r6'∧(r6'<4∨r6'=0))∧(q6'≤p+1)∧SH w w' [rb] [(Z5 rb Ab bs cb q6'),.blk b1 53 Z1,(Z17 b0'),(Z15 b2'),(Z16 b3')]) ?_ (fun D_1_40=>?_)
  ·rintro f w115 ⟨b0',b2',b3',r6',q6',⟨g41,rfl⟩,p183,p184,hs115⟩
   refine aaL [1,10,12] (fa_cons ?_ (fa_cons ?_ (fa_one ?_)))
   ·refine one_ r0 (bsk hs115 sl22 [I 2] [I 2] trivial r0 (fun b1' w116 hs116=>?_))
    exact nk (m1 hs116 1 r0) (alc D_1_17 ⟨b0',b1',b2',b3',r6',q6',(zR r0),p183,p184,(hs116.pk [0,1,2,5,3,4] r0)⟩)
   ·refine one_ r0 (cL r0 (l91Address (rb:=rb) (Ab:=Ab) (cb:=cb) (bs:=bs) (p:=q6') (w:=_) (hr:=(blk_heap hs115 0 r0)) (hb:=(hb.up hs115 (fun _ h=>h) (fun _ h=>.inl h))) (hbn:=‹_›) (hp:=(by omega))) ?_)
    rintro _ w117 ⟨Aq10',cq10',ak10',aq10',an10',apt10',q10',rfl,p185,p186,p187,hs117⟩
    replace hs117:=hs115.callM 0 r0 hs117 m_1
    exact nk (m1 hs117 0 r0) (alc D_1_24 ⟨b0',b2',b3',r6',q6',Aq10',cq10',ak10',aq10',an10',apt10',q10',(zR r0),p183,p184,p185,p186,p187,(hs117.pk [4,0,1,5,2,3] r0)⟩)
   ·refine one_ r0 (al (v:=.agg #[ns,Str [],Str [],I 0,ns,Str [],I 0]) (cs:=Z1) hs115 tz53 r0 trivial r0 (fun b12' w118 hs118=>?_))
    exact nk (m1 hs118 1 r0) (alc D_1_25 ⟨b0',b2',b3',r6',q6',b12',(zR r0),p183,p184,(hs118.pk [0,1,2,5,3,4] r0)⟩)
  refine dG 8 14 4653 (fun f w'=>∃ (b0' b2' b3' b12':Nat),Hz f [(0,pB rb),(2,pB b1),(3,pB b12'),(4,sb b0' (([0]:List Int).length) 1),(6,sb b2' (([0,2]:List Int).length) 2),(7,sb b3' (([2,1]:List Int).length) 2),(9,pB rb),(13,pB rb)]∧SH w w' [rb] [(Z5 rb Ab bs cb p),.blk b1 53 Z1,(Z17 b0'),.blk b12' 53 Z1,(Z15 b2'),(Z16 b3')]) ?_ (fun D_1_41=>?_)
  ·rintro f w119 ⟨b0',b2',b3',b12',⟨g42,rfl⟩,hs119⟩
   refine aaL [1,6] (fa_cons ?_ (fa_one ?_))
   ·refine one_ r0 (bsk hs119 sl22 [I 2] [I 2] trivial r0 (fun b1' w120 hs120=>?_))
    exact nk (m1 hs120 1 r0) (alc D_1_18 ⟨b0',b1',b2',b3',b12',(zR r0),(hs120.pk [0,1,2,6,3,4,5] r0)⟩)
   ·refine one_ r0 (cL r0 (pick (rb:=rb) (Ab:=Ab) (cb:=cb) (bs:=bs) (p:=p) (n:=4) (w:=_) (hr:=(blk_heap hs119 0 r0)) (hb:=(hb.up hs119 (fun _ h=>h) (fun _ h=>.inl h))) (hbn:=‹_›) (hp:=(by omega))) ?_)
    rintro _ w121 ⟨r6',q6',rfl,p188,p189,hs121⟩
    replace hs121:=hs119.callM 0 r0 hs121 m_1
    exact nk (m1 hs121 0 r0) (alc D_1_25 ⟨b0',b2',b3',r6',q6',b12',(zR r0),p188,p189,(hs121.pk [5,0,1,2,3,4] r0)⟩)
  refine dG 8 14 1637 (fun f w'=>∃ (b0' b2':Nat) (r6':Int) (q6':Nat) (Aq10':Option Addr) (cq10':Nat) (ak10':Int) (aq10':List Int) (an10':List UInt8) (apt10':Int) (q10':Nat),Hz f [(0,pB rb),(2,pB b1),(4,sb b0' (([0]:List Int).length) 1),(6,sb b2' (([0,2]:List Int).length) 2),(10,I r6'),(14,.agg #[I ak10',(Z10 Aq10' aq10' cq10'),Str an10',I apt10'])]∧(0≤r6'∧(r6'<4∨r6'=0))∧(q6'≤p+1)∧(aq10'.length≤4)∧(an10'.length≤21)∧(q10'≤q6'+40)∧SH w w' [rb] [(Z5 rb Ab bs cb q10'),.blk b1 53 Z1,(Z17 b0'),(Z7 Aq10' aq10' cq10'),(Z15 b2')]) ?_ (fun D_1_42=>?_)
  ·rintro f w122 ⟨b0',b2',r6',q6',Aq10',cq10',ak10',aq10',an10',apt10',q10',⟨g43,rfl⟩,p190,p191,p192,p193,p194,hs122⟩
   refine aaL [1,3,12] (fa_cons ?_ (fa_cons ?_ (fa_one ?_)))
   ·refine one_ r0 (bsk hs122 sl22 [I 2] [I 2] trivial r0 (fun b1' w123 hs123=>?_))
    exact nk (m1 hs123 1 r0) (alc D_1_19 ⟨b0',b1',b2',r6',q6',Aq10',cq10',ak10',aq10',an10',apt10',q10',(zR r0),p190,p191,p192,p193,p194,(hs123.pk [0,1,2,5,3,4] r0)⟩)
   ·refine one_ r0 (bsk hs122 sl22 [I 2,I 1] [I 2,I 1] trivial r0 (fun b3' w124 hs124=>?_))
    exact nk (m1 hs124 1 r0) (alc D_1_24 ⟨b0',b2',b3',r6',q6',Aq10',cq10',ak10',aq10',an10',apt10',q10',(zR r0),p190,p191,p192,p193,p194,hs124⟩)
   ·refine one_ r0 (al (v:=.agg #[ns,Str [],Str [],I 0,ns,Str [],I 0]) (cs:=Z1) hs122 tz53 r0 trivial r0 (fun b12' w125 hs125=>?_))
    exact nk (m1 hs125 1 r0) (alc D_1_26 ⟨b0',b2',r6',q6',b12',Aq10',cq10',ak10',aq10',an10',apt10',q10',(zR r0),p190,p191,p192,p193,p194,(hs125.pk [0,1,2,3,5,4] r0)⟩)
  refine dG 8 14 4709 (fun f w'=>∃ (b0' b2':Nat) (r6':Int) (q6' b12':Nat),Hz f [(0,pB rb),(2,pB b1),(3,pB b12'),(4,sb b0' (([0]:List Int).length) 1),(6,sb b2' (([0,2]:List Int).length) 2),(10,I r6'),(13,pB rb)]∧(0≤r6'∧(r6'<4∨r6'=0))∧(q6'≤p+1)∧SH w w' [rb] [(Z5 rb Ab bs cb q6'),.blk b1 53 Z1,(Z17 b0'),.blk b12' 53 Z1,(Z15 b2')]) ?_ (fun D_1_43=>?_)
  ·rintro f w126 ⟨b0',b2',r6',q6',b12',⟨g44,rfl⟩,p195,p196,hs126⟩
   refine aaL [1,3,10] (fa_cons ?_ (fa_cons ?_ (fa_one ?_)))
   ·refine one_ r0 (bsk hs126 sl22 [I 2] [I 2] trivial r0 (fun b1' w127 hs127=>?_))
    exact nk (m1 hs127 1 r0) (alc D_1_20 ⟨b0',b1',b2',r6',q6',b12',(zR r0),p195,p196,(hs127.pk [0,1,2,5,3,4] r0)⟩)
   ·refine one_ r0 (bsk hs126 sl22 [I 2,I 1] [I 2,I 1] trivial r0 (fun b3' w128 hs128=>?_))
    exact nk (m1 hs128 1 r0) (alc D_1_25 ⟨b0',b2',b3',r6',q6',b12',(zR r0),p195,p196,hs128⟩)
   ·refine one_ r0 (cL r0 (l91Address (rb:=rb) (Ab:=Ab) (cb:=cb) (bs:=bs) (p:=q6') (w:=_) (hr:=(blk_heap hs126 0 r0)) (hb:=(hb.up hs126 (fun _ h=>h) (fun _ h=>.inl h))) (hbn:=‹_›) (hp:=(by omega))) ?_)
    rintro _ w129 ⟨Aq10',cq10',ak10',aq10',an10',apt10',q10',rfl,p197,p198,p199,hs129⟩
    replace hs129:=hs126.callM 0 r0 hs129 m_1
    exact nk (m1 hs129 0 r0) (alc D_1_26 ⟨b0',b2',r6',q6',b12',Aq10',cq10',ak10',aq10',an10',apt10',q10',(zR r0),p195,p196,p197,p198,p199,(hs129.pk [4,0,1,5,2,3] r0)⟩)
  refine dG 8 14 1641 (fun f w'=>∃ (b0' b3':Nat) (r6':Int) (q6':Nat) (Aq10':Option Addr) (cq10':Nat) (ak10':Int) (aq10':List Int) (an10':List UInt8) (apt10':Int) (q10':Nat),Hz f [(0,pB rb),(2,pB b1),(4,sb b0' (([0]:List Int).length) 1),(7,sb b3' (([2,1]:List Int).length) 2),(10,I r6'),(14,.agg #[I ak10',(Z10 Aq10' aq10' cq10'),Str an10',I apt10'])]∧(0≤r6'∧(r6'<4∨r6'=0))∧(q6'≤p+1)∧(aq10'.length≤4)∧(an10'.length≤21)∧(q10'≤q6'+40)∧SH w w' [rb] [(Z5 rb Ab bs cb q10'),.blk b1 53 Z1,(Z17 b0'),(Z7 Aq10' aq10' cq10'),(Z16 b3')]) ?_ (fun D_1_44=>?_)
  ·rintro f w130 ⟨b0',b3',r6',q6',Aq10',cq10',ak10',aq10',an10',apt10',q10',⟨g45,rfl⟩,p200,p201,p202,p203,p204,hs130⟩
   refine aaL [1,2,12] (fa_cons ?_ (fa_cons ?_ (fa_one ?_)))
   ·refine one_ r0 (bsk hs130 sl22 [I 2] [I 2] trivial r0 (fun b1' w131 hs131=>?_))
    exact nk (m1 hs131 1 r0) (alc D_1_21 ⟨b0',b1',b3',r6',q6',Aq10',cq10',ak10',aq10',an10',apt10',q10',(zR r0),p200,p201,p202,p203,p204,(hs131.pk [0,1,2,5,3,4] r0)⟩)
   ·refine one_ r0 (bsk hs130 sl22 [I 0,I 2] [I 0,I 2] trivial r0 (fun b2' w132 hs132=>?_))
    exact nk (m1 hs132 1 r0) (alc D_1_24 ⟨b0',b2',b3',r6',q6',Aq10',cq10',ak10',aq10',an10',apt10',q10',(zR r0),p200,p201,p202,p203,p204,(hs132.pk [0,1,2,3,5,4] r0)⟩)
   ·refine one_ r0 (al (v:=.agg #[ns,Str [],Str [],I 0,ns,Str [],I 0]) (cs:=Z1) hs130 tz53 r0 trivial r0 (fun b12' w133 hs133=>?_))
    exact nk (m1 hs133 1 r0) (alc D_1_27 ⟨b0',b3',r6',q6',b12',Aq10',cq10',ak10',aq10',an10',apt10',q10',(zR r0),p200,p201,p202,p203,p204,(hs133.pk [0,1,2,3,5,4] r0)⟩)
  refine dG 8 14 4713 (fun f w'=>∃ (b0' b3':Nat) (r6':Int) (q6' b12':Nat),Hz f [(0,pB rb),(2,pB b1),(3,pB b12'),(4,sb b0' (([0]:List Int).length) 1),(7,sb b3' (([2,1]:List Int).length) 2),(10,I r6'),(13,pB rb)]∧(0≤r6'∧(r6'<4∨r6'=0))∧(q6'≤p+1)∧SH w w' [rb] [(Z5 rb Ab bs cb q6'),.blk b1 53 Z1,(Z17 b0'),.blk b12' 53 Z1,(Z16 b3')]) ?_ (fun D_1_45=>?_)
  ·rintro f w134 ⟨b0',b3',r6',q6',b12',⟨g46,rfl⟩,p205,p206,hs134⟩
   refine aaL [1,2,10] (fa_cons ?_ (fa_cons ?_ (fa_one ?_)))
   ·refine one_ r0 (bsk hs134 sl22 [I 2] [I 2] trivial r0 (fun b1' w135 hs135=>?_))
    exact nk (m1 hs135 1 r0) (alc D_1_22 ⟨b0',b1',b3',r6',q6',b12',(zR r0),p205,p206,(hs135.pk [0,1,2,5,3,4] r0)⟩)
   ·refine one_ r0 (bsk hs134 sl22 [I 0,I 2] [I 0,I 2] trivial r0 (fun b2' w136 hs136=>?_))
    exact nk (m1 hs136 1 r0) (alc D_1_25 ⟨b0',b2',b3',r6',q6',b12',(zR r0),p205,p206,(hs136.pk [0,1,2,3,5,4] r0)⟩)
   ·refine one_ r0 (cL r0 (l91Address (rb:=rb) (Ab:=Ab) (cb:=cb) (bs:=bs) (p:=q6') (w:=_) (hr:=(blk_heap hs134 0 r0)) (hb:=(hb.up hs134 (fun _ h=>h) (fun _ h=>.inl h))) (hbn:=‹_›) (hp:=(by omega))) ?_)
    rintro _ w137 ⟨Aq10',cq10',ak10',aq10',an10',apt10',q10',rfl,p207,p208,p209,hs137⟩
    replace hs137:=hs134.callM 0 r0 hs137 m_1
    exact nk (m1 hs137 0 r0) (alc D_1_27 ⟨b0',b3',r6',q6',b12',Aq10',cq10',ak10',aq10',an10',apt10',q10',(zR r0),p205,p206,p207,p208,p209,(hs137.pk [4,0,1,5,2,3] r0)⟩)
  refine dG 8 14 5729 (fun f w'=>∃ (b0':Nat) (r6':Int) (q6' b12':Nat) (Aq10':Option Addr) (cq10':Nat) (ak10':Int) (aq10':List Int) (an10':List UInt8) (apt10':Int) (q10':Nat),Hz f [(0,pB rb),(2,pB b1),(3,pB b12'),(4,sb b0' (([0]:List Int).length) 1),(10,I r6'),(14,.agg #[I ak10',(Z10 Aq10' aq10' cq10'),Str an10',I apt10'])]∧(0≤r6'∧(r6'<4∨r6'=0))∧(q6'≤p+1)∧(aq10'.length≤4)∧(an10'.length≤21)∧(q10'≤q6'+40)∧SH w w' [rb] [(Z5 rb Ab bs cb q10'),.blk b1 53 Z1,(Z17 b0'),(Z7 Aq10' aq10' cq10'),.blk b12' 53 Z1]) ?_ (fun D_1_46=>?_)
  ·rintro f w138 ⟨b0',r6',q6',b12',Aq10',cq10',ak10',aq10',an10',apt10',q10',⟨g47,rfl⟩,p210,p211,p212,p213,p214,hs138⟩
   refine aaL [1,2,3] (fa_cons ?_ (fa_cons ?_ (fa_one ?_)))
   ·refine one_ r0 (bsk hs138 sl22 [I 2] [I 2] trivial r0 (fun b1' w139 hs139=>?_))
    exact nk (m1 hs139 1 r0) (alc D_1_23 ⟨b0',b1',r6',q6',b12',Aq10',cq10',ak10',aq10',an10',apt10',q10',(zR r0),p210,p211,p212,p213,p214,(hs139.pk [0,1,2,5,3,4] r0)⟩)
   ·refine one_ r0 (bsk hs138 sl22 [I 0,I 2] [I 0,I 2] trivial r0 (fun b2' w140 hs140=>?_))
    exact nk (m1 hs140 1 r0) (alc D_1_26 ⟨b0',b2',r6',q6',b12',Aq10',cq10',ak10',aq10',an10',apt10',q10',(zR r0),p210,p211,p212,p213,p214,hs140⟩)
   ·refine one_ r0 (bsk hs138 sl22 [I 2,I 1] [I 2,I 1] trivial r0 (fun b3' w141 hs141=>?_))
    exact nk (m1 hs141 1 r0) (alc D_1_27 ⟨b0',b3',r6',q6',b12',Aq10',cq10',ak10',aq10',an10',apt10',q10',(zR r0),p210,p211,p212,p213,p214,hs141⟩)
  refine dG 8 14 622 (fun f w'=>∃ (b1' b2' b3':Nat) (r6':Int) (q6':Nat),Hz f [(0,pB rb),(2,pB b1),(5,sb b1' (([2]:List Int).length) 1),(6,sb b2' (([0,2]:List Int).length) 2),(7,sb b3' (([2,1]:List Int).length) 2),(10,I r6'),(13,pB rb)]∧(0≤r6'∧(r6'<4∨r6'=0))∧(q6'≤p+1)∧SH w w' [rb] [(Z5 rb Ab bs cb q6'),.blk b1 53 Z1,(Z19 b1'),(Z15 b2'),(Z16 b3')]) ?_ (fun D_1_47=>?_)
  ·rintro f w142 ⟨b1',b2',b3',r6',q6',⟨g48,rfl⟩,p215,p216,hs142⟩
   refine aaL [0,10,12] (fa_cons ?_ (fa_cons ?_ (fa_one ?_)))
   ·refine one_ r0 (bsk hs142 sl22 [I 0] [I 0] trivial r0 (fun b0' w143 hs143=>?_))
    exact nk (m1 hs143 1 r0) (alc D_1_17 ⟨b0',b1',b2',b3',r6',q6',(zR r0),p215,p216,(hs143.pk [0,1,5,2,3,4] r0)⟩)
   ·refine one_ r0 (cL r0 (l91Address (rb:=rb) (Ab:=Ab) (cb:=cb) (bs:=bs) (p:=q6') (w:=_) (hr:=(blk_heap hs142 0 r0)) (hb:=(hb.up hs142 (fun _ h=>h) (fun _ h=>.inl h))) (hbn:=‹_›) (hp:=(by omega))) ?_)
    rintro _ w144 ⟨Aq10',cq10',ak10',aq10',an10',apt10',q10',rfl,p217,p218,p219,hs144⟩
    replace hs144:=hs142.callM 0 r0 hs144 m_1
    exact nk (m1 hs144 0 r0) (alc D_1_28 ⟨b1',b2',b3',r6',q6',Aq10',cq10',ak10',aq10',an10',apt10',q10',(zR r0),p215,p216,p217,p218,p219,(hs144.pk [4,0,1,5,2,3] r0)⟩)
   ·refine one_ r0 (al (v:=.agg #[ns,Str [],Str [],I 0,ns,Str [],I 0]) (cs:=Z1) hs142 tz53 r0 trivial r0 (fun b12' w145 hs145=>?_))
    exact nk (m1 hs145 1 r0) (alc D_1_29 ⟨b1',b2',b3',r6',q6',b12',(zR r0),p215,p216,(hs145.pk [0,1,2,5,3,4] r0)⟩)
  refine dG 8 14 4654 (fun f w'=>∃ (b1' b2' b3' b12':Nat),Hz f [(0,pB rb),(2,pB b1),(3,pB b12'),(5,sb b1' (([2]:List Int).length) 1),(6,sb b2' (([0,2]:List Int).length) 2),(7,sb b3' (([2,1]:List Int).length) 2),(9,pB rb),(13,pB rb)]∧SH w w' [rb] [(Z5 rb Ab bs cb p),.blk b1 53 Z1,(Z19 b1'),.blk b12' 53 Z1,(Z15 b2'),(Z16 b3')]) ?_ (fun D_1_48=>?_)
  ·rintro f w146 ⟨b1',b2',b3',b12',⟨g49,rfl⟩,hs146⟩
   refine aaL [0,6] (fa_cons ?_ (fa_one ?_))
   ·refine one_ r0 (bsk hs146 sl22 [I 0] [I 0] trivial r0 (fun b0' w147 hs147=>?_))
    exact nk (m1 hs147 1 r0) (alc D_1_18 ⟨b0',b1',b2',b3',b12',(zR r0),(hs147.pk [0,1,6,2,3,4,5] r0)⟩)
   ·refine one_ r0 (cL r0 (pick (rb:=rb) (Ab:=Ab) (cb:=cb) (bs:=bs) (p:=p) (n:=4) (w:=_) (hr:=(blk_heap hs146 0 r0)) (hb:=(hb.up hs146 (fun _ h=>h) (fun _ h=>.inl h))) (hbn:=‹_›) (hp:=(by omega))) ?_)
    rintro _ w148 ⟨r6',q6',rfl,p220,p221,hs148⟩
    replace hs148:=hs146.callM 0 r0 hs148 m_1
    exact nk (m1 hs148 0 r0) (alc D_1_29 ⟨b1',b2',b3',r6',q6',b12',(zR r0),p220,p221,(hs148.pk [5,0,1,2,3,4] r0)⟩)
  refine dG 8 14 1638 (fun f w'=>∃ (b1' b2':Nat) (r6':Int) (q6':Nat) (Aq10':Option Addr) (cq10':Nat) (ak10':Int) (aq10':List Int) (an10':List UInt8) (apt10':Int) (q10':Nat),Hz f [(0,pB rb),(2,pB b1),(5,sb b1' (([2]:List Int).length) 1),(6,sb b2' (([0,2]:List Int).length) 2),(10,I r6'),(14,.agg #[I ak10',(Z10 Aq10' aq10' cq10'),Str an10',I apt10'])]∧(0≤r6'∧(r6'<4∨r6'=0))∧(q6'≤p+1)∧(aq10'.length≤4)∧(an10'.length≤21)∧(q10'≤q6'+40)∧SH w w' [rb] [(Z5 rb Ab bs cb q10'),.blk b1 53 Z1,(Z19 b1'),(Z7 Aq10' aq10' cq10'),(Z15 b2')]) ?_ (fun D_1_49=>?_)
  ·rintro f w149 ⟨b1',b2',r6',q6',Aq10',cq10',ak10',aq10',an10',apt10',q10',⟨g50,rfl⟩,p222,p223,p224,p225,p226,hs149⟩
   refine aaL [0,3,12] (fa_cons ?_ (fa_cons ?_ (fa_one ?_)))
   ·refine one_ r0 (bsk hs149 sl22 [I 0] [I 0] trivial r0 (fun b0' w150 hs150=>?_))
    exact nk (m1 hs150 1 r0) (alc D_1_19 ⟨b0',b1',b2',r6',q6',Aq10',cq10',ak10',aq10',an10',apt10',q10',(zR r0),p222,p223,p224,p225,p226,(hs150.pk [0,1,5,2,3,4] r0)⟩)
   ·refine one_ r0 (bsk hs149 sl22 [I 2,I 1] [I 2,I 1] trivial r0 (fun b3' w151 hs151=>?_))
    exact nk (m1 hs151 1 r0) (alc D_1_28 ⟨b1',b2',b3',r6',q6',Aq10',cq10',ak10',aq10',an10',apt10',q10',(zR r0),p222,p223,p224,p225,p226,hs151⟩)
   ·refine one_ r0 (al (v:=.agg #[ns,Str [],Str [],I 0,ns,Str [],I 0]) (cs:=Z1) hs149 tz53 r0 trivial r0 (fun b12' w152 hs152=>?_))
    exact nk (m1 hs152 1 r0) (alc D_1_30 ⟨b1',b2',r6',q6',b12',Aq10',cq10',ak10',aq10',an10',apt10',q10',(zR r0),p222,p223,p224,p225,p226,(hs152.pk [0,1,2,3,5,4] r0)⟩)
  refine dG 8 14 4710 (fun f w'=>∃ (b1' b2':Nat) (r6':Int) (q6' b12':Nat),Hz f [(0,pB rb),(2,pB b1),(3,pB b12'),(5,sb b1' (([2]:List Int).length) 1),(6,sb b2' (([0,2]:List Int).length) 2),(10,I r6'),(13,pB rb)]∧(0≤r6'∧(r6'<4∨r6'=0))∧(q6'≤p+1)∧SH w w' [rb] [(Z5 rb Ab bs cb q6'),.blk b1 53 Z1,(Z19 b1'),.blk b12' 53 Z1,(Z15 b2')]) ?_ (fun D_1_50=>?_)
  ·rintro f w153 ⟨b1',b2',r6',q6',b12',⟨g51,rfl⟩,p227,p228,hs153⟩
   refine aaL [0,3,10] (fa_cons ?_ (fa_cons ?_ (fa_one ?_)))
   ·refine one_ r0 (bsk hs153 sl22 [I 0] [I 0] trivial r0 (fun b0' w154 hs154=>?_))
    exact nk (m1 hs154 1 r0) (alc D_1_20 ⟨b0',b1',b2',r6',q6',b12',(zR r0),p227,p228,(hs154.pk [0,1,5,2,3,4] r0)⟩)
   ·refine one_ r0 (bsk hs153 sl22 [I 2,I 1] [I 2,I 1] trivial r0 (fun b3' w155 hs155=>?_))
    exact nk (m1 hs155 1 r0) (alc D_1_29 ⟨b1',b2',b3',r6',q6',b12',(zR r0),p227,p228,hs155⟩)
   ·refine one_ r0 (cL r0 (l91Address (rb:=rb) (Ab:=Ab) (cb:=cb) (bs:=bs) (p:=q6') (w:=_) (hr:=(blk_heap hs153 0 r0)) (hb:=(hb.up hs153 (fun _ h=>h) (fun _ h=>.inl h))) (hbn:=‹_›) (hp:=(by omega))) ?_)
    rintro _ w156 ⟨Aq10',cq10',ak10',aq10',an10',apt10',q10',rfl,p229,p230,p231,hs156⟩
    replace hs156:=hs153.callM 0 r0 hs156 m_1
    exact nk (m1 hs156 0 r0) (alc D_1_30 ⟨b1',b2',r6',q6',b12',Aq10',cq10',ak10',aq10',an10',apt10',q10',(zR r0),p227,p228,p229,p230,p231,(hs156.pk [4,0,1,5,2,3] r0)⟩)
  refine dG 8 14 1642 (fun f w'=>∃ (b1' b3':Nat) (r6':Int) (q6':Nat) (Aq10':Option Addr) (cq10':Nat) (ak10':Int) (aq10':List Int) (an10':List UInt8) (apt10':Int) (q10':Nat),Hz f [(0,pB rb),(2,pB b1),(5,sb b1' (([2]:List Int).length) 1),(7,sb b3' (([2,1]:List Int).length) 2),(10,I r6'),(14,.agg #[I ak10',(Z10 Aq10' aq10' cq10'),Str an10',I apt10'])]∧(0≤r6'∧(r6'<4∨r6'=0))∧(q6'≤p+1)∧(aq10'.length≤4)∧(an10'.length≤21)∧(q10'≤q6'+40)∧SH w w' [rb] [(Z5 rb Ab bs cb q10'),.blk b1 53 Z1,(Z19 b1'),(Z7 Aq10' aq10' cq10'),(Z16 b3')]) ?_ (fun D_1_51=>?_)
  ·rintro f w157 ⟨b1',b3',r6',q6',Aq10',cq10',ak10',aq10',an10',apt10',q10',⟨g52,rfl⟩,p232,p233,p234,p235,p236,hs157⟩
   refine aaL [0,2,12] (fa_cons ?_ (fa_cons ?_ (fa_one ?_)))
   ·refine one_ r0 (bsk hs157 sl22 [I 0] [I 0] trivial r0 (fun b0' w158 hs158=>?_))
    exact nk (m1 hs158 1 r0) (alc D_1_21 ⟨b0',b1',b3',r6',q6',Aq10',cq10',ak10',aq10',an10',apt10',q10',(zR r0),p232,p233,p234,p235,p236,(hs158.pk [0,1,5,2,3,4] r0)⟩)
   ·refine one_ r0 (bsk hs157 sl22 [I 0,I 2] [I 0,I 2] trivial r0 (fun b2' w159 hs159=>?_))
    exact nk (m1 hs159 1 r0) (alc D_1_28 ⟨b1',b2',b3',r6',q6',Aq10',cq10',ak10',aq10',an10',apt10',q10',(zR r0),p232,p233,p234,p235,p236,(hs159.pk [0,1,2,3,5,4] r0)⟩)
   ·refine one_ r0 (al (v:=.agg #[ns,Str [],Str [],I 0,ns,Str [],I 0]) (cs:=Z1) hs157 tz53 r0 trivial r0 (fun b12' w160 hs160=>?_))
    exact nk (m1 hs160 1 r0) (alc D_1_31 ⟨b1',b3',r6',q6',b12',Aq10',cq10',ak10',aq10',an10',apt10',q10',(zR r0),p232,p233,p234,p235,p236,(hs160.pk [0,1,2,3,5,4] r0)⟩)
  refine dG 8 14 4714 (fun f w'=>∃ (b1' b3':Nat) (r6':Int) (q6' b12':Nat),Hz f [(0,pB rb),(2,pB b1),(3,pB b12'),(5,sb b1' (([2]:List Int).length) 1),(7,sb b3' (([2,1]:List Int).length) 2),(10,I r6'),(13,pB rb)]∧(0≤r6'∧(r6'<4∨r6'=0))∧(q6'≤p+1)∧SH w w' [rb] [(Z5 rb Ab bs cb q6'),.blk b1 53 Z1,(Z19 b1'),.blk b12' 53 Z1,(Z16 b3')]) ?_ (fun D_1_52=>?_)
  ·rintro f w161 ⟨b1',b3',r6',q6',b12',⟨g53,rfl⟩,p237,p238,hs161⟩
   refine aaL [0,2,10] (fa_cons ?_ (fa_cons ?_ (fa_one ?_)))
   ·refine one_ r0 (bsk hs161 sl22 [I 0] [I 0] trivial r0 (fun b0' w162 hs162=>?_))
    exact nk (m1 hs162 1 r0) (alc D_1_22 ⟨b0',b1',b3',r6',q6',b12',(zR r0),p237,p238,(hs162.pk [0,1,5,2,3,4] r0)⟩)
   ·refine one_ r0 (bsk hs161 sl22 [I 0,I 2] [I 0,I 2] trivial r0 (fun b2' w163 hs163=>?_))
    exact nk (m1 hs163 1 r0) (alc D_1_29 ⟨b1',b2',b3',r6',q6',b12',(zR r0),p237,p238,(hs163.pk [0,1,2,3,5,4] r0)⟩)
   ·refine one_ r0 (cL r0 (l91Address (rb:=rb) (Ab:=Ab) (cb:=cb) (bs:=bs) (p:=q6') (w:=_) (hr:=(blk_heap hs161 0 r0)) (hb:=(hb.up hs161 (fun _ h=>h) (fun _ h=>.inl h))) (hbn:=‹_›) (hp:=(by omega))) ?_)
    rintro _ w164 ⟨Aq10',cq10',ak10',aq10',an10',apt10',q10',rfl,p239,p240,p241,hs164⟩
    replace hs164:=hs161.callM 0 r0 hs164 m_1
    exact nk (m1 hs164 0 r0) (alc D_1_31 ⟨b1',b3',r6',q6',b12',Aq10',cq10',ak10',aq10',an10',apt10',q10',(zR r0),p237,p238,p239,p240,p241,(hs164.pk [4,0,1,5,2,3] r0)⟩)
  refine dG 8 14 5730 (fun f w'=>∃ (b1':Nat) (r6':Int) (q6' b12':Nat) (Aq10':Option Addr) (cq10':Nat) (ak10':Int) (aq10':List Int) (an10':List UInt8) (apt10':Int) (q10':Nat),Hz f [(0,pB rb),(2,pB b1),(3,pB b12'),(5,sb b1' (([2]:List Int).length) 1),(10,I r6'),(14,.agg #[I ak10',(Z10 Aq10' aq10' cq10'),Str an10',I apt10'])]∧(0≤r6'∧(r6'<4∨r6'=0))∧(q6'≤p+1)∧(aq10'.length≤4)∧(an10'.length≤21)∧(q10'≤q6'+40)∧SH w w' [rb] [(Z5 rb Ab bs cb q10'),.blk b1 53 Z1,(Z19 b1'),(Z7 Aq10' aq10' cq10'),.blk b12' 53 Z1]) ?_ (fun D_1_53=>?_)
  ·rintro f w165 ⟨b1',r6',q6',b12',Aq10',cq10',ak10',aq10',an10',apt10',q10',⟨g54,rfl⟩,p242,p243,p244,p245,p246,hs165⟩
   refine aaL [0,2,3] (fa_cons ?_ (fa_cons ?_ (fa_one ?_)))
   ·refine one_ r0 (bsk hs165 sl22 [I 0] [I 0] trivial r0 (fun b0' w166 hs166=>?_))
    exact nk (m1 hs166 1 r0) (alc D_1_23 ⟨b0',b1',r6',q6',b12',Aq10',cq10',ak10',aq10',an10',apt10',q10',(zR r0),p242,p243,p244,p245,p246,(hs166.pk [0,1,5,2,3,4] r0)⟩)
   ·refine one_ r0 (bsk hs165 sl22 [I 0,I 2] [I 0,I 2] trivial r0 (fun b2' w167 hs167=>?_))
    exact nk (m1 hs167 1 r0) (alc D_1_30 ⟨b1',b2',r6',q6',b12',Aq10',cq10',ak10',aq10',an10',apt10',q10',(zR r0),p242,p243,p244,p245,p246,hs167⟩)
   ·refine one_ r0 (bsk hs165 sl22 [I 2,I 1] [I 2,I 1] trivial r0 (fun b3' w168 hs168=>?_))
    exact nk (m1 hs168 1 r0) (alc D_1_31 ⟨b1',b3',r6',q6',b12',Aq10',cq10',ak10',aq10',an10',apt10',q10',(zR r0),p242,p243,p244,p245,p246,hs168⟩)
  refine dG 8 14 1644 (fun f w'=>∃ (b2' b3':Nat) (r6':Int) (q6':Nat) (Aq10':Option Addr) (cq10':Nat) (ak10':Int) (aq10':List Int) (an10':List UInt8) (apt10':Int) (q10':Nat),Hz f [(0,pB rb),(2,pB b1),(6,sb b2' (([0,2]:List Int).length) 2),(7,sb b3' (([2,1]:List Int).length) 2),(10,I r6'),(14,.agg #[I ak10',(Z10 Aq10' aq10' cq10'),Str an10',I apt10'])]∧(0≤r6'∧(r6'<4∨r6'=0))∧(q6'≤p+1)∧(aq10'.length≤4)∧(an10'.length≤21)∧(q10'≤q6'+40)∧SH w w' [rb] [(Z5 rb Ab bs cb q10'),.blk b1 53 Z1,(Z7 Aq10' aq10' cq10'),(Z15 b2'),(Z16 b3')]) ?_ (fun D_1_54=>?_)
  ·rintro f w169 ⟨b2',b3',r6',q6',Aq10',cq10',ak10',aq10',an10',apt10',q10',⟨g55,rfl⟩,p247,p248,p249,p250,p251,hs169⟩
   refine aaL [0,1,12] (fa_cons ?_ (fa_cons ?_ (fa_one ?_)))
   ·refine one_ r0 (bsk hs169 sl22 [I 0] [I 0] trivial r0 (fun b0' w170 hs170=>?_))
    exact nk (m1 hs170 1 r0) (alc D_1_24 ⟨b0',b2',b3',r6',q6',Aq10',cq10',ak10',aq10',an10',apt10',q10',(zR r0),p247,p248,p249,p250,p251,(hs170.pk [0,1,5,2,3,4] r0)⟩)
   ·refine one_ r0 (bsk hs169 sl22 [I 2] [I 2] trivial r0 (fun b1' w171 hs171=>?_))
    exact nk (m1 hs171 1 r0) (alc D_1_28 ⟨b1',b2',b3',r6',q6',Aq10',cq10',ak10',aq10',an10',apt10',q10',(zR r0),p247,p248,p249,p250,p251,(hs171.pk [0,1,5,2,3,4] r0)⟩)
   ·refine one_ r0 (al (v:=.agg #[ns,Str [],Str [],I 0,ns,Str [],I 0]) (cs:=Z1) hs169 tz53 r0 trivial r0 (fun b12' w172 hs172=>?_))
    exact nk (m1 hs172 1 r0) (alc D_1_32 ⟨b2',b3',r6',q6',b12',Aq10',cq10',ak10',aq10',an10',apt10',q10',(zR r0),p247,p248,p249,p250,p251,(hs172.pk [0,1,2,5,3,4] r0)⟩)
  refine dG 8 14 4716 (fun f w'=>∃ (b2' b3':Nat) (r6':Int) (q6' b12':Nat),Hz f [(0,pB rb),(2,pB b1),(3,pB b12'),(6,sb b2' (([0,2]:List Int).length) 2),(7,sb b3' (([2,1]:List Int).length) 2),(10,I r6'),(13,pB rb)]∧(0≤r6'∧(r6'<4∨r6'=0))∧(q6'≤p+1)∧SH w w' [rb] [(Z5 rb Ab bs cb q6'),.blk b1 53 Z1,.blk b12' 53 Z1,(Z15 b2'),(Z16 b3')]) ?_ (fun D_1_55=>?_)
  ·rintro f w173 ⟨b2',b3',r6',q6',b12',⟨g56,rfl⟩,p252,p253,hs173⟩
   refine aaL [0,1,10] (fa_cons ?_ (fa_cons ?_ (fa_one ?_)))
   ·refine one_ r0 (bsk hs173 sl22 [I 0] [I 0] trivial r0 (fun b0' w174 hs174=>?_))
    exact nk (m1 hs174 1 r0) (alc D_1_25 ⟨b0',b2',b3',r6',q6',b12',(zR r0),p252,p253,(hs174.pk [0,1,5,2,3,4] r0)⟩)
   ·refine one_ r0 (bsk hs173 sl22 [I 2] [I 2] trivial r0 (fun b1' w175 hs175=>?_))
    exact nk (m1 hs175 1 r0) (alc D_1_29 ⟨b1',b2',b3',r6',q6',b12',(zR r0),p252,p253,(hs175.pk [0,1,5,2,3,4] r0)⟩)
   ·refine one_ r0 (cL r0 (l91Address (rb:=rb) (Ab:=Ab) (cb:=cb) (bs:=bs) (p:=q6') (w:=_) (hr:=(blk_heap hs173 0 r0)) (hb:=(hb.up hs173 (fun _ h=>h) (fun _ h=>.inl h))) (hbn:=‹_›) (hp:=(by omega))) ?_)
    rintro _ w176 ⟨Aq10',cq10',ak10',aq10',an10',apt10',q10',rfl,p254,p255,p256,hs176⟩
    replace hs176:=hs173.callM 0 r0 hs176 m_1
    exact nk (m1 hs176 0 r0) (alc D_1_32 ⟨b2',b3',r6',q6',b12',Aq10',cq10',ak10',aq10',an10',apt10',q10',(zR r0),p252,p253,p254,p255,p256,(hs176.pk [4,0,5,1,2,3] r0)⟩)
  refine dG 8 14 5732 (fun f w'=>∃ (b2':Nat) (r6':Int) (q6' b12':Nat) (Aq10':Option Addr) (cq10':Nat) (ak10':Int) (aq10':List Int) (an10':List UInt8) (apt10':Int) (q10':Nat),Hz f [(0,pB rb),(2,pB b1),(3,pB b12'),(6,sb b2' (([0,2]:List Int).length) 2),(10,I r6'),(14,.agg #[I ak10',(Z10 Aq10' aq10' cq10'),Str an10',I apt10'])]∧(0≤r6'∧(r6'<4∨r6'=0))∧(q6'≤p+1)∧(aq10'.length≤4)∧(an10'.length≤21)∧(q10'≤q6'+40)∧SH w w' [rb] [(Z5 rb Ab bs cb q10'),.blk b1 53 Z1,(Z7 Aq10' aq10' cq10'),.blk b12' 53 Z1,(Z15 b2')]) ?_ (fun D_1_56=>?_)
  ·rintro f w177 ⟨b2',r6',q6',b12',Aq10',cq10',ak10',aq10',an10',apt10',q10',⟨g57,rfl⟩,p257,p258,p259,p260,p261,hs177⟩
   refine aaL [0,1,3] (fa_cons ?_ (fa_cons ?_ (fa_one ?_)))
   ·refine one_ r0 (bsk hs177 sl22 [I 0] [I 0] trivial r0 (fun b0' w178 hs178=>?_))
    exact nk (m1 hs178 1 r0) (alc D_1_26 ⟨b0',b2',r6',q6',b12',Aq10',cq10',ak10',aq10',an10',apt10',q10',(zR r0),p257,p258,p259,p260,p261,(hs178.pk [0,1,5,2,3,4] r0)⟩)
   ·refine one_ r0 (bsk hs177 sl22 [I 2] [I 2] trivial r0 (fun b1' w179 hs179=>?_))
    exact nk (m1 hs179 1 r0) (alc D_1_30 ⟨b1',b2',r6',q6',b12',Aq10',cq10',ak10',aq10',an10',apt10',q10',(zR r0),p257,p258,p259,p260,p261,(hs179.pk [0,1,5,2,3,4] r0)⟩)
   ·refine one_ r0 (bsk hs177 sl22 [I 2,I 1] [I 2,I 1] trivial r0 (fun b3' w180 hs180=>?_))
    exact nk (m1 hs180 1 r0) (alc D_1_32 ⟨b2',b3',r6',q6',b12',Aq10',cq10',ak10',aq10',an10',apt10',q10',(zR r0),p257,p258,p259,p260,p261,hs180⟩)
  refine dG 8 14 5736 (fun f w'=>∃ (b3':Nat) (r6':Int) (q6' b12':Nat) (Aq10':Option Addr) (cq10':Nat) (ak10':Int) (aq10':List Int) (an10':List UInt8) (apt10':Int) (q10':Nat),Hz f [(0,pB rb),(2,pB b1),(3,pB b12'),(7,sb b3' (([2,1]:List Int).length) 2),(10,I r6'),(14,.agg #[I ak10',(Z10 Aq10' aq10' cq10'),Str an10',I apt10'])]∧(0≤r6'∧(r6'<4∨r6'=0))∧(q6'≤p+1)∧(aq10'.length≤4)∧(an10'.length≤21)∧(q10'≤q6'+40)∧SH w w' [rb] [(Z5 rb Ab bs cb q10'),.blk b1 53 Z1,(Z7 Aq10' aq10' cq10'),.blk b12' 53 Z1,(Z16 b3')]) ?_ (fun D_1_57=>?_)
  ·rintro f w181 ⟨b3',r6',q6',b12',Aq10',cq10',ak10',aq10',an10',apt10',q10',⟨g58,rfl⟩,p262,p263,p264,p265,p266,hs181⟩
   refine aaL [0,1,2] (fa_cons ?_ (fa_cons ?_ (fa_one ?_)))
   ·refine one_ r0 (bsk hs181 sl22 [I 0] [I 0] trivial r0 (fun b0' w182 hs182=>?_))
    exact nk (m1 hs182 1 r0) (alc D_1_27 ⟨b0',b3',r6',q6',b12',Aq10',cq10',ak10',aq10',an10',apt10',q10',(zR r0),p262,p263,p264,p265,p266,(hs182.pk [0,1,5,2,3,4] r0)⟩)
   ·refine one_ r0 (bsk hs181 sl22 [I 2] [I 2] trivial r0 (fun b1' w183 hs183=>?_))
    exact nk (m1 hs183 1 r0) (alc D_1_31 ⟨b1',b3',r6',q6',b12',Aq10',cq10',ak10',aq10',an10',apt10',q10',(zR r0),p262,p263,p264,p265,p266,(hs183.pk [0,1,5,2,3,4] r0)⟩)
   ·refine one_ r0 (bsk hs181 sl22 [I 0,I 2] [I 0,I 2] trivial r0 (fun b2' w184 hs184=>?_))
    exact nk (m1 hs184 1 r0) (alc D_1_32 ⟨b2',b3',r6',q6',b12',Aq10',cq10',ak10',aq10',an10',apt10',q10',(zR r0),p262,p263,p264,p265,p266,(hs184.pk [0,1,2,3,5,4] r0)⟩)
  refine dG 9 14 551 (fun f w'=>∃ (b0' b1' b2':Nat),Hz f [(0,pB rb),(2,pB b1),(4,sb b0' (([0]:List Int).length) 1),(5,sb b1' (([2]:List Int).length) 1),(6,sb b2' (([0,2]:List Int).length) 2),(9,pB rb),(13,pB rb)]∧SH w w' [rb] [(Z5 rb Ab bs cb p),.blk b1 53 Z1,(Z17 b0'),(Z19 b1'),(Z15 b2')]) ?_ (fun D_1_58=>?_)
  ·rintro f w185 ⟨b0',b1',b2',⟨g59,rfl⟩,hs185⟩
   refine aaL [3,6,12] (fa_cons ?_ (fa_cons ?_ (fa_one ?_)))
   ·refine one_ r0 (bsk hs185 sl22 [I 2,I 1] [I 2,I 1] trivial r0 (fun b3' w186 hs186=>?_))
    exact nk (m1 hs186 1 r0) (alc D_1_33 ⟨b0',b1',b2',b3',(zR r0),hs186⟩)
   ·refine one_ r0 (cL r0 (pick (rb:=rb) (Ab:=Ab) (cb:=cb) (bs:=bs) (p:=p) (n:=4) (w:=_) (hr:=(blk_heap hs185 0 r0)) (hb:=(hb.up hs185 (fun _ h=>h) (fun _ h=>.inl h))) (hbn:=‹_›) (hp:=(by omega))) ?_)
    rintro _ w187 ⟨r6',q6',rfl,p267,p268,hs187⟩
    replace hs187:=hs185.callM 0 r0 hs187 m_1
    exact nk (m1 hs187 0 r0) (alc D_1_34 ⟨b0',b1',b2',r6',q6',(zR r0),p267,p268,(hs187.pk [4,0,1,2,3] r0)⟩)
   ·refine one_ r0 (al (v:=.agg #[ns,Str [],Str [],I 0,ns,Str [],I 0]) (cs:=Z1) hs185 tz53 r0 trivial r0 (fun b12' w188 hs188=>?_))
    exact nk (m1 hs188 1 r0) (alc D_1_35 ⟨b0',b1',b2',b12',(zR r0),(hs188.pk [0,1,2,3,5,4] r0)⟩)
  refine dG 9 14 555 (fun f w'=>∃ (b0' b1' b3':Nat),Hz f [(0,pB rb),(2,pB b1),(4,sb b0' (([0]:List Int).length) 1),(5,sb b1' (([2]:List Int).length) 1),(7,sb b3' (([2,1]:List Int).length) 2),(9,pB rb),(13,pB rb)]∧SH w w' [rb] [(Z5 rb Ab bs cb p),.blk b1 53 Z1,(Z17 b0'),(Z19 b1'),(Z16 b3')]) ?_ (fun D_1_59=>?_)
  ·rintro f w189 ⟨b0',b1',b3',⟨g60,rfl⟩,hs189⟩
   refine aaL [2,6,12] (fa_cons ?_ (fa_cons ?_ (fa_one ?_)))
   ·refine one_ r0 (bsk hs189 sl22 [I 0,I 2] [I 0,I 2] trivial r0 (fun b2' w190 hs190=>?_))
    exact nk (m1 hs190 1 r0) (alc D_1_33 ⟨b0',b1',b2',b3',(zR r0),(hs190.pk [0,1,2,3,5,4] r0)⟩)
   ·refine one_ r0 (cL r0 (pick (rb:=rb) (Ab:=Ab) (cb:=cb) (bs:=bs) (p:=p) (n:=4) (w:=_) (hr:=(blk_heap hs189 0 r0)) (hb:=(hb.up hs189 (fun _ h=>h) (fun _ h=>.inl h))) (hbn:=‹_›) (hp:=(by omega))) ?_)
    rintro _ w191 ⟨r6',q6',rfl,p269,p270,hs191⟩
    replace hs191:=hs189.callM 0 r0 hs191 m_1
    exact nk (m1 hs191 0 r0) (alc D_1_36 ⟨b0',b1',b3',r6',q6',(zR r0),p269,p270,(hs191.pk [4,0,1,2,3] r0)⟩)
   ·refine one_ r0 (al (v:=.agg #[ns,Str [],Str [],I 0,ns,Str [],I 0]) (cs:=Z1) hs189 tz53 r0 trivial r0 (fun b12' w192 hs192=>?_))
    exact nk (m1 hs192 1 r0) (alc D_1_37 ⟨b0',b1',b3',b12',(zR r0),(hs192.pk [0,1,2,3,5,4] r0)⟩)
  refine dG 9 14 611 (fun f w'=>∃ (b0' b1':Nat) (r6':Int) (q6':Nat),Hz f [(0,pB rb),(2,pB b1),(4,sb b0' (([0]:List Int).length) 1),(5,sb b1' (([2]:List Int).length) 1),(10,I r6'),(13,pB rb)]∧(0≤r6'∧(r6'<4∨r6'=0))∧(q6'≤p+1)∧SH w w' [rb] [(Z5 rb Ab bs cb q6'),.blk b1 53 Z1,(Z17 b0'),(Z19 b1')]) ?_ (fun D_1_60=>?_)
  ·rintro f w193 ⟨b0',b1',r6',q6',⟨g61,rfl⟩,p271,p272,hs193⟩
   refine aaL [2,3,10,12] (fa_cons ?_ (fa_cons ?_ (fa_cons ?_ (fa_one ?_))))
   ·refine one_ r0 (bsk hs193 sl22 [I 0,I 2] [I 0,I 2] trivial r0 (fun b2' w194 hs194=>?_))
    exact nk (m1 hs194 1 r0) (alc D_1_34 ⟨b0',b1',b2',r6',q6',(zR r0),p271,p272,hs194⟩)
   ·refine one_ r0 (bsk hs193 sl22 [I 2,I 1] [I 2,I 1] trivial r0 (fun b3' w195 hs195=>?_))
    exact nk (m1 hs195 1 r0) (alc D_1_36 ⟨b0',b1',b3',r6',q6',(zR r0),p271,p272,hs195⟩)
   ·refine one_ r0 (cL r0 (l91Address (rb:=rb) (Ab:=Ab) (cb:=cb) (bs:=bs) (p:=q6') (w:=_) (hr:=(blk_heap hs193 0 r0)) (hb:=(hb.up hs193 (fun _ h=>h) (fun _ h=>.inl h))) (hbn:=‹_›) (hp:=(by omega))) ?_)
    rintro _ w196 ⟨Aq10',cq10',ak10',aq10',an10',apt10',q10',rfl,p273,p274,p275,hs196⟩
    replace hs196:=hs193.callM 0 r0 hs196 m_1
    exact nk (m1 hs196 0 r0) (alc D_1_38 ⟨b0',b1',r6',q6',Aq10',cq10',ak10',aq10',an10',apt10',q10',(zR r0),p271,p272,p273,p274,p275,(hs196.pk [3,0,1,2,4] r0)⟩)
   ·refine one_ r0 (al (v:=.agg #[ns,Str [],Str [],I 0,ns,Str [],I 0]) (cs:=Z1) hs193 tz53 r0 trivial r0 (fun b12' w197 hs197=>?_))
    exact nk (m1 hs197 1 r0) (alc D_1_39 ⟨b0',b1',r6',q6',b12',(zR r0),p271,p272,hs197⟩)
  refine dG 9 14 4643 (fun f w'=>∃ (b0' b1' b12':Nat),Hz f [(0,pB rb),(2,pB b1),(3,pB b12'),(4,sb b0' (([0]:List Int).length) 1),(5,sb b1' (([2]:List Int).length) 1),(9,pB rb),(13,pB rb)]∧SH w w' [rb] [(Z5 rb Ab bs cb p),.blk b1 53 Z1,(Z17 b0'),(Z19 b1'),.blk b12' 53 Z1]) ?_ (fun D_1_61=>?_)
  ·rintro f w198 ⟨b0',b1',b12',⟨g62,rfl⟩,hs198⟩
   refine aaL [2,3,6] (fa_cons ?_ (fa_cons ?_ (fa_one ?_)))
   ·refine one_ r0 (bsk hs198 sl22 [I 0,I 2] [I 0,I 2] trivial r0 (fun b2' w199 hs199=>?_))
    exact nk (m1 hs199 1 r0) (alc D_1_35 ⟨b0',b1',b2',b12',(zR r0),hs199⟩)
   ·refine one_ r0 (bsk hs198 sl22 [I 2,I 1] [I 2,I 1] trivial r0 (fun b3' w200 hs200=>?_))
    exact nk (m1 hs200 1 r0) (alc D_1_37 ⟨b0',b1',b3',b12',(zR r0),hs200⟩)
   ·refine one_ r0 (cL r0 (pick (rb:=rb) (Ab:=Ab) (cb:=cb) (bs:=bs) (p:=p) (n:=4) (w:=_) (hr:=(blk_heap hs198 0 r0)) (hb:=(hb.up hs198 (fun _ h=>h) (fun _ h=>.inl h))) (hbn:=‹_›) (hp:=(by omega))) ?_)
    rintro _ w201 ⟨r6',q6',rfl,p276,p277,hs201⟩
    replace hs201:=hs198.callM 0 r0 hs201 m_1
    exact nk (m1 hs201 0 r0) (alc D_1_39 ⟨b0',b1',r6',q6',b12',(zR r0),p276,p277,(hs201.pk [4,0,1,2,3] r0)⟩)
  refine dG 9 14 557 (fun f w'=>∃ (b0' b2' b3':Nat),Hz f [(0,pB rb),(2,pB b1),(4,sb b0' (([0]:List Int).length) 1),(6,sb b2' (([0,2]:List Int).length) 2),(7,sb b3' (([2,1]:List Int).length) 2),(9,pB rb),(13,pB rb)]∧SH w w' [rb] [(Z5 rb Ab bs cb p),.blk b1 53 Z1,(Z17 b0'),(Z15 b2'),(Z16 b3')]) ?_ (fun D_1_62=>?_)
  ·rintro f w202 ⟨b0',b2',b3',⟨g63,rfl⟩,hs202⟩
   refine aaL [1,6,12] (fa_cons ?_ (fa_cons ?_ (fa_one ?_)))
   ·refine one_ r0 (bsk hs202 sl22 [I 2] [I 2] trivial r0 (fun b1' w203 hs203=>?_))
    exact nk (m1 hs203 1 r0) (alc D_1_33 ⟨b0',b1',b2',b3',(zR r0),(hs203.pk [0,1,2,5,3,4] r0)⟩)
   ·refine one_ r0 (cL r0 (pick (rb:=rb) (Ab:=Ab) (cb:=cb) (bs:=bs) (p:=p) (n:=4) (w:=_) (hr:=(blk_heap hs202 0 r0)) (hb:=(hb.up hs202 (fun _ h=>h) (fun _ h=>.inl h))) (hbn:=‹_›) (hp:=(by omega))) ?_)
    rintro _ w204 ⟨r6',q6',rfl,p278,p279,hs204⟩
    replace hs204:=hs202.callM 0 r0 hs204 m_1
    exact nk (m1 hs204 0 r0) (alc D_1_40 ⟨b0',b2',b3',r6',q6',(zR r0),p278,p279,(hs204.pk [4,0,1,2,3] r0)⟩)
   ·refine one_ r0 (al (v:=.agg #[ns,Str [],Str [],I 0,ns,Str [],I 0]) (cs:=Z1) hs202 tz53 r0 trivial r0 (fun b12' w205 hs205=>?_))
    exact nk (m1 hs205 1 r0) (alc D_1_41 ⟨b0',b2',b3',b12',(zR r0),(hs205.pk [0,1,2,5,3,4] r0)⟩)
  refine dG 9 14 613 (fun f w'=>∃ (b0' b2':Nat) (r6':Int) (q6':Nat),Hz f [(0,pB rb),(2,pB b1),(4,sb b0' (([0]:List Int).length) 1),(6,sb b2' (([0,2]:List Int).length) 2),(10,I r6'),(13,pB rb)]∧(0≤r6'∧(r6'<4∨r6'=0))∧(q6'≤p+1)∧SH w w' [rb] [(Z5 rb Ab bs cb q6'),.blk b1 53 Z1,(Z17 b0'),(Z15 b2')]) ?_ (fun D_1_63=>?_)
  ·rintro f w206 ⟨b0',b2',r6',q6',⟨g64,rfl⟩,p280,p281,hs206⟩
   refine aaL [1,3,10,12] (fa_cons ?_ (fa_cons ?_ (fa_cons ?_ (fa_one ?_))))
   ·refine one_ r0 (bsk hs206 sl22 [I 2] [I 2] trivial r0 (fun b1' w207 hs207=>?_))
    exact nk (m1 hs207 1 r0) (alc D_1_34 ⟨b0',b1',b2',r6',q6',(zR r0),p280,p281,(hs207.pk [0,1,2,4,3] r0)⟩)
   ·refine one_ r0 (bsk hs206 sl22 [I 2,I 1] [I 2,I 1] trivial r0 (fun b3' w208 hs208=>?_))
    exact nk (m1 hs208 1 r0) (alc D_1_40 ⟨b0',b2',b3',r6',q6',(zR r0),p280,p281,hs208⟩)
   ·refine one_ r0 (cL r0 (l91Address (rb:=rb) (Ab:=Ab) (cb:=cb) (bs:=bs) (p:=q6') (w:=_) (hr:=(blk_heap hs206 0 r0)) (hb:=(hb.up hs206 (fun _ h=>h) (fun _ h=>.inl h))) (hbn:=‹_›) (hp:=(by omega))) ?_)
    rintro _ w209 ⟨Aq10',cq10',ak10',aq10',an10',apt10',q10',rfl,p282,p283,p284,hs209⟩
    replace hs209:=hs206.callM 0 r0 hs209 m_1
    exact nk (m1 hs209 0 r0) (alc D_1_42 ⟨b0',b2',r6',q6',Aq10',cq10',ak10',aq10',an10',apt10',q10',(zR r0),p280,p281,p282,p283,p284,(hs209.pk [3,0,1,4,2] r0)⟩)
   ·refine one_ r0 (al (v:=.agg #[ns,Str [],Str [],I 0,ns,Str [],I 0]) (cs:=Z1) hs206 tz53 r0 trivial r0 (fun b12' w210 hs210=>?_))
    exact nk (m1 hs210 1 r0) (alc D_1_43 ⟨b0',b2',r6',q6',b12',(zR r0),p280,p281,(hs210.pk [0,1,2,4,3] r0)⟩)
  refine dG 9 14 4645 (fun f w'=>∃ (b0' b2' b12':Nat),Hz f [(0,pB rb),(2,pB b1),(3,pB b12'),(4,sb b0' (([0]:List Int).length) 1),(6,sb b2' (([0,2]:List Int).length) 2),(9,pB rb),(13,pB rb)]∧SH w w' [rb] [(Z5 rb Ab bs cb p),.blk b1 53 Z1,(Z17 b0'),.blk b12' 53 Z1,(Z15 b2')]) ?_ (fun D_1_64=>?_)
  ·rintro f w211 ⟨b0',b2',b12',⟨g65,rfl⟩,hs211⟩
   refine aaL [1,3,6] (fa_cons ?_ (fa_cons ?_ (fa_one ?_)))
   ·refine one_ r0 (bsk hs211 sl22 [I 2] [I 2] trivial r0 (fun b1' w212 hs212=>?_))
    exact nk (m1 hs212 1 r0) (alc D_1_35 ⟨b0',b1',b2',b12',(zR r0),(hs212.pk [0,1,2,5,3,4] r0)⟩)
   ·refine one_ r0 (bsk hs211 sl22 [I 2,I 1] [I 2,I 1] trivial r0 (fun b3' w213 hs213=>?_))
    exact nk (m1 hs213 1 r0) (alc D_1_41 ⟨b0',b2',b3',b12',(zR r0),hs213⟩)
   ·refine one_ r0 (cL r0 (pick (rb:=rb) (Ab:=Ab) (cb:=cb) (bs:=bs) (p:=p) (n:=4) (w:=_) (hr:=(blk_heap hs211 0 r0)) (hb:=(hb.up hs211 (fun _ h=>h) (fun _ h=>.inl h))) (hbn:=‹_›) (hp:=(by omega))) ?_)
    rintro _ w214 ⟨r6',q6',rfl,p285,p286,hs214⟩
    replace hs214:=hs211.callM 0 r0 hs214 m_1
    exact nk (m1 hs214 0 r0) (alc D_1_43 ⟨b0',b2',r6',q6',b12',(zR r0),p285,p286,(hs214.pk [4,0,1,2,3] r0)⟩)
  refine dG 9 14 617 (fun f w'=>∃ (b0' b3':Nat) (r6':Int) (q6':Nat),Hz f [(0,pB rb),(2,pB b1),(4,sb b0' (([0]:List Int).length) 1),(7,sb b3' (([2,1]:List Int).length) 2),(10,I r6'),(13,pB rb)]∧(0≤r6'∧(r6'<4∨r6'=0))∧(q6'≤p+1)∧SH w w' [rb] [(Z5 rb Ab bs cb q6'),.blk b1 53 Z1,(Z17 b0'),(Z16 b3')]) ?_ (fun D_1_65=>?_)
  ·rintro f w215 ⟨b0',b3',r6',q6',⟨g66,rfl⟩,p287,p288,hs215⟩
   refine aaL [1,2,10,12] (fa_cons ?_ (fa_cons ?_ (fa_cons ?_ (fa_one ?_))))
   ·refine one_ r0 (bsk hs215 sl22 [I 2] [I 2] trivial r0 (fun b1' w216 hs216=>?_))
    exact nk (m1 hs216 1 r0) (alc D_1_36 ⟨b0',b1',b3',r6',q6',(zR r0),p287,p288,(hs216.pk [0,1,2,4,3] r0)⟩)
   ·refine one_ r0 (bsk hs215 sl22 [I 0,I 2] [I 0,I 2] trivial r0 (fun b2' w217 hs217=>?_))
    exact nk (m1 hs217 1 r0) (alc D_1_40 ⟨b0',b2',b3',r6',q6',(zR r0),p287,p288,(hs217.pk [0,1,2,4,3] r0)⟩)
   ·refine one_ r0 (cL r0 (l91Address (rb:=rb) (Ab:=Ab) (cb:=cb) (bs:=bs) (p:=q6') (w:=_) (hr:=(blk_heap hs215 0 r0)) (hb:=(hb.up hs215 (fun _ h=>h) (fun _ h=>.inl h))) (hbn:=‹_›) (hp:=(by omega))) ?_)
    rintro _ w218 ⟨Aq10',cq10',ak10',aq10',an10',apt10',q10',rfl,p289,p290,p291,hs218⟩
    replace hs218:=hs215.callM 0 r0 hs218 m_1
    exact nk (m1 hs218 0 r0) (alc D_1_44 ⟨b0',b3',r6',q6',Aq10',cq10',ak10',aq10',an10',apt10',q10',(zR r0),p287,p288,p289,p290,p291,(hs218.pk [3,0,1,4,2] r0)⟩)
   ·refine one_ r0 (al (v:=.agg #[ns,Str [],Str [],I 0,ns,Str [],I 0]) (cs:=Z1) hs215 tz53 r0 trivial r0 (fun b12' w219 hs219=>?_))
    exact nk (m1 hs219 1 r0) (alc D_1_45 ⟨b0',b3',r6',q6',b12',(zR r0),p287,p288,(hs219.pk [0,1,2,4,3] r0)⟩)
  refine dG 9 14 4649 (fun f w'=>∃ (b0' b3' b12':Nat),Hz f [(0,pB rb),(2,pB b1),(3,pB b12'),(4,sb b0' (([0]:List Int).length) 1),(7,sb b3' (([2,1]:List Int).length) 2),(9,pB rb),(13,pB rb)]∧SH w w' [rb] [(Z5 rb Ab bs cb p),.blk b1 53 Z1,(Z17 b0'),.blk b12' 53 Z1,(Z16 b3')]) ?_ (fun D_1_66=>?_)
  ·rintro f w220 ⟨b0',b3',b12',⟨g67,rfl⟩,hs220⟩
   refine aaL [1,2,6] (fa_cons ?_ (fa_cons ?_ (fa_one ?_)))
   ·refine one_ r0 (bsk hs220 sl22 [I 2] [I 2] trivial r0 (fun b1' w221 hs221=>?_))
    exact nk (m1 hs221 1 r0) (alc D_1_37 ⟨b0',b1',b3',b12',(zR r0),(hs221.pk [0,1,2,5,3,4] r0)⟩)
   ·refine one_ r0 (bsk hs220 sl22 [I 0,I 2] [I 0,I 2] trivial r0 (fun b2' w222 hs222=>?_))
    exact nk (m1 hs222 1 r0) (alc D_1_41 ⟨b0',b2',b3',b12',(zR r0),(hs222.pk [0,1,2,3,5,4] r0)⟩)
   ·refine one_ r0 (cL r0 (pick (rb:=rb) (Ab:=Ab) (cb:=cb) (bs:=bs) (p:=p) (n:=4) (w:=_) (hr:=(blk_heap hs220 0 r0)) (hb:=(hb.up hs220 (fun _ h=>h) (fun _ h=>.inl h))) (hbn:=‹_›) (hp:=(by omega))) ?_)
    rintro _ w223 ⟨r6',q6',rfl,p292,p293,hs223⟩
    replace hs223:=hs220.callM 0 r0 hs223 m_1
    exact nk (m1 hs223 0 r0) (alc D_1_45 ⟨b0',b3',r6',q6',b12',(zR r0),p292,p293,(hs223.pk [4,0,1,2,3] r0)⟩)
  refine dG 9 14 1633 (fun f w'=>∃ (b0':Nat) (r6':Int) (q6':Nat) (Aq10':Option Addr) (cq10':Nat) (ak10':Int) (aq10':List Int) (an10':List UInt8) (apt10':Int) (q10':Nat),Hz f [(0,pB rb),(2,pB b1),(4,sb b0' (([0]:List Int).length) 1),(10,I r6'),(14,.agg #[I ak10',(Z10 Aq10' aq10' cq10'),Str an10',I apt10'])]∧(0≤r6'∧(r6'<4∨r6'=0))∧(q6'≤p+1)∧(aq10'.length≤4)∧(an10'.length≤21)∧(q10'≤q6'+40)∧SH w w' [rb] [(Z5 rb Ab bs cb q10'),.blk b1 53 Z1,(Z17 b0'),(Z7 Aq10' aq10' cq10')]) ?_ (fun D_1_67=>?_)
  ·rintro f w224 ⟨b0',r6',q6',Aq10',cq10',ak10',aq10',an10',apt10',q10',⟨g68,rfl⟩,p294,p295,p296,p297,p298,hs224⟩
   refine aaL [1,2,3,12] (fa_cons ?_ (fa_cons ?_ (fa_cons ?_ (fa_one ?_))))
   ·refine one_ r0 (bsk hs224 sl22 [I 2] [I 2] trivial r0 (fun b1' w225 hs225=>?_))
    exact nk (m1 hs225 1 r0) (alc D_1_38 ⟨b0',b1',r6',q6',Aq10',cq10',ak10',aq10',an10',apt10',q10',(zR r0),p294,p295,p296,p297,p298,(hs225.pk [0,1,2,4,3] r0)⟩)
   ·refine one_ r0 (bsk hs224 sl22 [I 0,I 2] [I 0,I 2] trivial r0 (fun b2' w226 hs226=>?_))
    exact nk (m1 hs226 1 r0) (alc D_1_42 ⟨b0',b2',r6',q6',Aq10',cq10',ak10',aq10',an10',apt10',q10',(zR r0),p294,p295,p296,p297,p298,hs226⟩)
   ·refine one_ r0 (bsk hs224 sl22 [I 2,I 1] [I 2,I 1] trivial r0 (fun b3' w227 hs227=>?_))
    exact nk (m1 hs227 1 r0) (alc D_1_44 ⟨b0',b3',r6',q6',Aq10',cq10',ak10',aq10',an10',apt10',q10',(zR r0),p294,p295,p296,p297,p298,hs227⟩)
   ·refine one_ r0 (al (v:=.agg #[ns,Str [],Str [],I 0,ns,Str [],I 0]) (cs:=Z1) hs224 tz53 r0 trivial r0 (fun b12' w228 hs228=>?_))
    exact nk (m1 hs228 1 r0) (alc D_1_46 ⟨b0',r6',q6',b12',Aq10',cq10',ak10',aq10',an10',apt10',q10',(zR r0),p294,p295,p296,p297,p298,hs228⟩)
  refine dG 9 14 4705 (fun f w'=>∃ (b0':Nat) (r6':Int) (q6' b12':Nat),Hz f [(0,pB rb),(2,pB b1),(3,pB b12'),(4,sb b0' (([0]:List Int).length) 1),(10,I r6'),(13,pB rb)]∧(0≤r6'∧(r6'<4∨r6'=0))∧(q6'≤p+1)∧SH w w' [rb] [(Z5 rb Ab bs cb q6'),.blk b1 53 Z1,(Z17 b0'),.blk b12' 53 Z1]) ?_ (fun D_1_68=>?_)
  ·rintro f w229 ⟨b0',r6',q6',b12',⟨g69,rfl⟩,p299,p300,hs229⟩
   refine aaL [1,2,3,10] (fa_cons ?_ (fa_cons ?_ (fa_cons ?_ (fa_one ?_))))
   ·refine one_ r0 (bsk hs229 sl22 [I 2] [I 2] trivial r0 (fun b1' w230 hs230=>?_))
    exact nk (m1 hs230 1 r0) (alc D_1_39 ⟨b0',b1',r6',q6',b12',(zR r0),p299,p300,(hs230.pk [0,1,2,4,3] r0)⟩)
   ·refine one_ r0 (bsk hs229 sl22 [I 0,I 2] [I 0,I 2] trivial r0 (fun b2' w231 hs231=>?_))
    exact nk (m1 hs231 1 r0) (alc D_1_43 ⟨b0',b2',r6',q6',b12',(zR r0),p299,p300,hs231⟩)
   ·refine one_ r0 (bsk hs229 sl22 [I 2,I 1] [I 2,I 1] trivial r0 (fun b3' w232 hs232=>?_))
    exact nk (m1 hs232 1 r0) (alc D_1_45 ⟨b0',b3',r6',q6',b12',(zR r0),p299,p300,hs232⟩)
   ·refine one_ r0 (cL r0 (l91Address (rb:=rb) (Ab:=Ab) (cb:=cb) (bs:=bs) (p:=q6') (w:=_) (hr:=(blk_heap hs229 0 r0)) (hb:=(hb.up hs229 (fun _ h=>h) (fun _ h=>.inl h))) (hbn:=‹_›) (hp:=(by omega))) ?_)
    rintro _ w233 ⟨Aq10',cq10',ak10',aq10',an10',apt10',q10',rfl,p301,p302,p303,hs233⟩
    replace hs233:=hs229.callM 0 r0 hs233 m_1
    exact nk (m1 hs233 0 r0) (alc D_1_46 ⟨b0',r6',q6',b12',Aq10',cq10',ak10',aq10',an10',apt10',q10',(zR r0),p299,p300,p301,p302,p303,(hs233.pk [3,0,1,4,2] r0)⟩)
  refine dG 9 14 558 (fun f w'=>∃ (b1' b2' b3':Nat),Hz f [(0,pB rb),(2,pB b1),(5,sb b1' (([2]:List Int).length) 1),(6,sb b2' (([0,2]:List Int).length) 2),(7,sb b3' (([2,1]:List Int).length) 2),(9,pB rb),(13,pB rb)]∧SH w w' [rb] [(Z5 rb Ab bs cb p),.blk b1 53 Z1,(Z19 b1'),(Z15 b2'),(Z16 b3')]) ?_ (fun D_1_69=>?_)
  ·rintro f w234 ⟨b1',b2',b3',⟨g70,rfl⟩,hs234⟩
   refine aaL [0,6,12] (fa_cons ?_ (fa_cons ?_ (fa_one ?_)))
   ·refine one_ r0 (bsk hs234 sl22 [I 0] [I 0] trivial r0 (fun b0' w235 hs235=>?_))
    exact nk (m1 hs235 1 r0) (alc D_1_33 ⟨b0',b1',b2',b3',(zR r0),(hs235.pk [0,1,5,2,3,4] r0)⟩)
   ·refine one_ r0 (cL r0 (pick (rb:=rb) (Ab:=Ab) (cb:=cb) (bs:=bs) (p:=p) (n:=4) (w:=_) (hr:=(blk_heap hs234 0 r0)) (hb:=(hb.up hs234 (fun _ h=>h) (fun _ h=>.inl h))) (hbn:=‹_›) (hp:=(by omega))) ?_)
    rintro _ w236 ⟨r6',q6',rfl,p304,p305,hs236⟩
    replace hs236:=hs234.callM 0 r0 hs236 m_1
    exact nk (m1 hs236 0 r0) (alc D_1_47 ⟨b1',b2',b3',r6',q6',(zR r0),p304,p305,(hs236.pk [4,0,1,2,3] r0)⟩)
   ·refine one_ r0 (al (v:=.agg #[ns,Str [],Str [],I 0,ns,Str [],I 0]) (cs:=Z1) hs234 tz53 r0 trivial r0 (fun b12' w237 hs237=>?_))
    exact nk (m1 hs237 1 r0) (alc D_1_48 ⟨b1',b2',b3',b12',(zR r0),(hs237.pk [0,1,2,5,3,4] r0)⟩)
  refine dG 9 14 614 (fun f w'=>∃ (b1' b2':Nat) (r6':Int) (q6':Nat),Hz f [(0,pB rb),(2,pB b1),(5,sb b1' (([2]:List Int).length) 1),(6,sb b2' (([0,2]:List Int).length) 2),(10,I r6'),(13,pB rb)]∧(0≤r6'∧(r6'<4∨r6'=0))∧(q6'≤p+1)∧SH w w' [rb] [(Z5 rb Ab bs cb q6'),.blk b1 53 Z1,(Z19 b1'),(Z15 b2')]) ?_ (fun D_1_70=>?_)
  ·rintro f w238 ⟨b1',b2',r6',q6',⟨g71,rfl⟩,p306,p307,hs238⟩
   refine aaL [0,3,10,12] (fa_cons ?_ (fa_cons ?_ (fa_cons ?_ (fa_one ?_))))
   ·refine one_ r0 (bsk hs238 sl22 [I 0] [I 0] trivial r0 (fun b0' w239 hs239=>?_))
    exact nk (m1 hs239 1 r0) (alc D_1_34 ⟨b0',b1',b2',r6',q6',(zR r0),p306,p307,(hs239.pk [0,1,4,2,3] r0)⟩)
   ·refine one_ r0 (bsk hs238 sl22 [I 2,I 1] [I 2,I 1] trivial r0 (fun b3' w240 hs240=>?_))
    exact nk (m1 hs240 1 r0) (alc D_1_47 ⟨b1',b2',b3',r6',q6',(zR r0),p306,p307,hs240⟩)
   ·refine one_ r0 (cL r0 (l91Address (rb:=rb) (Ab:=Ab) (cb:=cb) (bs:=bs) (p:=q6') (w:=_) (hr:=(blk_heap hs238 0 r0)) (hb:=(hb.up hs238 (fun _ h=>h) (fun _ h=>.inl h))) (hbn:=‹_›) (hp:=(by omega))) ?_)
    rintro _ w241 ⟨Aq10',cq10',ak10',aq10',an10',apt10',q10',rfl,p308,p309,p310,hs241⟩
    replace hs241:=hs238.callM 0 r0 hs241 m_1
    exact nk (m1 hs241 0 r0) (alc D_1_49 ⟨b1',b2',r6',q6',Aq10',cq10',ak10',aq10',an10',apt10',q10',(zR r0),p306,p307,p308,p309,p310,(hs241.pk [3,0,1,4,2] r0)⟩)
   ·refine one_ r0 (al (v:=.agg #[ns,Str [],Str [],I 0,ns,Str [],I 0]) (cs:=Z1) hs238 tz53 r0 trivial r0 (fun b12' w242 hs242=>?_))
    exact nk (m1 hs242 1 r0) (alc D_1_50 ⟨b1',b2',r6',q6',b12',(zR r0),p306,p307,(hs242.pk [0,1,2,4,3] r0)⟩)
  refine dG 9 14 4646 (fun f w'=>∃ (b1' b2' b12':Nat),Hz f [(0,pB rb),(2,pB b1),(3,pB b12'),(5,sb b1' (([2]:List Int).length) 1),(6,sb b2' (([0,2]:List Int).length) 2),(9,pB rb),(13,pB rb)]∧SH w w' [rb] [(Z5 rb Ab bs cb p),.blk b1 53 Z1,(Z19 b1'),.blk b12' 53 Z1,(Z15 b2')]) ?_ (fun D_1_71=>?_)
  ·rintro f w243 ⟨b1',b2',b12',⟨g72,rfl⟩,hs243⟩
   refine aaL [0,3,6] (fa_cons ?_ (fa_cons ?_ (fa_one ?_)))
   ·refine one_ r0 (bsk hs243 sl22 [I 0] [I 0] trivial r0 (fun b0' w244 hs244=>?_))
    exact nk (m1 hs244 1 r0) (alc D_1_35 ⟨b0',b1',b2',b12',(zR r0),(hs244.pk [0,1,5,2,3,4] r0)⟩)
   ·refine one_ r0 (bsk hs243 sl22 [I 2,I 1] [I 2,I 1] trivial r0 (fun b3' w245 hs245=>?_))
    exact nk (m1 hs245 1 r0) (alc D_1_48 ⟨b1',b2',b3',b12',(zR r0),hs245⟩)
   ·refine one_ r0 (cL r0 (pick (rb:=rb) (Ab:=Ab) (cb:=cb) (bs:=bs) (p:=p) (n:=4) (w:=_) (hr:=(blk_heap hs243 0 r0)) (hb:=(hb.up hs243 (fun _ h=>h) (fun _ h=>.inl h))) (hbn:=‹_›) (hp:=(by omega))) ?_)
    rintro _ w246 ⟨r6',q6',rfl,p311,p312,hs246⟩
    replace hs246:=hs243.callM 0 r0 hs246 m_1
    exact nk (m1 hs246 0 r0) (alc D_1_50 ⟨b1',b2',r6',q6',b12',(zR r0),p311,p312,(hs246.pk [4,0,1,2,3] r0)⟩)
  refine dG 9 14 618 (fun f w'=>∃ (b1' b3':Nat) (r6':Int) (q6':Nat),Hz f [(0,pB rb),(2,pB b1),(5,sb b1' (([2]:List Int).length) 1),(7,sb b3' (([2,1]:List Int).length) 2),(10,I r6'),(13,pB rb)]∧(0≤r6'∧(r6'<4∨r6'=0))∧(q6'≤p+1)∧SH w w' [rb] [(Z5 rb Ab bs cb q6'),.blk b1 53 Z1,(Z19 b1'),(Z16 b3')]) ?_ (fun D_1_72=>?_)
  ·rintro f w247 ⟨b1',b3',r6',q6',⟨g73,rfl⟩,p313,p314,hs247⟩
   refine aaL [0,2,10,12] (fa_cons ?_ (fa_cons ?_ (fa_cons ?_ (fa_one ?_))))
   ·refine one_ r0 (bsk hs247 sl22 [I 0] [I 0] trivial r0 (fun b0' w248 hs248=>?_))
    exact nk (m1 hs248 1 r0) (alc D_1_36 ⟨b0',b1',b3',r6',q6',(zR r0),p313,p314,(hs248.pk [0,1,4,2,3] r0)⟩)
   ·refine one_ r0 (bsk hs247 sl22 [I 0,I 2] [I 0,I 2] trivial r0 (fun b2' w249 hs249=>?_))
    exact nk (m1 hs249 1 r0) (alc D_1_47 ⟨b1',b2',b3',r6',q6',(zR r0),p313,p314,(hs249.pk [0,1,2,4,3] r0)⟩)
   ·refine one_ r0 (cL r0 (l91Address (rb:=rb) (Ab:=Ab) (cb:=cb) (bs:=bs) (p:=q6') (w:=_) (hr:=(blk_heap hs247 0 r0)) (hb:=(hb.up hs247 (fun _ h=>h) (fun _ h=>.inl h))) (hbn:=‹_›) (hp:=(by omega))) ?_)
    rintro _ w250 ⟨Aq10',cq10',ak10',aq10',an10',apt10',q10',rfl,p315,p316,p317,hs250⟩
    replace hs250:=hs247.callM 0 r0 hs250 m_1
    exact nk (m1 hs250 0 r0) (alc D_1_51 ⟨b1',b3',r6',q6',Aq10',cq10',ak10',aq10',an10',apt10',q10',(zR r0),p313,p314,p315,p316,p317,(hs250.pk [3,0,1,4,2] r0)⟩)
   ·refine one_ r0 (al (v:=.agg #[ns,Str [],Str [],I 0,ns,Str [],I 0]) (cs:=Z1) hs247 tz53 r0 trivial r0 (fun b12' w251 hs251=>?_))
    exact nk (m1 hs251 1 r0) (alc D_1_52 ⟨b1',b3',r6',q6',b12',(zR r0),p313,p314,(hs251.pk [0,1,2,4,3] r0)⟩)
  refine dG 9 14 4650 (fun f w'=>∃ (b1' b3' b12':Nat),Hz f [(0,pB rb),(2,pB b1),(3,pB b12'),(5,sb b1' (([2]:List Int).length) 1),(7,sb b3' (([2,1]:List Int).length) 2),(9,pB rb),(13,pB rb)]∧SH w w' [rb] [(Z5 rb Ab bs cb p),.blk b1 53 Z1,(Z19 b1'),.blk b12' 53 Z1,(Z16 b3')]) ?_ (fun D_1_73=>?_)
  ·rintro f w252 ⟨b1',b3',b12',⟨g74,rfl⟩,hs252⟩
   refine aaL [0,2,6] (fa_cons ?_ (fa_cons ?_ (fa_one ?_)))
   ·refine one_ r0 (bsk hs252 sl22 [I 0] [I 0] trivial r0 (fun b0' w253 hs253=>?_))
    exact nk (m1 hs253 1 r0) (alc D_1_37 ⟨b0',b1',b3',b12',(zR r0),(hs253.pk [0,1,5,2,3,4] r0)⟩)
   ·refine one_ r0 (bsk hs252 sl22 [I 0,I 2] [I 0,I 2] trivial r0 (fun b2' w254 hs254=>?_))
    exact nk (m1 hs254 1 r0) (alc D_1_48 ⟨b1',b2',b3',b12',(zR r0),(hs254.pk [0,1,2,3,5,4] r0)⟩)
   ·refine one_ r0 (cL r0 (pick (rb:=rb) (Ab:=Ab) (cb:=cb) (bs:=bs) (p:=p) (n:=4) (w:=_) (hr:=(blk_heap hs252 0 r0)) (hb:=(hb.up hs252 (fun _ h=>h) (fun _ h=>.inl h))) (hbn:=‹_›) (hp:=(by omega))) ?_)
    rintro _ w255 ⟨r6',q6',rfl,p318,p319,hs255⟩
    replace hs255:=hs252.callM 0 r0 hs255 m_1
    exact nk (m1 hs255 0 r0) (alc D_1_52 ⟨b1',b3',r6',q6',b12',(zR r0),p318,p319,(hs255.pk [4,0,1,2,3] r0)⟩)
  refine dG 9 14 1634 (fun f w'=>∃ (b1':Nat) (r6':Int) (q6':Nat) (Aq10':Option Addr) (cq10':Nat) (ak10':Int) (aq10':List Int) (an10':List UInt8) (apt10':Int) (q10':Nat),Hz f [(0,pB rb),(2,pB b1),(5,sb b1' (([2]:List Int).length) 1),(10,I r6'),(14,.agg #[I ak10',(Z10 Aq10' aq10' cq10'),Str an10',I apt10'])]∧(0≤r6'∧(r6'<4∨r6'=0))∧(q6'≤p+1)∧(aq10'.length≤4)∧(an10'.length≤21)∧(q10'≤q6'+40)∧SH w w' [rb] [(Z5 rb Ab bs cb q10'),.blk b1 53 Z1,(Z19 b1'),(Z7 Aq10' aq10' cq10')]) ?_ (fun D_1_74=>?_)
  ·rintro f w256 ⟨b1',r6',q6',Aq10',cq10',ak10',aq10',an10',apt10',q10',⟨g75,rfl⟩,p320,p321,p322,p323,p324,hs256⟩
   refine aaL [0,2,3,12] (fa_cons ?_ (fa_cons ?_ (fa_cons ?_ (fa_one ?_))))
   ·refine one_ r0 (bsk hs256 sl22 [I 0] [I 0] trivial r0 (fun b0' w257 hs257=>?_))
    exact nk (m1 hs257 1 r0) (alc D_1_38 ⟨b0',b1',r6',q6',Aq10',cq10',ak10',aq10',an10',apt10',q10',(zR r0),p320,p321,p322,p323,p324,(hs257.pk [0,1,4,2,3] r0)⟩)
   ·refine one_ r0 (bsk hs256 sl22 [I 0,I 2] [I 0,I 2] trivial r0 (fun b2' w258 hs258=>?_))
    exact nk (m1 hs258 1 r0) (alc D_1_49 ⟨b1',b2',r6',q6',Aq10',cq10',ak10',aq10',an10',apt10',q10',(zR r0),p320,p321,p322,p323,p324,hs258⟩)
   ·refine one_ r0 (bsk hs256 sl22 [I 2,I 1] [I 2,I 1] trivial r0 (fun b3' w259 hs259=>?_))
    exact nk (m1 hs259 1 r0) (alc D_1_51 ⟨b1',b3',r6',q6',Aq10',cq10',ak10',aq10',an10',apt10',q10',(zR r0),p320,p321,p322,p323,p324,hs259⟩)
   ·refine one_ r0 (al (v:=.agg #[ns,Str [],Str [],I 0,ns,Str [],I 0]) (cs:=Z1) hs256 tz53 r0 trivial r0 (fun b12' w260 hs260=>?_))
    exact nk (m1 hs260 1 r0) (alc D_1_53 ⟨b1',r6',q6',b12',Aq10',cq10',ak10',aq10',an10',apt10',q10',(zR r0),p320,p321,p322,p323,p324,hs260⟩)
  refine dG 9 14 4706 (fun f w'=>∃ (b1':Nat) (r6':Int) (q6' b12':Nat),Hz f [(0,pB rb),(2,pB b1),(3,pB b12'),(5,sb b1' (([2]:List Int).length) 1),(10,I r6'),(13,pB rb)]∧(0≤r6'∧(r6'<4∨r6'=0))∧(q6'≤p+1)∧SH w w' [rb] [(Z5 rb Ab bs cb q6'),.blk b1 53 Z1,(Z19 b1'),.blk b12' 53 Z1]) ?_ (fun D_1_75=>?_)
  ·rintro f w261 ⟨b1',r6',q6',b12',⟨g76,rfl⟩,p325,p326,hs261⟩
   refine aaL [0,2,3,10] (fa_cons ?_ (fa_cons ?_ (fa_cons ?_ (fa_one ?_))))
   ·refine one_ r0 (bsk hs261 sl22 [I 0] [I 0] trivial r0 (fun b0' w262 hs262=>?_))
    exact nk (m1 hs262 1 r0) (alc D_1_39 ⟨b0',b1',r6',q6',b12',(zR r0),p325,p326,(hs262.pk [0,1,4,2,3] r0)⟩)
   ·refine one_ r0 (bsk hs261 sl22 [I 0,I 2] [I 0,I 2] trivial r0 (fun b2' w263 hs263=>?_))
    exact nk (m1 hs263 1 r0) (alc D_1_50 ⟨b1',b2',r6',q6',b12',(zR r0),p325,p326,hs263⟩)
   ·refine one_ r0 (bsk hs261 sl22 [I 2,I 1] [I 2,I 1] trivial r0 (fun b3' w264 hs264=>?_))
    exact nk (m1 hs264 1 r0) (alc D_1_52 ⟨b1',b3',r6',q6',b12',(zR r0),p325,p326,hs264⟩)
   ·refine one_ r0 (cL r0 (l91Address (rb:=rb) (Ab:=Ab) (cb:=cb) (bs:=bs) (p:=q6') (w:=_) (hr:=(blk_heap hs261 0 r0)) (hb:=(hb.up hs261 (fun _ h=>h) (fun _ h=>.inl h))) (hbn:=‹_›) (hp:=(by omega))) ?_)
    rintro _ w265 ⟨Aq10',cq10',ak10',aq10',an10',apt10',q10',rfl,p327,p328,p329,hs265⟩
    replace hs265:=hs261.callM 0 r0 hs265 m_1
    exact nk (m1 hs265 0 r0) (alc D_1_53 ⟨b1',r6',q6',b12',Aq10',cq10',ak10',aq10',an10',apt10',q10',(zR r0),p325,p326,p327,p328,p329,(hs265.pk [3,0,1,4,2] r0)⟩)
  refine dG 9 14 620 (fun f w'=>∃ (b2' b3':Nat) (r6':Int) (q6':Nat),Hz f [(0,pB rb),(2,pB b1),(6,sb b2' (([0,2]:List Int).length) 2),(7,sb b3' (([2,1]:List Int).length) 2),(10,I r6'),(13,pB rb)]∧(0≤r6'∧(r6'<4∨r6'=0))∧(q6'≤p+1)∧SH w w' [rb] [(Z5 rb Ab bs cb q6'),.blk b1 53 Z1,(Z15 b2'),(Z16 b3')]) ?_ (fun D_1_76=>?_)
  ·rintro f w266 ⟨b2',b3',r6',q6',⟨g77,rfl⟩,p330,p331,hs266⟩
   refine aaL [0,1,10,12] (fa_cons ?_ (fa_cons ?_ (fa_cons ?_ (fa_one ?_))))
   ·refine one_ r0 (bsk hs266 sl22 [I 0] [I 0] trivial r0 (fun b0' w267 hs267=>?_))
    exact nk (m1 hs267 1 r0) (alc D_1_40 ⟨b0',b2',b3',r6',q6',(zR r0),p330,p331,(hs267.pk [0,1,4,2,3] r0)⟩)
   ·refine one_ r0 (bsk hs266 sl22 [I 2] [I 2] trivial r0 (fun b1' w268 hs268=>?_))
    exact nk (m1 hs268 1 r0) (alc D_1_47 ⟨b1',b2',b3',r6',q6',(zR r0),p330,p331,(hs268.pk [0,1,4,2,3] r0)⟩)
   ·refine one_ r0 (cL r0 (l91Address (rb:=rb) (Ab:=Ab) (cb:=cb) (bs:=bs) (p:=q6') (w:=_) (hr:=(blk_heap hs266 0 r0)) (hb:=(hb.up hs266 (fun _ h=>h) (fun _ h=>.inl h))) (hbn:=‹_›) (hp:=(by omega))) ?_)
    rintro _ w269 ⟨Aq10',cq10',ak10',aq10',an10',apt10',q10',rfl,p332,p333,p334,hs269⟩
    replace hs269:=hs266.callM 0 r0 hs269 m_1
    exact nk (m1 hs269 0 r0) (alc D_1_54 ⟨b2',b3',r6',q6',Aq10',cq10',ak10',aq10',an10',apt10',q10',(zR r0),p330,p331,p332,p333,p334,(hs269.pk [3,0,4,1,2] r0)⟩)
   ·refine one_ r0 (al (v:=.agg #[ns,Str [],Str [],I 0,ns,Str [],I 0]) (cs:=Z1) hs266 tz53 r0 trivial r0 (fun b12' w270 hs270=>?_))
    exact nk (m1 hs270 1 r0) (alc D_1_55 ⟨b2',b3',r6',q6',b12',(zR r0),p330,p331,(hs270.pk [0,1,4,2,3] r0)⟩)
  refine dG 9 14 4652 (fun f w'=>∃ (b2' b3' b12':Nat),Hz f [(0,pB rb),(2,pB b1),(3,pB b12'),(6,sb b2' (([0,2]:List Int).length) 2),(7,sb b3' (([2,1]:List Int).length) 2),(9,pB rb),(13,pB rb)]∧SH w w' [rb] [(Z5 rb Ab bs cb p),.blk b1 53 Z1,.blk b12' 53 Z1,(Z15 b2'),(Z16 b3')]) ?_ (fun D_1_77=>?_)
  ·rintro f w271 ⟨b2',b3',b12',⟨g78,rfl⟩,hs271⟩
   refine aaL [0,1,6] (fa_cons ?_ (fa_cons ?_ (fa_one ?_)))
   ·refine one_ r0 (bsk hs271 sl22 [I 0] [I 0] trivial r0 (fun b0' w272 hs272=>?_))
    exact nk (m1 hs272 1 r0) (alc D_1_41 ⟨b0',b2',b3',b12',(zR r0),(hs272.pk [0,1,5,2,3,4] r0)⟩)
   ·refine one_ r0 (bsk hs271 sl22 [I 2] [I 2] trivial r0 (fun b1' w273 hs273=>?_))
    exact nk (m1 hs273 1 r0) (alc D_1_48 ⟨b1',b2',b3',b12',(zR r0),(hs273.pk [0,1,5,2,3,4] r0)⟩)
   ·refine one_ r0 (cL r0 (pick (rb:=rb) (Ab:=Ab) (cb:=cb) (bs:=bs) (p:=p) (n:=4) (w:=_) (hr:=(blk_heap hs271 0 r0)) (hb:=(hb.up hs271 (fun _ h=>h) (fun _ h=>.inl h))) (hbn:=‹_›) (hp:=(by omega))) ?_)
    rintro _ w274 ⟨r6',q6',rfl,p335,p336,hs274⟩
    replace hs274:=hs271.callM 0 r0 hs274 m_1
    exact nk (m1 hs274 0 r0) (alc D_1_55 ⟨b2',b3',r6',q6',b12',(zR r0),p335,p336,(hs274.pk [4,0,1,2,3] r0)⟩)
  refine dG 9 14 1636 (fun f w'=>∃ (b2':Nat) (r6':Int) (q6':Nat) (Aq10':Option Addr) (cq10':Nat) (ak10':Int) (aq10':List Int) (an10':List UInt8) (apt10':Int) (q10':Nat),Hz f [(0,pB rb),(2,pB b1),(6,sb b2' (([0,2]:List Int).length) 2),(10,I r6'),(14,.agg #[I ak10',(Z10 Aq10' aq10' cq10'),Str an10',I apt10'])]∧(0≤r6'∧(r6'<4∨r6'=0))∧(q6'≤p+1)∧(aq10'.length≤4)∧(an10'.length≤21)∧(q10'≤q6'+40)∧SH w w' [rb] [(Z5 rb Ab bs cb q10'),.blk b1 53 Z1,(Z7 Aq10' aq10' cq10'),(Z15 b2')]) ?_ (fun D_1_78=>?_)
  ·rintro f w275 ⟨b2',r6',q6',Aq10',cq10',ak10',aq10',an10',apt10',q10',⟨g79,rfl⟩,p337,p338,p339,p340,p341,hs275⟩
   refine aaL [0,1,3,12] (fa_cons ?_ (fa_cons ?_ (fa_cons ?_ (fa_one ?_))))
   ·refine one_ r0 (bsk hs275 sl22 [I 0] [I 0] trivial r0 (fun b0' w276 hs276=>?_))
    exact nk (m1 hs276 1 r0) (alc D_1_42 ⟨b0',b2',r6',q6',Aq10',cq10',ak10',aq10',an10',apt10',q10',(zR r0),p337,p338,p339,p340,p341,(hs276.pk [0,1,4,2,3] r0)⟩)
   ·refine one_ r0 (bsk hs275 sl22 [I 2] [I 2] trivial r0 (fun b1' w277 hs277=>?_))
    exact nk (m1 hs277 1 r0) (alc D_1_49 ⟨b1',b2',r6',q6',Aq10',cq10',ak10',aq10',an10',apt10',q10',(zR r0),p337,p338,p339,p340,p341,(hs277.pk [0,1,4,2,3] r0)⟩)
   ·refine one_ r0 (bsk hs275 sl22 [I 2,I 1] [I 2,I 1] trivial r0 (fun b3' w278 hs278=>?_))
    exact nk (m1 hs278 1 r0) (alc D_1_54 ⟨b2',b3',r6',q6',Aq10',cq10',ak10',aq10',an10',apt10',q10',(zR r0),p337,p338,p339,p340,p341,hs278⟩)
   ·refine one_ r0 (al (v:=.agg #[ns,Str [],Str [],I 0,ns,Str [],I 0]) (cs:=Z1) hs275 tz53 r0 trivial r0 (fun b12' w279 hs279=>?_))
    exact nk (m1 hs279 1 r0) (alc D_1_56 ⟨b2',r6',q6',b12',Aq10',cq10',ak10',aq10',an10',apt10',q10',(zR r0),p337,p338,p339,p340,p341,(hs279.pk [0,1,2,4,3] r0)⟩)
  refine dG 9 14 4708 (fun f w'=>∃ (b2':Nat) (r6':Int) (q6' b12':Nat),Hz f [(0,pB rb),(2,pB b1),(3,pB b12'),(6,sb b2' (([0,2]:List Int).length) 2),(10,I r6'),(13,pB rb)]∧(0≤r6'∧(r6'<4∨r6'=0))∧(q6'≤p+1)∧SH w w' [rb] [(Z5 rb Ab bs cb q6'),.blk b1 53 Z1,.blk b12' 53 Z1,(Z15 b2')]) ?_ (fun D_1_79=>?_)
  ·rintro f w280 ⟨b2',r6',q6',b12',⟨g80,rfl⟩,p342,p343,hs280⟩
   refine aaL [0,1,3,10] (fa_cons ?_ (fa_cons ?_ (fa_cons ?_ (fa_one ?_))))
   ·refine one_ r0 (bsk hs280 sl22 [I 0] [I 0] trivial r0 (fun b0' w281 hs281=>?_))
    exact nk (m1 hs281 1 r0) (alc D_1_43 ⟨b0',b2',r6',q6',b12',(zR r0),p342,p343,(hs281.pk [0,1,4,2,3] r0)⟩)
   ·refine one_ r0 (bsk hs280 sl22 [I 2] [I 2] trivial r0 (fun b1' w282 hs282=>?_))
    exact nk (m1 hs282 1 r0) (alc D_1_50 ⟨b1',b2',r6',q6',b12',(zR r0),p342,p343,(hs282.pk [0,1,4,2,3] r0)⟩)
   ·refine one_ r0 (bsk hs280 sl22 [I 2,I 1] [I 2,I 1] trivial r0 (fun b3' w283 hs283=>?_))
    exact nk (m1 hs283 1 r0) (alc D_1_55 ⟨b2',b3',r6',q6',b12',(zR r0),p342,p343,hs283⟩)
   ·refine one_ r0 (cL r0 (l91Address (rb:=rb) (Ab:=Ab) (cb:=cb) (bs:=bs) (p:=q6') (w:=_) (hr:=(blk_heap hs280 0 r0)) (hb:=(hb.up hs280 (fun _ h=>h) (fun _ h=>.inl h))) (hbn:=‹_›) (hp:=(by omega))) ?_)
    rintro _ w284 ⟨Aq10',cq10',ak10',aq10',an10',apt10',q10',rfl,p344,p345,p346,hs284⟩
    replace hs284:=hs280.callM 0 r0 hs284 m_1
    exact nk (m1 hs284 0 r0) (alc D_1_56 ⟨b2',r6',q6',b12',Aq10',cq10',ak10',aq10',an10',apt10',q10',(zR r0),p342,p343,p344,p345,p346,(hs284.pk [3,0,4,1,2] r0)⟩)
  refine dG 9 14 1640 (fun f w'=>∃ (b3':Nat) (r6':Int) (q6':Nat) (Aq10':Option Addr) (cq10':Nat) (ak10':Int) (aq10':List Int) (an10':List UInt8) (apt10':Int) (q10':Nat),Hz f [(0,pB rb),(2,pB b1),(7,sb b3' (([2,1]:List Int).length) 2),(10,I r6'),(14,.agg #[I ak10',(Z10 Aq10' aq10' cq10'),Str an10',I apt10'])]∧(0≤r6'∧(r6'<4∨r6'=0))∧(q6'≤p+1)∧(aq10'.length≤4)∧(an10'.length≤21)∧(q10'≤q6'+40)∧SH w w' [rb] [(Z5 rb Ab bs cb q10'),.blk b1 53 Z1,(Z7 Aq10' aq10' cq10'),(Z16 b3')]) ?_ (fun D_1_80=>?_)
  ·rintro f w285 ⟨b3',r6',q6',Aq10',cq10',ak10',aq10',an10',apt10',q10',⟨g81,rfl⟩,p347,p348,p349,p350,p351,hs285⟩
   refine aaL [0,1,2,12] (fa_cons ?_ (fa_cons ?_ (fa_cons ?_ (fa_one ?_))))
   ·refine one_ r0 (bsk hs285 sl22 [I 0] [I 0] trivial r0 (fun b0' w286 hs286=>?_))
    exact nk (m1 hs286 1 r0) (alc D_1_44 ⟨b0',b3',r6',q6',Aq10',cq10',ak10',aq10',an10',apt10',q10',(zR r0),p347,p348,p349,p350,p351,(hs286.pk [0,1,4,2,3] r0)⟩)
   ·refine one_ r0 (bsk hs285 sl22 [I 2] [I 2] trivial r0 (fun b1' w287 hs287=>?_))
    exact nk (m1 hs287 1 r0) (alc D_1_51 ⟨b1',b3',r6',q6',Aq10',cq10',ak10',aq10',an10',apt10',q10',(zR r0),p347,p348,p349,p350,p351,(hs287.pk [0,1,4,2,3] r0)⟩)
   ·refine one_ r0 (bsk hs285 sl22 [I 0,I 2] [I 0,I 2] trivial r0 (fun b2' w288 hs288=>?_))
    exact nk (m1 hs288 1 r0) (alc D_1_54 ⟨b2',b3',r6',q6',Aq10',cq10',ak10',aq10',an10',apt10',q10',(zR r0),p347,p348,p349,p350,p351,(hs288.pk [0,1,2,4,3] r0)⟩)
   ·refine one_ r0 (al (v:=.agg #[ns,Str [],Str [],I 0,ns,Str [],I 0]) (cs:=Z1) hs285 tz53 r0 trivial r0 (fun b12' w289 hs289=>?_))
    exact nk (m1 hs289 1 r0) (alc D_1_57 ⟨b3',r6',q6',b12',Aq10',cq10',ak10',aq10',an10',apt10',q10',(zR r0),p347,p348,p349,p350,p351,(hs289.pk [0,1,2,4,3] r0)⟩)
  refine dG 9 14 4712 (fun f w'=>∃ (b3':Nat) (r6':Int) (q6' b12':Nat),Hz f [(0,pB rb),(2,pB b1),(3,pB b12'),(7,sb b3' (([2,1]:List Int).length) 2),(10,I r6'),(13,pB rb)]∧(0≤r6'∧(r6'<4∨r6'=0))∧(q6'≤p+1)∧SH w w' [rb] [(Z5 rb Ab bs cb q6'),.blk b1 53 Z1,.blk b12' 53 Z1,(Z16 b3')]) ?_ (fun D_1_81=>?_)
  ·rintro f w290 ⟨b3',r6',q6',b12',⟨g82,rfl⟩,p352,p353,hs290⟩
   refine aaL [0,1,2,10] (fa_cons ?_ (fa_cons ?_ (fa_cons ?_ (fa_one ?_))))
   ·refine one_ r0 (bsk hs290 sl22 [I 0] [I 0] trivial r0 (fun b0' w291 hs291=>?_))
    exact nk (m1 hs291 1 r0) (alc D_1_45 ⟨b0',b3',r6',q6',b12',(zR r0),p352,p353,(hs291.pk [0,1,4,2,3] r0)⟩)
   ·refine one_ r0 (bsk hs290 sl22 [I 2] [I 2] trivial r0 (fun b1' w292 hs292=>?_))
    exact nk (m1 hs292 1 r0) (alc D_1_52 ⟨b1',b3',r6',q6',b12',(zR r0),p352,p353,(hs292.pk [0,1,4,2,3] r0)⟩)
   ·refine one_ r0 (bsk hs290 sl22 [I 0,I 2] [I 0,I 2] trivial r0 (fun b2' w293 hs293=>?_))
    exact nk (m1 hs293 1 r0) (alc D_1_55 ⟨b2',b3',r6',q6',b12',(zR r0),p352,p353,(hs293.pk [0,1,2,4,3] r0)⟩)
   ·refine one_ r0 (cL r0 (l91Address (rb:=rb) (Ab:=Ab) (cb:=cb) (bs:=bs) (p:=q6') (w:=_) (hr:=(blk_heap hs290 0 r0)) (hb:=(hb.up hs290 (fun _ h=>h) (fun _ h=>.inl h))) (hbn:=‹_›) (hp:=(by omega))) ?_)
    rintro _ w294 ⟨Aq10',cq10',ak10',aq10',an10',apt10',q10',rfl,p354,p355,p356,hs294⟩
    replace hs294:=hs290.callM 0 r0 hs294 m_1
    exact nk (m1 hs294 0 r0) (alc D_1_57 ⟨b3',r6',q6',b12',Aq10',cq10',ak10',aq10',an10',apt10',q10',(zR r0),p352,p353,p354,p355,p356,(hs294.pk [3,0,4,1,2] r0)⟩)
  refine dG 9 14 5728 (fun f w'=>∃ (r6':Int) (q6' b12':Nat) (Aq10':Option Addr) (cq10':Nat) (ak10':Int) (aq10':List Int) (an10':List UInt8) (apt10':Int) (q10':Nat),Hz f [(0,pB rb),(2,pB b1),(3,pB b12'),(10,I r6'),(14,.agg #[I ak10',(Z10 Aq10' aq10' cq10'),Str an10',I apt10'])]∧(0≤r6'∧(r6'<4∨r6'=0))∧(q6'≤p+1)∧(aq10'.length≤4)∧(an10'.length≤21)∧(q10'≤q6'+40)∧SH w w' [rb] [(Z5 rb Ab bs cb q10'),.blk b1 53 Z1,(Z7 Aq10' aq10' cq10'),.blk b12' 53 Z1]) ?_ (fun D_1_82=>?_)
  ·rintro f w295 ⟨r6',q6',b12',Aq10',cq10',ak10',aq10',an10',apt10',q10',⟨g83,rfl⟩,p357,p358,p359,p360,p361,hs295⟩
   refine aaL [0,1,2,3] (fa_cons ?_ (fa_cons ?_ (fa_cons ?_ (fa_one ?_))))
   ·refine one_ r0 (bsk hs295 sl22 [I 0] [I 0] trivial r0 (fun b0' w296 hs296=>?_))
    exact nk (m1 hs296 1 r0) (alc D_1_46 ⟨b0',r6',q6',b12',Aq10',cq10',ak10',aq10',an10',apt10',q10',(zR r0),p357,p358,p359,p360,p361,(hs296.pk [0,1,4,2,3] r0)⟩)
   ·refine one_ r0 (bsk hs295 sl22 [I 2] [I 2] trivial r0 (fun b1' w297 hs297=>?_))
    exact nk (m1 hs297 1 r0) (alc D_1_53 ⟨b1',r6',q6',b12',Aq10',cq10',ak10',aq10',an10',apt10',q10',(zR r0),p357,p358,p359,p360,p361,(hs297.pk [0,1,4,2,3] r0)⟩)
   ·refine one_ r0 (bsk hs295 sl22 [I 0,I 2] [I 0,I 2] trivial r0 (fun b2' w298 hs298=>?_))
    exact nk (m1 hs298 1 r0) (alc D_1_56 ⟨b2',r6',q6',b12',Aq10',cq10',ak10',aq10',an10',apt10',q10',(zR r0),p357,p358,p359,p360,p361,hs298⟩)
   ·refine one_ r0 (bsk hs295 sl22 [I 2,I 1] [I 2,I 1] trivial r0 (fun b3' w299 hs299=>?_))
    exact nk (m1 hs299 1 r0) (alc D_1_57 ⟨b3',r6',q6',b12',Aq10',cq10',ak10',aq10',an10',apt10',q10',(zR r0),p357,p358,p359,p360,p361,hs299⟩)
  refine dG 10 14 547 (fun f w'=>∃ (b0' b1':Nat),Hz f [(0,pB rb),(2,pB b1),(4,sb b0' (([0]:List Int).length) 1),(5,sb b1' (([2]:List Int).length) 1),(9,pB rb),(13,pB rb)]∧SH w w' [rb] [(Z5 rb Ab bs cb p),.blk b1 53 Z1,(Z17 b0'),(Z19 b1')]) ?_ (fun D_1_83=>?_)
  ·rintro f w300 ⟨b0',b1',⟨g84,rfl⟩,hs300⟩
   refine aaL [2,3,6,12] (fa_cons ?_ (fa_cons ?_ (fa_cons ?_ (fa_one ?_))))
   ·refine one_ r0 (bsk hs300 sl22 [I 0,I 2] [I 0,I 2] trivial r0 (fun b2' w301 hs301=>?_))
    exact nk (m1 hs301 1 r0) (alc D_1_58 ⟨b0',b1',b2',(zR r0),hs301⟩)
   ·refine one_ r0 (bsk hs300 sl22 [I 2,I 1] [I 2,I 1] trivial r0 (fun b3' w302 hs302=>?_))
    exact nk (m1 hs302 1 r0) (alc D_1_59 ⟨b0',b1',b3',(zR r0),hs302⟩)
   ·refine one_ r0 (cL r0 (pick (rb:=rb) (Ab:=Ab) (cb:=cb) (bs:=bs) (p:=p) (n:=4) (w:=_) (hr:=(blk_heap hs300 0 r0)) (hb:=(hb.up hs300 (fun _ h=>h) (fun _ h=>.inl h))) (hbn:=‹_›) (hp:=(by omega))) ?_)
    rintro _ w303 ⟨r6',q6',rfl,p362,p363,hs303⟩
    replace hs303:=hs300.callM 0 r0 hs303 m_1
    exact nk (m1 hs303 0 r0) (alc D_1_60 ⟨b0',b1',r6',q6',(zR r0),p362,p363,(hs303.pk [3,0,1,2] r0)⟩)
   ·refine one_ r0 (al (v:=.agg #[ns,Str [],Str [],I 0,ns,Str [],I 0]) (cs:=Z1) hs300 tz53 r0 trivial r0 (fun b12' w304 hs304=>?_))
    exact nk (m1 hs304 1 r0) (alc D_1_61 ⟨b0',b1',b12',(zR r0),hs304⟩)
  refine dG 10 14 549 (fun f w'=>∃ (b0' b2':Nat),Hz f [(0,pB rb),(2,pB b1),(4,sb b0' (([0]:List Int).length) 1),(6,sb b2' (([0,2]:List Int).length) 2),(9,pB rb),(13,pB rb)]∧SH w w' [rb] [(Z5 rb Ab bs cb p),.blk b1 53 Z1,(Z17 b0'),(Z15 b2')]) ?_ (fun D_1_84=>?_)
  ·rintro f w305 ⟨b0',b2',⟨g85,rfl⟩,hs305⟩
   refine aaL [1,3,6,12] (fa_cons ?_ (fa_cons ?_ (fa_cons ?_ (fa_one ?_))))
   ·refine one_ r0 (bsk hs305 sl22 [I 2] [I 2] trivial r0 (fun b1' w306 hs306=>?_))
    exact nk (m1 hs306 1 r0) (alc D_1_58 ⟨b0',b1',b2',(zR r0),(hs306.pk [0,1,2,4,3] r0)⟩)
   ·refine one_ r0 (bsk hs305 sl22 [I 2,I 1] [I 2,I 1] trivial r0 (fun b3' w307 hs307=>?_))
    exact nk (m1 hs307 1 r0) (alc D_1_62 ⟨b0',b2',b3',(zR r0),hs307⟩)
   ·refine one_ r0 (cL r0 (pick (rb:=rb) (Ab:=Ab) (cb:=cb) (bs:=bs) (p:=p) (n:=4) (w:=_) (hr:=(blk_heap hs305 0 r0)) (hb:=(hb.up hs305 (fun _ h=>h) (fun _ h=>.inl h))) (hbn:=‹_›) (hp:=(by omega))) ?_)
    rintro _ w308 ⟨r6',q6',rfl,p364,p365,hs308⟩
    replace hs308:=hs305.callM 0 r0 hs308 m_1
    exact nk (m1 hs308 0 r0) (alc D_1_63 ⟨b0',b2',r6',q6',(zR r0),p364,p365,(hs308.pk [3,0,1,2] r0)⟩)
   ·refine one_ r0 (al (v:=.agg #[ns,Str [],Str [],I 0,ns,Str [],I 0]) (cs:=Z1) hs305 tz53 r0 trivial r0 (fun b12' w309 hs309=>?_))
    exact nk (m1 hs309 1 r0) (alc D_1_64 ⟨b0',b2',b12',(zR r0),(hs309.pk [0,1,2,4,3] r0)⟩)
  refine dG 10 14 553 (fun f w'=>∃ (b0' b3':Nat),Hz f [(0,pB rb),(2,pB b1),(4,sb b0' (([0]:List Int).length) 1),(7,sb b3' (([2,1]:List Int).length) 2),(9,pB rb),(13,pB rb)]∧SH w w' [rb] [(Z5 rb Ab bs cb p),.blk b1 53 Z1,(Z17 b0'),(Z16 b3')]) ?_ (fun D_1_85=>?_)
  ·rintro f w310 ⟨b0',b3',⟨g86,rfl⟩,hs310⟩
   refine aaL [1,2,6,12] (fa_cons ?_ (fa_cons ?_ (fa_cons ?_ (fa_one ?_))))
   ·refine one_ r0 (bsk hs310 sl22 [I 2] [I 2] trivial r0 (fun b1' w311 hs311=>?_))
    exact nk (m1 hs311 1 r0) (alc D_1_59 ⟨b0',b1',b3',(zR r0),(hs311.pk [0,1,2,4,3] r0)⟩)
   ·refine one_ r0 (bsk hs310 sl22 [I 0,I 2] [I 0,I 2] trivial r0 (fun b2' w312 hs312=>?_))
    exact nk (m1 hs312 1 r0) (alc D_1_62 ⟨b0',b2',b3',(zR r0),(hs312.pk [0,1,2,4,3] r0)⟩)
   ·refine one_ r0 (cL r0 (pick (rb:=rb) (Ab:=Ab) (cb:=cb) (bs:=bs) (p:=p) (n:=4) (w:=_) (hr:=(blk_heap hs310 0 r0)) (hb:=(hb.up hs310 (fun _ h=>h) (fun _ h=>.inl h))) (hbn:=‹_›) (hp:=(by omega))) ?_)
    rintro _ w313 ⟨r6',q6',rfl,p366,p367,hs313⟩
    replace hs313:=hs310.callM 0 r0 hs313 m_1
    exact nk (m1 hs313 0 r0) (alc D_1_65 ⟨b0',b3',r6',q6',(zR r0),p366,p367,(hs313.pk [3,0,1,2] r0)⟩)
   ·refine one_ r0 (al (v:=.agg #[ns,Str [],Str [],I 0,ns,Str [],I 0]) (cs:=Z1) hs310 tz53 r0 trivial r0 (fun b12' w314 hs314=>?_))
    exact nk (m1 hs314 1 r0) (alc D_1_66 ⟨b0',b3',b12',(zR r0),(hs314.pk [0,1,2,4,3] r0)⟩)
  refine dG 10 14 609 (fun f w'=>∃ (b0':Nat) (r6':Int) (q6':Nat),Hz f [(0,pB rb),(2,pB b1),(4,sb b0' (([0]:List Int).length) 1),(10,I r6'),(13,pB rb)]∧(0≤r6'∧(r6'<4∨r6'=0))∧(q6'≤p+1)∧SH w w' [rb] [(Z5 rb Ab bs cb q6'),.blk b1 53 Z1,(Z17 b0')]) ?_ (fun D_1_86=>?_)
  ·rintro f w315 ⟨b0',r6',q6',⟨g87,rfl⟩,p368,p369,hs315⟩
   refine aaL [1,2,3,10,12] (fa_cons ?_ (fa_cons ?_ (fa_cons ?_ (fa_cons ?_ (fa_one ?_)))))
   ·refine one_ r0 (bsk hs315 sl22 [I 2] [I 2] trivial r0 (fun b1' w316 hs316=>?_))
    exact nk (m1 hs316 1 r0) (alc D_1_60 ⟨b0',b1',r6',q6',(zR r0),p368,p369,hs316⟩)
   ·refine one_ r0 (bsk hs315 sl22 [I 0,I 2] [I 0,I 2] trivial r0 (fun b2' w317 hs317=>?_))
    exact nk (m1 hs317 1 r0) (alc D_1_63 ⟨b0',b2',r6',q6',(zR r0),p368,p369,hs317⟩)
   ·refine one_ r0 (bsk hs315 sl22 [I 2,I 1] [I 2,I 1] trivial r0 (fun b3' w318 hs318=>?_))
    exact nk (m1 hs318 1 r0) (alc D_1_65 ⟨b0',b3',r6',q6',(zR r0),p368,p369,hs318⟩)
   ·refine one_ r0 (cL r0 (l91Address (rb:=rb) (Ab:=Ab) (cb:=cb) (bs:=bs) (p:=q6') (w:=_) (hr:=(blk_heap hs315 0 r0)) (hb:=(hb.up hs315 (fun _ h=>h) (fun _ h=>.inl h))) (hbn:=‹_›) (hp:=(by omega))) ?_)
    rintro _ w319 ⟨Aq10',cq10',ak10',aq10',an10',apt10',q10',rfl,p370,p371,p372,hs319⟩
    replace hs319:=hs315.callM 0 r0 hs319 m_1
    exact nk (m1 hs319 0 r0) (alc D_1_67 ⟨b0',r6',q6',Aq10',cq10',ak10',aq10',an10',apt10',q10',(zR r0),p368,p369,p370,p371,p372,(hs319.pk [2,0,1,3] r0)⟩)
   ·refine one_ r0 (al (v:=.agg #[ns,Str [],Str [],I 0,ns,Str [],I 0]) (cs:=Z1) hs315 tz53 r0 trivial r0 (fun b12' w320 hs320=>?_))
    exact nk (m1 hs320 1 r0) (alc D_1_68 ⟨b0',r6',q6',b12',(zR r0),p368,p369,hs320⟩)
  refine dG 10 14 4641 (fun f w'=>∃ (b0' b12':Nat),Hz f [(0,pB rb),(2,pB b1),(3,pB b12'),(4,sb b0' (([0]:List Int).length) 1),(9,pB rb),(13,pB rb)]∧SH w w' [rb] [(Z5 rb Ab bs cb p),.blk b1 53 Z1,(Z17 b0'),.blk b12' 53 Z1]) ?_ (fun D_1_87=>?_)
  ·rintro f w321 ⟨b0',b12',⟨g88,rfl⟩,hs321⟩
   refine aaL [1,2,3,6] (fa_cons ?_ (fa_cons ?_ (fa_cons ?_ (fa_one ?_))))
   ·refine one_ r0 (bsk hs321 sl22 [I 2] [I 2] trivial r0 (fun b1' w322 hs322=>?_))
    exact nk (m1 hs322 1 r0) (alc D_1_61 ⟨b0',b1',b12',(zR r0),(hs322.pk [0,1,2,4,3] r0)⟩)
   ·refine one_ r0 (bsk hs321 sl22 [I 0,I 2] [I 0,I 2] trivial r0 (fun b2' w323 hs323=>?_))
    exact nk (m1 hs323 1 r0) (alc D_1_64 ⟨b0',b2',b12',(zR r0),hs323⟩)
   ·refine one_ r0 (bsk hs321 sl22 [I 2,I 1] [I 2,I 1] trivial r0 (fun b3' w324 hs324=>?_))
    exact nk (m1 hs324 1 r0) (alc D_1_66 ⟨b0',b3',b12',(zR r0),hs324⟩)
   ·refine one_ r0 (cL r0 (pick (rb:=rb) (Ab:=Ab) (cb:=cb) (bs:=bs) (p:=p) (n:=4) (w:=_) (hr:=(blk_heap hs321 0 r0)) (hb:=(hb.up hs321 (fun _ h=>h) (fun _ h=>.inl h))) (hbn:=‹_›) (hp:=(by omega))) ?_)
    rintro _ w325 ⟨r6',q6',rfl,p373,p374,hs325⟩
    replace hs325:=hs321.callM 0 r0 hs325 m_1
    exact nk (m1 hs325 0 r0) (alc D_1_68 ⟨b0',r6',q6',b12',(zR r0),p373,p374,(hs325.pk [3,0,1,2] r0)⟩)
  refine dG 10 14 550 (fun f w'=>∃ (b1' b2':Nat),Hz f [(0,pB rb),(2,pB b1),(5,sb b1' (([2]:List Int).length) 1),(6,sb b2' (([0,2]:List Int).length) 2),(9,pB rb),(13,pB rb)]∧SH w w' [rb] [(Z5 rb Ab bs cb p),.blk b1 53 Z1,(Z19 b1'),(Z15 b2')]) ?_ (fun D_1_88=>?_)
  ·rintro f w326 ⟨b1',b2',⟨g89,rfl⟩,hs326⟩
   refine aaL [0,3,6,12] (fa_cons ?_ (fa_cons ?_ (fa_cons ?_ (fa_one ?_))))
   ·refine one_ r0 (bsk hs326 sl22 [I 0] [I 0] trivial r0 (fun b0' w327 hs327=>?_))
    exact nk (m1 hs327 1 r0) (alc D_1_58 ⟨b0',b1',b2',(zR r0),(hs327.pk [0,1,4,2,3] r0)⟩)
   ·refine one_ r0 (bsk hs326 sl22 [I 2,I 1] [I 2,I 1] trivial r0 (fun b3' w328 hs328=>?_))
    exact nk (m1 hs328 1 r0) (alc D_1_69 ⟨b1',b2',b3',(zR r0),hs328⟩)
   ·refine one_ r0 (cL r0 (pick (rb:=rb) (Ab:=Ab) (cb:=cb) (bs:=bs) (p:=p) (n:=4) (w:=_) (hr:=(blk_heap hs326 0 r0)) (hb:=(hb.up hs326 (fun _ h=>h) (fun _ h=>.inl h))) (hbn:=‹_›) (hp:=(by omega))) ?_)
    rintro _ w329 ⟨r6',q6',rfl,p375,p376,hs329⟩
    replace hs329:=hs326.callM 0 r0 hs329 m_1
    exact nk (m1 hs329 0 r0) (alc D_1_70 ⟨b1',b2',r6',q6',(zR r0),p375,p376,(hs329.pk [3,0,1,2] r0)⟩)
   ·refine one_ r0 (al (v:=.agg #[ns,Str [],Str [],I 0,ns,Str [],I 0]) (cs:=Z1) hs326 tz53 r0 trivial r0 (fun b12' w330 hs330=>?_))
    exact nk (m1 hs330 1 r0) (alc D_1_71 ⟨b1',b2',b12',(zR r0),(hs330.pk [0,1,2,4,3] r0)⟩)
  refine dG 10 14 554 (fun f w'=>∃ (b1' b3':Nat),Hz f [(0,pB rb),(2,pB b1),(5,sb b1' (([2]:List Int).length) 1),(7,sb b3' (([2,1]:List Int).length) 2),(9,pB rb),(13,pB rb)]∧SH w w' [rb] [(Z5 rb Ab bs cb p),.blk b1 53 Z1,(Z19 b1'),(Z16 b3')]) ?_ (fun D_1_89=>?_)
  ·rintro f w331 ⟨b1',b3',⟨g90,rfl⟩,hs331⟩
   refine aaL [0,2,6,12] (fa_cons ?_ (fa_cons ?_ (fa_cons ?_ (fa_one ?_))))
   ·refine one_ r0 (bsk hs331 sl22 [I 0] [I 0] trivial r0 (fun b0' w332 hs332=>?_))
    exact nk (m1 hs332 1 r0) (alc D_1_59 ⟨b0',b1',b3',(zR r0),(hs332.pk [0,1,4,2,3] r0)⟩)
   ·refine one_ r0 (bsk hs331 sl22 [I 0,I 2] [I 0,I 2] trivial r0 (fun b2' w333 hs333=>?_))
    exact nk (m1 hs333 1 r0) (alc D_1_69 ⟨b1',b2',b3',(zR r0),(hs333.pk [0,1,2,4,3] r0)⟩)
   ·refine one_ r0 (cL r0 (pick (rb:=rb) (Ab:=Ab) (cb:=cb) (bs:=bs) (p:=p) (n:=4) (w:=_) (hr:=(blk_heap hs331 0 r0)) (hb:=(hb.up hs331 (fun _ h=>h) (fun _ h=>.inl h))) (hbn:=‹_›) (hp:=(by omega))) ?_)
    rintro _ w334 ⟨r6',q6',rfl,p377,p378,hs334⟩
    replace hs334:=hs331.callM 0 r0 hs334 m_1
    exact nk (m1 hs334 0 r0) (alc D_1_72 ⟨b1',b3',r6',q6',(zR r0),p377,p378,(hs334.pk [3,0,1,2] r0)⟩)
   ·refine one_ r0 (al (v:=.agg #[ns,Str [],Str [],I 0,ns,Str [],I 0]) (cs:=Z1) hs331 tz53 r0 trivial r0 (fun b12' w335 hs335=>?_))
    exact nk (m1 hs335 1 r0) (alc D_1_73 ⟨b1',b3',b12',(zR r0),(hs335.pk [0,1,2,4,3] r0)⟩)
  refine dG 10 14 610 (fun f w'=>∃ (b1':Nat) (r6':Int) (q6':Nat),Hz f [(0,pB rb),(2,pB b1),(5,sb b1' (([2]:List Int).length) 1),(10,I r6'),(13,pB rb)]∧(0≤r6'∧(r6'<4∨r6'=0))∧(q6'≤p+1)∧SH w w' [rb] [(Z5 rb Ab bs cb q6'),.blk b1 53 Z1,(Z19 b1')]) ?_ (fun D_1_90=>?_)
  ·rintro f w336 ⟨b1',r6',q6',⟨g91,rfl⟩,p379,p380,hs336⟩
   refine aaL [0,2,3,10,12] (fa_cons ?_ (fa_cons ?_ (fa_cons ?_ (fa_cons ?_ (fa_one ?_)))))
   ·refine one_ r0 (bsk hs336 sl22 [I 0] [I 0] trivial r0 (fun b0' w337 hs337=>?_))
    exact nk (m1 hs337 1 r0) (alc D_1_60 ⟨b0',b1',r6',q6',(zR r0),p379,p380,(hs337.pk [0,1,3,2] r0)⟩)
   ·refine one_ r0 (bsk hs336 sl22 [I 0,I 2] [I 0,I 2] trivial r0 (fun b2' w338 hs338=>?_))
    exact nk (m1 hs338 1 r0) (alc D_1_70 ⟨b1',b2',r6',q6',(zR r0),p379,p380,hs338⟩)
   ·refine one_ r0 (bsk hs336 sl22 [I 2,I 1] [I 2,I 1] trivial r0 (fun b3' w339 hs339=>?_))
    exact nk (m1 hs339 1 r0) (alc D_1_72 ⟨b1',b3',r6',q6',(zR r0),p379,p380,hs339⟩)
   ·refine one_ r0 (cL r0 (l91Address (rb:=rb) (Ab:=Ab) (cb:=cb) (bs:=bs) (p:=q6') (w:=_) (hr:=(blk_heap hs336 0 r0)) (hb:=(hb.up hs336 (fun _ h=>h) (fun _ h=>.inl h))) (hbn:=‹_›) (hp:=(by omega))) ?_)
    rintro _ w340 ⟨Aq10',cq10',ak10',aq10',an10',apt10',q10',rfl,p381,p382,p383,hs340⟩
    replace hs340:=hs336.callM 0 r0 hs340 m_1
    exact nk (m1 hs340 0 r0) (alc D_1_74 ⟨b1',r6',q6',Aq10',cq10',ak10',aq10',an10',apt10',q10',(zR r0),p379,p380,p381,p382,p383,(hs340.pk [2,0,1,3] r0)⟩)
   ·refine one_ r0 (al (v:=.agg #[ns,Str [],Str [],I 0,ns,Str [],I 0]) (cs:=Z1) hs336 tz53 r0 trivial r0 (fun b12' w341 hs341=>?_))
    exact nk (m1 hs341 1 r0) (alc D_1_75 ⟨b1',r6',q6',b12',(zR r0),p379,p380,hs341⟩)
  refine dG 10 14 4642 (fun f w'=>∃ (b1' b12':Nat),Hz f [(0,pB rb),(2,pB b1),(3,pB b12'),(5,sb b1' (([2]:List Int).length) 1),(9,pB rb),(13,pB rb)]∧SH w w' [rb] [(Z5 rb Ab bs cb p),.blk b1 53 Z1,(Z19 b1'),.blk b12' 53 Z1]) ?_ (fun D_1_91=>?_)
  ·rintro f w342 ⟨b1',b12',⟨g92,rfl⟩,hs342⟩
   refine aaL [0,2,3,6] (fa_cons ?_ (fa_cons ?_ (fa_cons ?_ (fa_one ?_))))
   ·refine one_ r0 (bsk hs342 sl22 [I 0] [I 0] trivial r0 (fun b0' w343 hs343=>?_))
    exact nk (m1 hs343 1 r0) (alc D_1_61 ⟨b0',b1',b12',(zR r0),(hs343.pk [0,1,4,2,3] r0)⟩)
   ·refine one_ r0 (bsk hs342 sl22 [I 0,I 2] [I 0,I 2] trivial r0 (fun b2' w344 hs344=>?_))
    exact nk (m1 hs344 1 r0) (alc D_1_71 ⟨b1',b2',b12',(zR r0),hs344⟩)
   ·refine one_ r0 (bsk hs342 sl22 [I 2,I 1] [I 2,I 1] trivial r0 (fun b3' w345 hs345=>?_))
    exact nk (m1 hs345 1 r0) (alc D_1_73 ⟨b1',b3',b12',(zR r0),hs345⟩)
   ·refine one_ r0 (cL r0 (pick (rb:=rb) (Ab:=Ab) (cb:=cb) (bs:=bs) (p:=p) (n:=4) (w:=_) (hr:=(blk_heap hs342 0 r0)) (hb:=(hb.up hs342 (fun _ h=>h) (fun _ h=>.inl h))) (hbn:=‹_›) (hp:=(by omega))) ?_)
    rintro _ w346 ⟨r6',q6',rfl,p384,p385,hs346⟩
    replace hs346:=hs342.callM 0 r0 hs346 m_1
    exact nk (m1 hs346 0 r0) (alc D_1_75 ⟨b1',r6',q6',b12',(zR r0),p384,p385,(hs346.pk [3,0,1,2] r0)⟩)
  refine dG 10 14 556 (fun f w'=>∃ (b2' b3':Nat),Hz f [(0,pB rb),(2,pB b1),(6,sb b2' (([0,2]:List Int).length) 2),(7,sb b3' (([2,1]:List Int).length) 2),(9,pB rb),(13,pB rb)]∧SH w w' [rb] [(Z5 rb Ab bs cb p),.blk b1 53 Z1,(Z15 b2'),(Z16 b3')]) ?_ (fun D_1_92=>?_)
  ·rintro f w347 ⟨b2',b3',⟨g93,rfl⟩,hs347⟩
   refine aaL [0,1,6,12] (fa_cons ?_ (fa_cons ?_ (fa_cons ?_ (fa_one ?_))))
   ·refine one_ r0 (bsk hs347 sl22 [I 0] [I 0] trivial r0 (fun b0' w348 hs348=>?_))
    exact nk (m1 hs348 1 r0) (alc D_1_62 ⟨b0',b2',b3',(zR r0),(hs348.pk [0,1,4,2,3] r0)⟩)
   ·refine one_ r0 (bsk hs347 sl22 [I 2] [I 2] trivial r0 (fun b1' w349 hs349=>?_))
    exact nk (m1 hs349 1 r0) (alc D_1_69 ⟨b1',b2',b3',(zR r0),(hs349.pk [0,1,4,2,3] r0)⟩)
   ·refine one_ r0 (cL r0 (pick (rb:=rb) (Ab:=Ab) (cb:=cb) (bs:=bs) (p:=p) (n:=4) (w:=_) (hr:=(blk_heap hs347 0 r0)) (hb:=(hb.up hs347 (fun _ h=>h) (fun _ h=>.inl h))) (hbn:=‹_›) (hp:=(by omega))) ?_)
    rintro _ w350 ⟨r6',q6',rfl,p386,p387,hs350⟩
    replace hs350:=hs347.callM 0 r0 hs350 m_1
    exact nk (m1 hs350 0 r0) (alc D_1_76 ⟨b2',b3',r6',q6',(zR r0),p386,p387,(hs350.pk [3,0,1,2] r0)⟩)
   ·refine one_ r0 (al (v:=.agg #[ns,Str [],Str [],I 0,ns,Str [],I 0]) (cs:=Z1) hs347 tz53 r0 trivial r0 (fun b12' w351 hs351=>?_))
    exact nk (m1 hs351 1 r0) (alc D_1_77 ⟨b2',b3',b12',(zR r0),(hs351.pk [0,1,4,2,3] r0)⟩)
  refine dG 10 14 612 (fun f w'=>∃ (b2':Nat) (r6':Int) (q6':Nat),Hz f [(0,pB rb),(2,pB b1),(6,sb b2' (([0,2]:List Int).length) 2),(10,I r6'),(13,pB rb)]∧(0≤r6'∧(r6'<4∨r6'=0))∧(q6'≤p+1)∧SH w w' [rb] [(Z5 rb Ab bs cb q6'),.blk b1 53 Z1,(Z15 b2')]) ?_ (fun D_1_93=>?_)
  ·rintro f w352 ⟨b2',r6',q6',⟨g94,rfl⟩,p388,p389,hs352⟩
   refine aaL [0,1,3,10,12] (fa_cons ?_ (fa_cons ?_ (fa_cons ?_ (fa_cons ?_ (fa_one ?_)))))
   ·refine one_ r0 (bsk hs352 sl22 [I 0] [I 0] trivial r0 (fun b0' w353 hs353=>?_))
    exact nk (m1 hs353 1 r0) (alc D_1_63 ⟨b0',b2',r6',q6',(zR r0),p388,p389,(hs353.pk [0,1,3,2] r0)⟩)
   ·refine one_ r0 (bsk hs352 sl22 [I 2] [I 2] trivial r0 (fun b1' w354 hs354=>?_))
    exact nk (m1 hs354 1 r0) (alc D_1_70 ⟨b1',b2',r6',q6',(zR r0),p388,p389,(hs354.pk [0,1,3,2] r0)⟩)
   ·refine one_ r0 (bsk hs352 sl22 [I 2,I 1] [I 2,I 1] trivial r0 (fun b3' w355 hs355=>?_))
    exact nk (m1 hs355 1 r0) (alc D_1_76 ⟨b2',b3',r6',q6',(zR r0),p388,p389,hs355⟩)
   ·refine one_ r0 (cL r0 (l91Address (rb:=rb) (Ab:=Ab) (cb:=cb) (bs:=bs) (p:=q6') (w:=_) (hr:=(blk_heap hs352 0 r0)) (hb:=(hb.up hs352 (fun _ h=>h) (fun _ h=>.inl h))) (hbn:=‹_›) (hp:=(by omega))) ?_)
    rintro _ w356 ⟨Aq10',cq10',ak10',aq10',an10',apt10',q10',rfl,p390,p391,p392,hs356⟩
    replace hs356:=hs352.callM 0 r0 hs356 m_1
    exact nk (m1 hs356 0 r0) (alc D_1_78 ⟨b2',r6',q6',Aq10',cq10',ak10',aq10',an10',apt10',q10',(zR r0),p388,p389,p390,p391,p392,(hs356.pk [2,0,3,1] r0)⟩)
   ·refine one_ r0 (al (v:=.agg #[ns,Str [],Str [],I 0,ns,Str [],I 0]) (cs:=Z1) hs352 tz53 r0 trivial r0 (fun b12' w357 hs357=>?_))
    exact nk (m1 hs357 1 r0) (alc D_1_79 ⟨b2',r6',q6',b12',(zR r0),p388,p389,(hs357.pk [0,1,3,2] r0)⟩)
  refine dG 10 14 4644 (fun f w'=>∃ (b2' b12':Nat),Hz f [(0,pB rb),(2,pB b1),(3,pB b12'),(6,sb b2' (([0,2]:List Int).length) 2),(9,pB rb),(13,pB rb)]∧SH w w' [rb] [(Z5 rb Ab bs cb p),.blk b1 53 Z1,.blk b12' 53 Z1,(Z15 b2')]) ?_ (fun D_1_94=>?_)
  ·rintro f w358 ⟨b2',b12',⟨g95,rfl⟩,hs358⟩
   refine aaL [0,1,3,6] (fa_cons ?_ (fa_cons ?_ (fa_cons ?_ (fa_one ?_))))
   ·refine one_ r0 (bsk hs358 sl22 [I 0] [I 0] trivial r0 (fun b0' w359 hs359=>?_))
    exact nk (m1 hs359 1 r0) (alc D_1_64 ⟨b0',b2',b12',(zR r0),(hs359.pk [0,1,4,2,3] r0)⟩)
   ·refine one_ r0 (bsk hs358 sl22 [I 2] [I 2] trivial r0 (fun b1' w360 hs360=>?_))
    exact nk (m1 hs360 1 r0) (alc D_1_71 ⟨b1',b2',b12',(zR r0),(hs360.pk [0,1,4,2,3] r0)⟩)
   ·refine one_ r0 (bsk hs358 sl22 [I 2,I 1] [I 2,I 1] trivial r0 (fun b3' w361 hs361=>?_))
    exact nk (m1 hs361 1 r0) (alc D_1_77 ⟨b2',b3',b12',(zR r0),hs361⟩)
   ·refine one_ r0 (cL r0 (pick (rb:=rb) (Ab:=Ab) (cb:=cb) (bs:=bs) (p:=p) (n:=4) (w:=_) (hr:=(blk_heap hs358 0 r0)) (hb:=(hb.up hs358 (fun _ h=>h) (fun _ h=>.inl h))) (hbn:=‹_›) (hp:=(by omega))) ?_)
    rintro _ w362 ⟨r6',q6',rfl,p393,p394,hs362⟩
    replace hs362:=hs358.callM 0 r0 hs362 m_1
    exact nk (m1 hs362 0 r0) (alc D_1_79 ⟨b2',r6',q6',b12',(zR r0),p393,p394,(hs362.pk [3,0,1,2] r0)⟩)
  refine dG 10 14 616 (fun f w'=>∃ (b3':Nat) (r6':Int) (q6':Nat),Hz f [(0,pB rb),(2,pB b1),(7,sb b3' (([2,1]:List Int).length) 2),(10,I r6'),(13,pB rb)]∧(0≤r6'∧(r6'<4∨r6'=0))∧(q6'≤p+1)∧SH w w' [rb] [(Z5 rb Ab bs cb q6'),.blk b1 53 Z1,(Z16 b3')]) ?_ (fun D_1_95=>?_)
  ·rintro f w363 ⟨b3',r6',q6',⟨g96,rfl⟩,p395,p396,hs363⟩
   refine aaL [0,1,2,10,12] (fa_cons ?_ (fa_cons ?_ (fa_cons ?_ (fa_cons ?_ (fa_one ?_)))))
   ·refine one_ r0 (bsk hs363 sl22 [I 0] [I 0] trivial r0 (fun b0' w364 hs364=>?_))
    exact nk (m1 hs364 1 r0) (alc D_1_65 ⟨b0',b3',r6',q6',(zR r0),p395,p396,(hs364.pk [0,1,3,2] r0)⟩)
   ·refine one_ r0 (bsk hs363 sl22 [I 2] [I 2] trivial r0 (fun b1' w365 hs365=>?_))
    exact nk (m1 hs365 1 r0) (alc D_1_72 ⟨b1',b3',r6',q6',(zR r0),p395,p396,(hs365.pk [0,1,3,2] r0)⟩)
   ·refine one_ r0 (bsk hs363 sl22 [I 0,I 2] [I 0,I 2] trivial r0 (fun b2' w366 hs366=>?_))
    exact nk (m1 hs366 1 r0) (alc D_1_76 ⟨b2',b3',r6',q6',(zR r0),p395,p396,(hs366.pk [0,1,3,2] r0)⟩)
   ·refine one_ r0 (cL r0 (l91Address (rb:=rb) (Ab:=Ab) (cb:=cb) (bs:=bs) (p:=q6') (w:=_) (hr:=(blk_heap hs363 0 r0)) (hb:=(hb.up hs363 (fun _ h=>h) (fun _ h=>.inl h))) (hbn:=‹_›) (hp:=(by omega))) ?_)
    rintro _ w367 ⟨Aq10',cq10',ak10',aq10',an10',apt10',q10',rfl,p397,p398,p399,hs367⟩
    replace hs367:=hs363.callM 0 r0 hs367 m_1
    exact nk (m1 hs367 0 r0) (alc D_1_80 ⟨b3',r6',q6',Aq10',cq10',ak10',aq10',an10',apt10',q10',(zR r0),p395,p396,p397,p398,p399,(hs367.pk [2,0,3,1] r0)⟩)
   ·refine one_ r0 (al (v:=.agg #[ns,Str [],Str [],I 0,ns,Str [],I 0]) (cs:=Z1) hs363 tz53 r0 trivial r0 (fun b12' w368 hs368=>?_))
    exact nk (m1 hs368 1 r0) (alc D_1_81 ⟨b3',r6',q6',b12',(zR r0),p395,p396,(hs368.pk [0,1,3,2] r0)⟩)
  refine dG 10 14 4648 (fun f w'=>∃ (b3' b12':Nat),Hz f [(0,pB rb),(2,pB b1),(3,pB b12'),(7,sb b3' (([2,1]:List Int).length) 2),(9,pB rb),(13,pB rb)]∧SH w w' [rb] [(Z5 rb Ab bs cb p),.blk b1 53 Z1,.blk b12' 53 Z1,(Z16 b3')]) ?_ (fun D_1_96=>?_)
  ·rintro f w369 ⟨b3',b12',⟨g97,rfl⟩,hs369⟩
   refine aaL [0,1,2,6] (fa_cons ?_ (fa_cons ?_ (fa_cons ?_ (fa_one ?_))))
   ·refine one_ r0 (bsk hs369 sl22 [I 0] [I 0] trivial r0 (fun b0' w370 hs370=>?_))
    exact nk (m1 hs370 1 r0) (alc D_1_66 ⟨b0',b3',b12',(zR r0),(hs370.pk [0,1,4,2,3] r0)⟩)
   ·refine one_ r0 (bsk hs369 sl22 [I 2] [I 2] trivial r0 (fun b1' w371 hs371=>?_))
    exact nk (m1 hs371 1 r0) (alc D_1_73 ⟨b1',b3',b12',(zR r0),(hs371.pk [0,1,4,2,3] r0)⟩)
   ·refine one_ r0 (bsk hs369 sl22 [I 0,I 2] [I 0,I 2] trivial r0 (fun b2' w372 hs372=>?_))
    exact nk (m1 hs372 1 r0) (alc D_1_77 ⟨b2',b3',b12',(zR r0),(hs372.pk [0,1,2,4,3] r0)⟩)
   ·refine one_ r0 (cL r0 (pick (rb:=rb) (Ab:=Ab) (cb:=cb) (bs:=bs) (p:=p) (n:=4) (w:=_) (hr:=(blk_heap hs369 0 r0)) (hb:=(hb.up hs369 (fun _ h=>h) (fun _ h=>.inl h))) (hbn:=‹_›) (hp:=(by omega))) ?_)
    rintro _ w373 ⟨r6',q6',rfl,p400,p401,hs373⟩
    replace hs373:=hs369.callM 0 r0 hs373 m_1
    exact nk (m1 hs373 0 r0) (alc D_1_81 ⟨b3',r6',q6',b12',(zR r0),p400,p401,(hs373.pk [3,0,1,2] r0)⟩)
  refine dG 10 14 1632 (fun f w'=>∃ (r6':Int) (q6':Nat) (Aq10':Option Addr) (cq10':Nat) (ak10':Int) (aq10':List Int) (an10':List UInt8) (apt10':Int) (q10':Nat),Hz f [(0,pB rb),(2,pB b1),(10,I r6'),(14,.agg #[I ak10',(Z10 Aq10' aq10' cq10'),Str an10',I apt10'])]∧(0≤r6'∧(r6'<4∨r6'=0))∧(q6'≤p+1)∧(aq10'.length≤4)∧(an10'.length≤21)∧(q10'≤q6'+40)∧SH w w' [rb] [(Z5 rb Ab bs cb q10'),.blk b1 53 Z1,(Z7 Aq10' aq10' cq10')]) ?_ (fun D_1_97=>?_)
  ·rintro f w374 ⟨r6',q6',Aq10',cq10',ak10',aq10',an10',apt10',q10',⟨g98,rfl⟩,p402,p403,p404,p405,p406,hs374⟩
   refine aaL [0,1,2,3,12] (fa_cons ?_ (fa_cons ?_ (fa_cons ?_ (fa_cons ?_ (fa_one ?_)))))
   ·refine one_ r0 (bsk hs374 sl22 [I 0] [I 0] trivial r0 (fun b0' w375 hs375=>?_))
    exact nk (m1 hs375 1 r0) (alc D_1_67 ⟨b0',r6',q6',Aq10',cq10',ak10',aq10',an10',apt10',q10',(zR r0),p402,p403,p404,p405,p406,(hs375.pk [0,1,3,2] r0)⟩)
   ·refine one_ r0 (bsk hs374 sl22 [I 2] [I 2] trivial r0 (fun b1' w376 hs376=>?_))
    exact nk (m1 hs376 1 r0) (alc D_1_74 ⟨b1',r6',q6',Aq10',cq10',ak10',aq10',an10',apt10',q10',(zR r0),p402,p403,p404,p405,p406,(hs376.pk [0,1,3,2] r0)⟩)
   ·refine one_ r0 (bsk hs374 sl22 [I 0,I 2] [I 0,I 2] trivial r0 (fun b2' w377 hs377=>?_))
    exact nk (m1 hs377 1 r0) (alc D_1_78 ⟨b2',r6',q6',Aq10',cq10',ak10',aq10',an10',apt10',q10',(zR r0),p402,p403,p404,p405,p406,hs377⟩)
   ·refine one_ r0 (bsk hs374 sl22 [I 2,I 1] [I 2,I 1] trivial r0 (fun b3' w378 hs378=>?_))
    exact nk (m1 hs378 1 r0) (alc D_1_80 ⟨b3',r6',q6',Aq10',cq10',ak10',aq10',an10',apt10',q10',(zR r0),p402,p403,p404,p405,p406,hs378⟩)
   ·refine one_ r0 (al (v:=.agg #[ns,Str [],Str [],I 0,ns,Str [],I 0]) (cs:=Z1) hs374 tz53 r0 trivial r0 (fun b12' w379 hs379=>?_))
    exact nk (m1 hs379 1 r0) (alc D_1_82 ⟨r6',q6',b12',Aq10',cq10',ak10',aq10',an10',apt10',q10',(zR r0),p402,p403,p404,p405,p406,hs379⟩)
  refine dG 10 14 4704 (fun f w'=>∃ (r6':Int) (q6' b12':Nat),Hz f [(0,pB rb),(2,pB b1),(3,pB b12'),(10,I r6'),(13,pB rb)]∧(0≤r6'∧(r6'<4∨r6'=0))∧(q6'≤p+1)∧SH w w' [rb] [(Z5 rb Ab bs cb q6'),.blk b1 53 Z1,.blk b12' 53 Z1]) ?_ (fun D_1_98=>?_)
  ·rintro f w380 ⟨r6',q6',b12',⟨g99,rfl⟩,p407,p408,hs380⟩
   refine aaL [0,1,2,3,10] (fa_cons ?_ (fa_cons ?_ (fa_cons ?_ (fa_cons ?_ (fa_one ?_)))))
   ·refine one_ r0 (bsk hs380 sl22 [I 0] [I 0] trivial r0 (fun b0' w381 hs381=>?_))
    exact nk (m1 hs381 1 r0) (alc D_1_68 ⟨b0',r6',q6',b12',(zR r0),p407,p408,(hs381.pk [0,1,3,2] r0)⟩)
   ·refine one_ r0 (bsk hs380 sl22 [I 2] [I 2] trivial r0 (fun b1' w382 hs382=>?_))
    exact nk (m1 hs382 1 r0) (alc D_1_75 ⟨b1',r6',q6',b12',(zR r0),p407,p408,(hs382.pk [0,1,3,2] r0)⟩)
   ·refine one_ r0 (bsk hs380 sl22 [I 0,I 2] [I 0,I 2] trivial r0 (fun b2' w383 hs383=>?_))
    exact nk (m1 hs383 1 r0) (alc D_1_79 ⟨b2',r6',q6',b12',(zR r0),p407,p408,hs383⟩)
   ·refine one_ r0 (bsk hs380 sl22 [I 2,I 1] [I 2,I 1] trivial r0 (fun b3' w384 hs384=>?_))
    exact nk (m1 hs384 1 r0) (alc D_1_81 ⟨b3',r6',q6',b12',(zR r0),p407,p408,hs384⟩)
   ·refine one_ r0 (cL r0 (l91Address (rb:=rb) (Ab:=Ab) (cb:=cb) (bs:=bs) (p:=q6') (w:=_) (hr:=(blk_heap hs380 0 r0)) (hb:=(hb.up hs380 (fun _ h=>h) (fun _ h=>.inl h))) (hbn:=‹_›) (hp:=(by omega))) ?_)
    rintro _ w385 ⟨Aq10',cq10',ak10',aq10',an10',apt10',q10',rfl,p409,p410,p411,hs385⟩
    replace hs385:=hs380.callM 0 r0 hs385 m_1
    exact nk (m1 hs385 0 r0) (alc D_1_82 ⟨r6',q6',b12',Aq10',cq10',ak10',aq10',an10',apt10',q10',(zR r0),p407,p408,p409,p410,p411,(hs385.pk [2,0,3,1] r0)⟩)
  refine dG 11 14 545 (fun f w'=>∃ (b0':Nat),Hz f [(0,pB rb),(2,pB b1),(4,sb b0' (([0]:List Int).length) 1),(9,pB rb),(13,pB rb)]∧SH w w' [rb] [(Z5 rb Ab bs cb p),.blk b1 53 Z1,(Z17 b0')]) ?_ (fun D_1_99=>?_)
  ·rintro f w386 ⟨b0',⟨g100,rfl⟩,hs386⟩
   refine aaL [1,2,3,6,12] (fa_cons ?_ (fa_cons ?_ (fa_cons ?_ (fa_cons ?_ (fa_one ?_)))))
   ·refine one_ r0 (bsk hs386 sl22 [I 2] [I 2] trivial r0 (fun b1' w387 hs387=>?_))
    exact nk (m1 hs387 1 r0) (alc D_1_83 ⟨b0',b1',(zR r0),hs387⟩)
   ·refine one_ r0 (bsk hs386 sl22 [I 0,I 2] [I 0,I 2] trivial r0 (fun b2' w388 hs388=>?_))
    exact nk (m1 hs388 1 r0) (alc D_1_84 ⟨b0',b2',(zR r0),hs388⟩)
   ·refine one_ r0 (bsk hs386 sl22 [I 2,I 1] [I 2,I 1] trivial r0 (fun b3' w389 hs389=>?_))
    exact nk (m1 hs389 1 r0) (alc D_1_85 ⟨b0',b3',(zR r0),hs389⟩)
   ·refine one_ r0 (cL r0 (pick (rb:=rb) (Ab:=Ab) (cb:=cb) (bs:=bs) (p:=p) (n:=4) (w:=_) (hr:=(blk_heap hs386 0 r0)) (hb:=(hb.up hs386 (fun _ h=>h) (fun _ h=>.inl h))) (hbn:=‹_›) (hp:=(by omega))) ?_)
    rintro _ w390 ⟨r6',q6',rfl,p412,p413,hs390⟩
    replace hs390:=hs386.callM 0 r0 hs390 m_1
    exact nk (m1 hs390 0 r0) (alc D_1_86 ⟨b0',r6',q6',(zR r0),p412,p413,(hs390.pk [2,0,1] r0)⟩)
   ·refine one_ r0 (al (v:=.agg #[ns,Str [],Str [],I 0,ns,Str [],I 0]) (cs:=Z1) hs386 tz53 r0 trivial r0 (fun b12' w391 hs391=>?_))
    exact nk (m1 hs391 1 r0) (alc D_1_87 ⟨b0',b12',(zR r0),hs391⟩)
  refine dG 11 14 546 (fun f w'=>∃ (b1':Nat),Hz f [(0,pB rb),(2,pB b1),(5,sb b1' (([2]:List Int).length) 1),(9,pB rb),(13,pB rb)]∧SH w w' [rb] [(Z5 rb Ab bs cb p),.blk b1 53 Z1,(Z19 b1')]) ?_ (fun D_1_100=>?_)
  ·rintro f w392 ⟨b1',⟨g101,rfl⟩,hs392⟩
   refine aaL [0,2,3,6,12] (fa_cons ?_ (fa_cons ?_ (fa_cons ?_ (fa_cons ?_ (fa_one ?_)))))
   ·refine one_ r0 (bsk hs392 sl22 [I 0] [I 0] trivial r0 (fun b0' w393 hs393=>?_))
    exact nk (m1 hs393 1 r0) (alc D_1_83 ⟨b0',b1',(zR r0),(hs393.pk [0,1,3,2] r0)⟩)
   ·refine one_ r0 (bsk hs392 sl22 [I 0,I 2] [I 0,I 2] trivial r0 (fun b2' w394 hs394=>?_))
    exact nk (m1 hs394 1 r0) (alc D_1_88 ⟨b1',b2',(zR r0),hs394⟩)
   ·refine one_ r0 (bsk hs392 sl22 [I 2,I 1] [I 2,I 1] trivial r0 (fun b3' w395 hs395=>?_))
    exact nk (m1 hs395 1 r0) (alc D_1_89 ⟨b1',b3',(zR r0),hs395⟩)
   ·refine one_ r0 (cL r0 (pick (rb:=rb) (Ab:=Ab) (cb:=cb) (bs:=bs) (p:=p) (n:=4) (w:=_) (hr:=(blk_heap hs392 0 r0)) (hb:=(hb.up hs392 (fun _ h=>h) (fun _ h=>.inl h))) (hbn:=‹_›) (hp:=(by omega))) ?_)
    rintro _ w396 ⟨r6',q6',rfl,p414,p415,hs396⟩
    replace hs396:=hs392.callM 0 r0 hs396 m_1
    exact nk (m1 hs396 0 r0) (alc D_1_90 ⟨b1',r6',q6',(zR r0),p414,p415,(hs396.pk [2,0,1] r0)⟩)
   ·refine one_ r0 (al (v:=.agg #[ns,Str [],Str [],I 0,ns,Str [],I 0]) (cs:=Z1) hs392 tz53 r0 trivial r0 (fun b12' w397 hs397=>?_))
    exact nk (m1 hs397 1 r0) (alc D_1_91 ⟨b1',b12',(zR r0),hs397⟩)
  refine dG 11 14 548 (fun f w'=>∃ (b2':Nat),Hz f [(0,pB rb),(2,pB b1),(6,sb b2' (([0,2]:List Int).length) 2),(9,pB rb),(13,pB rb)]∧SH w w' [rb] [(Z5 rb Ab bs cb p),.blk b1 53 Z1,(Z15 b2')]) ?_ (fun D_1_101=>?_)
  ·rintro f w398 ⟨b2',⟨g102,rfl⟩,hs398⟩
   refine aaL [0,1,3,6,12] (fa_cons ?_ (fa_cons ?_ (fa_cons ?_ (fa_cons ?_ (fa_one ?_)))))
   ·refine one_ r0 (bsk hs398 sl22 [I 0] [I 0] trivial r0 (fun b0' w399 hs399=>?_))
    exact nk (m1 hs399 1 r0) (alc D_1_84 ⟨b0',b2',(zR r0),(hs399.pk [0,1,3,2] r0)⟩)
   ·refine one_ r0 (bsk hs398 sl22 [I 2] [I 2] trivial r0 (fun b1' w400 hs400=>?_))
    exact nk (m1 hs400 1 r0) (alc D_1_88 ⟨b1',b2',(zR r0),(hs400.pk [0,1,3,2] r0)⟩)
   ·refine one_ r0 (bsk hs398 sl22 [I 2,I 1] [I 2,I 1] trivial r0 (fun b3' w401 hs401=>?_))
    exact nk (m1 hs401 1 r0) (alc D_1_92 ⟨b2',b3',(zR r0),hs401⟩)
   ·refine one_ r0 (cL r0 (pick (rb:=rb) (Ab:=Ab) (cb:=cb) (bs:=bs) (p:=p) (n:=4) (w:=_) (hr:=(blk_heap hs398 0 r0)) (hb:=(hb.up hs398 (fun _ h=>h) (fun _ h=>.inl h))) (hbn:=‹_›) (hp:=(by omega))) ?_)
    rintro _ w402 ⟨r6',q6',rfl,p416,p417,hs402⟩
    replace hs402:=hs398.callM 0 r0 hs402 m_1
    exact nk (m1 hs402 0 r0) (alc D_1_93 ⟨b2',r6',q6',(zR r0),p416,p417,(hs402.pk [2,0,1] r0)⟩)
   ·refine one_ r0 (al (v:=.agg #[ns,Str [],Str [],I 0,ns,Str [],I 0]) (cs:=Z1) hs398 tz53 r0 trivial r0 (fun b12' w403 hs403=>?_))
    exact nk (m1 hs403 1 r0) (alc D_1_94 ⟨b2',b12',(zR r0),(hs403.pk [0,1,3,2] r0)⟩)
  refine dG 11 14 552 (fun f w'=>∃ (b3':Nat),Hz f [(0,pB rb),(2,pB b1),(7,sb b3' (([2,1]:List Int).length) 2),(9,pB rb),(13,pB rb)]∧SH w w' [rb] [(Z5 rb Ab bs cb p),.blk b1 53 Z1,(Z16 b3')]) ?_ (fun D_1_102=>?_)
  ·rintro f w404 ⟨b3',⟨g103,rfl⟩,hs404⟩
   refine aaL [0,1,2,6,12] (fa_cons ?_ (fa_cons ?_ (fa_cons ?_ (fa_cons ?_ (fa_one ?_)))))
   ·refine one_ r0 (bsk hs404 sl22 [I 0] [I 0] trivial r0 (fun b0' w405 hs405=>?_))
    exact nk (m1 hs405 1 r0) (alc D_1_85 ⟨b0',b3',(zR r0),(hs405.pk [0,1,3,2] r0)⟩)
   ·refine one_ r0 (bsk hs404 sl22 [I 2] [I 2] trivial r0 (fun b1' w406 hs406=>?_))
    exact nk (m1 hs406 1 r0) (alc D_1_89 ⟨b1',b3',(zR r0),(hs406.pk [0,1,3,2] r0)⟩)
   ·refine one_ r0 (bsk hs404 sl22 [I 0,I 2] [I 0,I 2] trivial r0 (fun b2' w407 hs407=>?_))
    exact nk (m1 hs407 1 r0) (alc D_1_92 ⟨b2',b3',(zR r0),(hs407.pk [0,1,3,2] r0)⟩)
   ·refine one_ r0 (cL r0 (pick (rb:=rb) (Ab:=Ab) (cb:=cb) (bs:=bs) (p:=p) (n:=4) (w:=_) (hr:=(blk_heap hs404 0 r0)) (hb:=(hb.up hs404 (fun _ h=>h) (fun _ h=>.inl h))) (hbn:=‹_›) (hp:=(by omega))) ?_)
    rintro _ w408 ⟨r6',q6',rfl,p418,p419,hs408⟩
    replace hs408:=hs404.callM 0 r0 hs408 m_1
    exact nk (m1 hs408 0 r0) (alc D_1_95 ⟨b3',r6',q6',(zR r0),p418,p419,(hs408.pk [2,0,1] r0)⟩)
   ·refine one_ r0 (al (v:=.agg #[ns,Str [],Str [],I 0,ns,Str [],I 0]) (cs:=Z1) hs404 tz53 r0 trivial r0 (fun b12' w409 hs409=>?_))
    exact nk (m1 hs409 1 r0) (alc D_1_96 ⟨b3',b12',(zR r0),(hs409.pk [0,1,3,2] r0)⟩)
  refine dG 11 14 608 (fun f w'=>∃ (r6':Int) (q6':Nat),Hz f [(0,pB rb),(2,pB b1),(10,I r6'),(13,pB rb)]∧(0≤r6'∧(r6'<4∨r6'=0))∧(q6'≤p+1)∧SH w w' [rb] [(Z5 rb Ab bs cb q6'),.blk b1 53 Z1]) ?_ (fun D_1_103=>?_)
  ·rintro f w410 ⟨r6',q6',⟨g104,rfl⟩,p420,p421,hs410⟩
   refine aaL [0,1,2,3,10,12] (fa_cons ?_ (fa_cons ?_ (fa_cons ?_ (fa_cons ?_ (fa_cons ?_ (fa_one ?_))))))
   ·refine one_ r0 (bsk hs410 sl22 [I 0] [I 0] trivial r0 (fun b0' w411 hs411=>?_))
    exact nk (m1 hs411 1 r0) (alc D_1_86 ⟨b0',r6',q6',(zR r0),p420,p421,hs411⟩)
   ·refine one_ r0 (bsk hs410 sl22 [I 2] [I 2] trivial r0 (fun b1' w412 hs412=>?_))
    exact nk (m1 hs412 1 r0) (alc D_1_90 ⟨b1',r6',q6',(zR r0),p420,p421,hs412⟩)
   ·refine one_ r0 (bsk hs410 sl22 [I 0,I 2] [I 0,I 2] trivial r0 (fun b2' w413 hs413=>?_))
    exact nk (m1 hs413 1 r0) (alc D_1_93 ⟨b2',r6',q6',(zR r0),p420,p421,hs413⟩)
   ·refine one_ r0 (bsk hs410 sl22 [I 2,I 1] [I 2,I 1] trivial r0 (fun b3' w414 hs414=>?_))
    exact nk (m1 hs414 1 r0) (alc D_1_95 ⟨b3',r6',q6',(zR r0),p420,p421,hs414⟩)
   ·refine one_ r0 (cL r0 (l91Address (rb:=rb) (Ab:=Ab) (cb:=cb) (bs:=bs) (p:=q6') (w:=_) (hr:=(blk_heap hs410 0 r0)) (hb:=(hb.up hs410 (fun _ h=>h) (fun _ h=>.inl h))) (hbn:=‹_›) (hp:=(by omega))) ?_)
    rintro _ w415 ⟨Aq10',cq10',ak10',aq10',an10',apt10',q10',rfl,p422,p423,p424,hs415⟩
    replace hs415:=hs410.callM 0 r0 hs415 m_1
    exact nk (m1 hs415 0 r0) (alc D_1_97 ⟨r6',q6',Aq10',cq10',ak10',aq10',an10',apt10',q10',(zR r0),p420,p421,p422,p423,p424,(hs415.pk [1,0,2] r0)⟩)
   ·refine one_ r0 (al (v:=.agg #[ns,Str [],Str [],I 0,ns,Str [],I 0]) (cs:=Z1) hs410 tz53 r0 trivial r0 (fun b12' w416 hs416=>?_))
    exact nk (m1 hs416 1 r0) (alc D_1_98 ⟨r6',q6',b12',(zR r0),p420,p421,hs416⟩)
  refine dG 11 14 4640 (fun f w'=>∃ (b12':Nat),Hz f [(0,pB rb),(2,pB b1),(3,pB b12'),(9,pB rb),(13,pB rb)]∧SH w w' [rb] [(Z5 rb Ab bs cb p),.blk b1 53 Z1,.blk b12' 53 Z1]) ?_ (fun D_1_104=>?_)
  ·rintro f w417 ⟨b12',⟨g105,rfl⟩,hs417⟩
   refine aaL [0,1,2,3,6] (fa_cons ?_ (fa_cons ?_ (fa_cons ?_ (fa_cons ?_ (fa_one ?_)))))
   ·refine one_ r0 (bsk hs417 sl22 [I 0] [I 0] trivial r0 (fun b0' w418 hs418=>?_))
    exact nk (m1 hs418 1 r0) (alc D_1_87 ⟨b0',b12',(zR r0),(hs418.pk [0,1,3,2] r0)⟩)
   ·refine one_ r0 (bsk hs417 sl22 [I 2] [I 2] trivial r0 (fun b1' w419 hs419=>?_))
    exact nk (m1 hs419 1 r0) (alc D_1_91 ⟨b1',b12',(zR r0),(hs419.pk [0,1,3,2] r0)⟩)
   ·refine one_ r0 (bsk hs417 sl22 [I 0,I 2] [I 0,I 2] trivial r0 (fun b2' w420 hs420=>?_))
    exact nk (m1 hs420 1 r0) (alc D_1_94 ⟨b2',b12',(zR r0),hs420⟩)
   ·refine one_ r0 (bsk hs417 sl22 [I 2,I 1] [I 2,I 1] trivial r0 (fun b3' w421 hs421=>?_))
    exact nk (m1 hs421 1 r0) (alc D_1_96 ⟨b3',b12',(zR r0),hs421⟩)
   ·refine one_ r0 (cL r0 (pick (rb:=rb) (Ab:=Ab) (cb:=cb) (bs:=bs) (p:=p) (n:=4) (w:=_) (hr:=(blk_heap hs417 0 r0)) (hb:=(hb.up hs417 (fun _ h=>h) (fun _ h=>.inl h))) (hbn:=‹_›) (hp:=(by omega))) ?_)
    rintro _ w422 ⟨r6',q6',rfl,p425,p426,hs422⟩
    replace hs422:=hs417.callM 0 r0 hs422 m_1
    exact nk (m1 hs422 0 r0) (alc D_1_98 ⟨r6',q6',b12',(zR r0),p425,p426,(hs422.pk [2,0,1] r0)⟩)
  refine dG 12 14 544 (fun f w'=>Hz f [(0,pB rb),(2,pB b1),(9,pB rb),(13,pB rb)]∧SH w w' [rb] [(Z5 rb Ab bs cb p),.blk b1 53 Z1]) ?_ (fun D_1_105=>?_)
  ·rintro f w423 ⟨⟨g106,rfl⟩,hs423⟩
   refine aaL [0,1,2,3,6,12] (fa_cons ?_ (fa_cons ?_ (fa_cons ?_ (fa_cons ?_ (fa_cons ?_ (fa_one ?_))))))
   ·refine one_ r0 (bsk hs423 sl22 [I 0] [I 0] trivial r0 (fun b0' w424 hs424=>?_))
    exact nk (m1 hs424 1 r0) (alc D_1_99 ⟨b0',(zR r0),hs424⟩)
   ·refine one_ r0 (bsk hs423 sl22 [I 2] [I 2] trivial r0 (fun b1' w425 hs425=>?_))
    exact nk (m1 hs425 1 r0) (alc D_1_100 ⟨b1',(zR r0),hs425⟩)
   ·refine one_ r0 (bsk hs423 sl22 [I 0,I 2] [I 0,I 2] trivial r0 (fun b2' w426 hs426=>?_))
    exact nk (m1 hs426 1 r0) (alc D_1_101 ⟨b2',(zR r0),hs426⟩)
   ·refine one_ r0 (bsk hs423 sl22 [I 2,I 1] [I 2,I 1] trivial r0 (fun b3' w427 hs427=>?_))
    exact nk (m1 hs427 1 r0) (alc D_1_102 ⟨b3',(zR r0),hs427⟩)
   ·refine one_ r0 (cL r0 (pick (rb:=rb) (Ab:=Ab) (cb:=cb) (bs:=bs) (p:=p) (n:=4) (w:=_) (hr:=(blk_heap hs423 0 r0)) (hb:=(hb.up hs423 (fun _ h=>h) (fun _ h=>.inl h))) (hbn:=‹_›) (hp:=(by omega))) ?_)
    rintro _ w428 ⟨r6',q6',rfl,p427,p428,hs428⟩
    replace hs428:=hs423.callM 0 r0 hs428 m_1
    exact nk (m1 hs428 0 r0) (alc D_1_103 ⟨r6',q6',(zR r0),p427,p428,(hs428.pk [1,0] r0)⟩)
   ·refine one_ r0 (al (v:=.agg #[ns,Str [],Str [],I 0,ns,Str [],I 0]) (cs:=Z1) hs423 tz53 r0 trivial r0 (fun b12' w429 hs429=>?_))
    exact nk (m1 hs429 1 r0) (alc D_1_104 ⟨b12',(zR r0),hs429⟩)
  have hs430:=hs1.drew
  refine tk (fuel:=12) (is:=[5,9]) (.cons r0 (.cons r0 (.nil))) (by kernel_rfl) (by kernel_rfl) (m1 hs430 1 r0) (yA r0 (mv (v:=pB rb) r0) (yA r0 (mv (v:=pB rb) r0) (.nil ?_)))
  exact alc D_1_105 ⟨(zR r0),hs430⟩
 rintro f w430 ⟨b0',b1',b2',b3',r6',q6',b12',Aq10',cq10',ak10',aq10',an10',apt10',q10',b4',⟨g107,rfl⟩,p429,p430,p431,p432,p433,hs431⟩
 refine nN (sr (bsk hs431 sl22 [] [] trivial r0 (fun b2 w431 (hs432:SH w w431 [rb] [(Z5 rb Ab bs cb q10'),.blk b1 53 Z1,(Z17 b0'),(Z19 b1'),(Z7 Aq10' aq10' cq10'),.blk b12' 53 [.slice (((Z0 b0' b1' b2' b3').getD r6'.toNat hd0).A) ((Z4.getD r6'.toNat []).length) (((Z0 b0' b1' b2' b3').getD r6'.toNat hd0).c),Str [],Str [],I ak10',(Z10 Aq10' aq10' cq10'),Str an10',I apt10'],(Z15 b2'),(Z16 b3'),.own (Z6 b4') ((Z0 b0' b1' b2' b3').length) 4 22 1 ((Z0 b0' b1' b2' b3').map hv),(Z27 b2)])=>?_)))
 refine qt r0 (fa 0 fo53_0 r0) (qt r0 (lD (.slice (((Z0 b0' b1' b2' b3').getD r6'.toNat hd0).A) ((Z4.getD r6'.toNat []).length) (((Z0 b0' b1' b2' b3').getD r6'.toNat hd0).c)) hs432 5 r0 one22) (apm (g:=I) (ys:=([]:List Int)) (zs:=Z4.getD r6'.toNat []) hs432 9 r0 sl22 r0 r0 r0 (hd_at2 (L:=Z4) r0 (fa_cons (hs432.sl0 2 r0) (fa_cons (hs432.sl0 3 r0) (fa_cons (hs432.sl0 6 r0) (fa_cons (hs432.sl0 7 r0) fa_nil)))) (by((simp; omega)))) (fun _=>rfl) (by unfold maxLen; have h4:=four_len r6'.toNat; (try simp only[List.length_nil,Nat.zero_add]); omega) (by have h4:=four_len r6'.toNat; (try simp only[List.length_nil,Nat.zero_add]); omega) trivial r0 (fun A1 c1 w432 hs433=>?_)))
 refine qt r0 (fa 0 fo53_0 r0) (sT (.slice A1 ((Z4.getD r6'.toNat []).length) c1) hs433 5 r0 one22 (fun w433 hs434=>?_))
 refine nn ?_
 have hs435:SH w w433 [rb] [(Z5 rb Ab bs cb q10'),.blk b1 53 Z1,(Z7 Aq10' aq10' cq10'),.own A1 ((Z4.getD r6'.toNat []).length) c1 3 1 ((Z4.getD r6'.toNat []).map I),.blk b12' 53 [.slice A1 ((Z4.getD r6'.toNat []).length) c1,Str [],Str [],I ak10',(Z10 Aq10' aq10' cq10'),Str an10',I apt10']]:=hs434.pk [0,1,4,8,9] r0
 refine sq (sr (qt r0 (fa 0 fo53_0 r0) (qt r0 (lD (.slice A1 ((Z4.getD r6'.toNat []).length) c1) hs435 4 r0 one22) (cL r0 (l5Has (Azs:=A1) (czs:=c1) (zs:=Z4.getD r6'.toNat []) (n:=2) (w:=_) (hzs:=(hs435.sl0 3 r0))) ?_))))
 rintro _ w434 ⟨rfl,hs436⟩
 replace hs436:=hs435.call0 hs436
 refine nn ?_
 refine cdd (p:=2∈(Z4.getD r6'.toNat [])) r0 (fun h1=>?_) (fun h1=>?_)
 ·refine rg (qt r0 (bdv (v:=.agg #[Str [97,110,110],Str [97,98,99]]) [(0,Str [97,110,110]),(1,Str [97,98,99])] r0 (fun _=>by kernel_rfl)) (qt r0 (bdv (v:=.agg #[Str [98,111,98],Str [57]]) [(0,Str [98,111,98]),(1,Str [57])] r0 (fun _=>by kernel_rfl)) (qt r0 (bdv (v:=.agg #[Str [98,111,98],Str [97,98,99]]) [(0,Str [98,111,98]),(1,Str [97,98,99])] r0 (fun _=>by kernel_rfl)) (bsk hs436 sl27 [.agg #[Str [97,110,110],Str [97,98,99]],.agg #[Str [98,111,98],Str [57]],.agg #[Str [98,111,98],Str [97,98,99]]] [Str [97,110,110],Str [97,98,99],Str [98,111,98],Str [57],Str [98,111,98],Str [97,98,99]] trivial r0 (fun b3 w435 hs437=>?_)))))
  refine tm (pB rb) r0 (cL r0 (pick (rb:=rb) (Ab:=Ab) (cb:=cb) (bs:=bs) (p:=q10') (n:=3) (w:=_) (hr:=(blk_heap hs437 0 r0)) (hb:=(hb.up hs437 (fun _ h=>h) (fun _ h=>.inl h))) (hbn:=‹_›) (hp:=(by omega))) ?_)
  rintro _ w436 ⟨r1,q1,rfl,p434,p435,hs438⟩
  replace hs438:=hs437.callM 0 r0 hs438 m_1
  refine qt r0 (ixo r1.toNat sl27 r0 (ieq (x:=r1) (by(omega))) (by(omega))) (qt r0 (ldofg (g:=gLogin) (ys:=([(([97,110,110],[97,98,99]):List UInt8×List UInt8),(([98,111,98],[57]):List UInt8×List UInt8),(([98,111,98],[97,98,99]):List UInt8×List UInt8)]:List (List UInt8×List UInt8))) (o:=r1.toNat) (vs:=[Str ((([(([97,110,110],[97,98,99]):List UInt8×List UInt8),(([98,111,98],[57]):List UInt8×List UInt8),(([98,111,98],[97,98,99]):List UInt8×List UInt8)]:List (List UInt8×List UInt8)).getD r1.toNat login0).1),Str ((([(([97,110,110],[97,98,99]):List UInt8×List UInt8),(([98,111,98],[57]):List UInt8×List UInt8),(([98,111,98],[97,98,99]):List UInt8×List UInt8)]:List (List UInt8×List UInt8)).getD r1.toNat login0).2)]) login0 (fun _=>rfl) hs438 4 r0 r0 (by((simp; omega))) r0 ag51) (qt r0 (fa 1 fo53_1 r0) (sG [Str ((([(([97,110,110],[97,98,99]):List UInt8×List UInt8),(([98,111,98],[57]):List UInt8×List UInt8),(([98,111,98],[97,98,99]):List UInt8×List UInt8)]:List (List UInt8×List UInt8)).getD r1.toNat login0).1),Str ((([(([97,110,110],[97,98,99]):List UInt8×List UInt8),(([98,111,98],[57]):List UInt8×List UInt8),(([98,111,98],[97,98,99]):List UInt8×List UInt8)]:List (List UInt8×List UInt8)).getD r1.toNat login0).2)] hs438 3 r0 ag51 (fun w437 hs439=>?_))))
  refine nn (sq (sr (tm (pB rb) r0 (cL r0 (pick (rb:=rb) (Ab:=Ab) (cb:=cb) (bs:=bs) (p:=q1) (n:=20) (w:=_) (hr:=(blk_heap hs439 4 r0)) (hb:=(hb.up hs439 (fun _ h=>h) (fun _ h=>.inl h))) (hbn:=‹_›) (hp:=(by omega))) ?_))))
  rintro _ w438 ⟨r2,q2,rfl,p436,p437,hs440⟩
  replace hs440:=hs439.callM 4 r0 hs440 m_1
  refine qt r0 (eqi (k:=.i64) (a:=r2) (b:=0) r0 r0) (nn ?_)
  refine cdd (p:=r2=0) r0 (fun h2=>?_) (fun h2=>?_)
  ·refine rg (qt r0 (bdv (v:=.agg #[Str [97,110,110],Str []]) [(0,Str [97,110,110])] r0 (fun _=>by kernel_rfl)) (qt r0 (fa 1 fo53_1 r0) (sG [Str [97,110,110],Str []] hs440 4 r0 ag51 (fun w439 (hs441:SH w w439 [rb] [.blk b1 53 Z1,(Z7 Aq10' aq10' cq10'),.own A1 ((Z4.getD r6'.toNat []).length) c1 3 1 ((Z4.getD r6'.toNat []).map I),.own (Z6 b3) (([(([97,110,110],[97,98,99]):List UInt8×List UInt8),(([98,111,98],[57]):List UInt8×List UInt8),(([98,111,98],[97,98,99]):List UInt8×List UInt8)]:List (List UInt8×List UInt8)).length) 3 51 2 (([(([97,110,110],[97,98,99]):List UInt8×List UInt8),(([98,111,98],[57]):List UInt8×List UInt8),(([98,111,98],[97,98,99]):List UInt8×List UInt8)]:List (List UInt8×List UInt8)).flatMap gLogin),(Z5 rb Ab bs cb q2),.blk b12' 53 [.slice A1 ((Z4.getD r6'.toNat []).length) c1,Str [97,110,110],Str [],I ak10',(Z10 Aq10' aq10' cq10'),Str an10',I apt10']])=>?_))))
   refine nx (qt r0 (lG [.slice A1 ((Z4.getD r6'.toNat []).length) c1,Str [97,110,110],Str [],I ak10',(Z10 Aq10' aq10' cq10'),Str an10',I apt10'] hs441 5 r0 ag53) (sG [.slice A1 ((Z4.getD r6'.toNat []).length) c1,Str [97,110,110],Str [],I ak10',(Z10 Aq10' aq10' cq10'),Str an10',I apt10'] hs441 0 r0 ag53 (fun w440 hs442=>?_)))
   refine nn ?_
   have hs443:=hs442.pq [0,1,3,5] r0
   refine rt (fret (v:=.agg #[.slice A1 ((Z4.getD r6'.toNat []).length) c1,Str [97,110,110],Str [],I ak10',(Z10 Aq10' aq10' cq10'),Str an10',I apt10']) (resC hs443 3 r0 r0 ag53 r0 .nil) r0 ?_)
   exact⟨A1,c1,Aq10',cq10',Z4.getD r6'.toNat [],[97,110,110],[],ak10',aq10',an10',apt10',q2,rfl,(by have h4:=four_len r6'.toNat; omega),(by simp),(by simp),(by omega),(by omega),(by omega),(hs443.pk [2,1,0] r0)⟩
  ·refine sk (nN (sr (qt r0 (lG [.slice A1 ((Z4.getD r6'.toNat []).length) c1,Str ((([(([97,110,110],[97,98,99]):List UInt8×List UInt8),(([98,111,98],[57]):List UInt8×List UInt8),(([98,111,98],[97,98,99]):List UInt8×List UInt8)]:List (List UInt8×List UInt8)).getD r1.toNat login0).1),Str ((([(([97,110,110],[97,98,99]):List UInt8×List UInt8),(([98,111,98],[57]):List UInt8×List UInt8),(([98,111,98],[97,98,99]):List UInt8×List UInt8)]:List (List UInt8×List UInt8)).getD r1.toNat login0).2),I ak10',(Z10 Aq10' aq10' cq10'),Str an10',I apt10'] hs440 4 r0 ag53) (sG [.slice A1 ((Z4.getD r6'.toNat []).length) c1,Str ((([(([97,110,110],[97,98,99]):List UInt8×List UInt8),(([98,111,98],[57]):List UInt8×List UInt8),(([98,111,98],[97,98,99]):List UInt8×List UInt8)]:List (List UInt8×List UInt8)).getD r1.toNat login0).1),Str ((([(([97,110,110],[97,98,99]):List UInt8×List UInt8),(([98,111,98],[57]):List UInt8×List UInt8),(([98,111,98],[97,98,99]):List UInt8×List UInt8)]:List (List UInt8×List UInt8)).getD r1.toNat login0).2),I ak10',(Z10 Aq10' aq10' cq10'),Str an10',I apt10'] hs440 0 r0 ag53 (fun w441 (hs444:SH w w441 [rb] [(Z7 Aq10' aq10' cq10'),.own A1 ((Z4.getD r6'.toNat []).length) c1 3 1 ((Z4.getD r6'.toNat []).map I),.own (Z6 b3) (([(([97,110,110],[97,98,99]):List UInt8×List UInt8),(([98,111,98],[57]):List UInt8×List UInt8),(([98,111,98],[97,98,99]):List UInt8×List UInt8)]:List (List UInt8×List UInt8)).length) 3 51 2 (([(([97,110,110],[97,98,99]):List UInt8×List UInt8),(([98,111,98],[57]):List UInt8×List UInt8),(([98,111,98],[97,98,99]):List UInt8×List UInt8)]:List (List UInt8×List UInt8)).flatMap gLogin),.blk b12' 53 [.slice A1 ((Z4.getD r6'.toNat []).length) c1,Str ((([(([97,110,110],[97,98,99]):List UInt8×List UInt8),(([98,111,98],[57]):List UInt8×List UInt8),(([98,111,98],[97,98,99]):List UInt8×List UInt8)]:List (List UInt8×List UInt8)).getD r1.toNat login0).1),Str ((([(([97,110,110],[97,98,99]):List UInt8×List UInt8),(([98,111,98],[57]):List UInt8×List UInt8),(([98,111,98],[97,98,99]):List UInt8×List UInt8)]:List (List UInt8×List UInt8)).getD r1.toNat login0).2),I ak10',(Z10 Aq10' aq10' cq10'),Str an10',I apt10'],(Z5 rb Ab bs cb q2),.blk b1 53 [.slice A1 ((Z4.getD r6'.toNat []).length) c1,Str ((([(([97,110,110],[97,98,99]):List UInt8×List UInt8),(([98,111,98],[57]):List UInt8×List UInt8),(([98,111,98],[97,98,99]):List UInt8×List UInt8)]:List (List UInt8×List UInt8)).getD r1.toNat login0).1),Str ((([(([97,110,110],[97,98,99]):List UInt8×List UInt8),(([98,111,98],[57]):List UInt8×List UInt8),(([98,111,98],[97,98,99]):List UInt8×List UInt8)]:List (List UInt8×List UInt8)).getD r1.toNat login0).2),I ak10',(Z10 Aq10' aq10' cq10'),Str an10',I apt10']])=>?_)))))
   refine nn ?_
   have hs445:=hs444.pq [0,1,4,5] r0
   refine rt (fret (v:=.agg #[.slice A1 ((Z4.getD r6'.toNat []).length) c1,Str ((([(([97,110,110],[97,98,99]):List UInt8×List UInt8),(([98,111,98],[57]):List UInt8×List UInt8),(([98,111,98],[97,98,99]):List UInt8×List UInt8)]:List (List UInt8×List UInt8)).getD r1.toNat login0).1),Str ((([(([97,110,110],[97,98,99]):List UInt8×List UInt8),(([98,111,98],[57]):List UInt8×List UInt8),(([98,111,98],[97,98,99]):List UInt8×List UInt8)]:List (List UInt8×List UInt8)).getD r1.toNat login0).2),I ak10',(Z10 Aq10' aq10' cq10'),Str an10',I apt10']) (resC hs445 3 r0 r0 ag53 r0 .nil) r0 ?_)
   exact⟨A1,c1,Aq10',cq10',Z4.getD r6'.toNat [],(([(([97,110,110],[97,98,99]):List UInt8×List UInt8),(([98,111,98],[57]):List UInt8×List UInt8),(([98,111,98],[97,98,99]):List UInt8×List UInt8)]:List (List UInt8×List UInt8)).getD r1.toNat login0).1,(([(([97,110,110],[97,98,99]):List UInt8×List UInt8),(([98,111,98],[57]):List UInt8×List UInt8),(([98,111,98],[97,98,99]):List UInt8×List UInt8)]:List (List UInt8×List UInt8)).getD r1.toNat login0).2,ak10',aq10',an10',apt10',q2,rfl,(by have h4:=four_len r6'.toNat; omega),(by exact(three_login _).1),(by exact(three_login _).2),(by omega),(by omega),(by omega),(hs445.pk [2,1,0] r0)⟩
 ·refine sk (nN (sq (sr (tm (pB rb) r0 (cL r0 (pick (rb:=rb) (Ab:=Ab) (cb:=cb) (bs:=bs) (p:=q10') (n:=20) (w:=_) (hr:=(blk_heap hs436 0 r0)) (hb:=(hb.up hs436 (fun _ h=>h) (fun _ h=>.inl h))) (hbn:=‹_›) (hp:=(by omega))) ?_)))))
  rintro _ w442 ⟨r3,q3,rfl,p438,p439,hs446⟩
  replace hs446:=hs436.callM 0 r0 hs446 m_1
  refine qt r0 (eqi (k:=.i64) (a:=r3) (b:=0) r0 r0) (nn ?_)
  refine cdd (p:=r3=0) r0 (fun h3=>?_) (fun h3=>?_)
  ·refine rg (qt r0 (bdv (v:=.agg #[Str [97,110,110],Str []]) [(0,Str [97,110,110])] r0 (fun _=>by kernel_rfl)) (qt r0 (fa 1 fo53_1 r0) (sG [Str [97,110,110],Str []] hs446 3 r0 ag51 (fun w443 (hs447:SH w w443 [rb] [.blk b1 53 Z1,(Z7 Aq10' aq10' cq10'),.own A1 ((Z4.getD r6'.toNat []).length) c1 3 1 ((Z4.getD r6'.toNat []).map I),(Z5 rb Ab bs cb q3),.blk b12' 53 [.slice A1 ((Z4.getD r6'.toNat []).length) c1,Str [97,110,110],Str [],I ak10',(Z10 Aq10' aq10' cq10'),Str an10',I apt10']])=>?_))))
   refine nx (qt r0 (lG [.slice A1 ((Z4.getD r6'.toNat []).length) c1,Str [97,110,110],Str [],I ak10',(Z10 Aq10' aq10' cq10'),Str an10',I apt10'] hs447 4 r0 ag53) (sG [.slice A1 ((Z4.getD r6'.toNat []).length) c1,Str [97,110,110],Str [],I ak10',(Z10 Aq10' aq10' cq10'),Str an10',I apt10'] hs447 0 r0 ag53 (fun w444 hs448=>?_)))
   refine nn (rt (fret (v:=.agg #[.slice A1 ((Z4.getD r6'.toNat []).length) c1,Str [97,110,110],Str [],I ak10',(Z10 Aq10' aq10' cq10'),Str an10',I apt10']) (resC hs448 4 r0 r0 ag53 r0 .nil) r0 ?_))
   exact⟨A1,c1,Aq10',cq10',Z4.getD r6'.toNat [],[97,110,110],[],ak10',aq10',an10',apt10',q3,rfl,(by have h4:=four_len r6'.toNat; omega),(by simp),(by simp),(by omega),(by omega),(by omega),(hs448.pk [2,1,0] r0)⟩
  ·refine sk (nN (sr (qt r0 (lG [.slice A1 ((Z4.getD r6'.toNat []).length) c1,Str [],Str [],I ak10',(Z10 Aq10' aq10' cq10'),Str an10',I apt10'] hs446 3 r0 ag53) (sG [.slice A1 ((Z4.getD r6'.toNat []).length) c1,Str [],Str [],I ak10',(Z10 Aq10' aq10' cq10'),Str an10',I apt10'] hs446 0 r0 ag53 (fun w445 hs449=>?_)))))
   refine nn (rt (fret (v:=.agg #[.slice A1 ((Z4.getD r6'.toNat []).length) c1,Str [],Str [],I ak10',(Z10 Aq10' aq10' cq10'),Str an10',I apt10']) (resC hs449 4 r0 r0 ag53 r0 .nil) r0 ?_))
   exact⟨A1,c1,Aq10',cq10',Z4.getD r6'.toNat [],[],[],ak10',aq10',an10',apt10',q3,rfl,(by have h4:=four_len r6'.toNat; omega),(by simp),(by simp),(by omega),(by omega),(by omega),(hs449.pk [3,1,0] r0)⟩
theorem iTextBytes (s:List UInt8) (w:World) (hs_n:s.length≤2147483648):Does Tryz.prog 131 [Str s] w (fun v w'=>∃ Ar:Option Addr,∃ cr:Nat,v=.slice Ar (textI s).length cr∧SH w w' [] [.own Ar ((textI s).length) cr 3 1 ((textI s).map I)]):=by
 refine fE (N:=22) Tryz.func131 r0 (by kernel_rfl) r0 ?_
 have hs0:=SH.refl w []
 refine sr (tA ns r0 (nx (tm (Str s) r0 ?_)))
 refine qt r0 (lnS (l:=s) st9 r0) (mkm (g:=I) (z:=0) (n:=s.length) hs0 sl22 r0 r0 r0 (by omega) (by unfold maxLen; omega) trivial r0 (fun b1 w1 hs1=>?_))
 refine tA (sb b1 ((List.replicate s.length (0:Int)).length) s.length) r0 (nn (sq (sr (tm (sb b1 ((List.replicate s.length (0:Int)).length) s.length) r0 (qt r0 (lnA (n:=(List.replicate s.length (0:Int)).length) sl22 r0) ?_)))))
 refine tm (I 0) r0 (nn (bl ?_))
 have e1:List.replicate s.length (0:Int)=(textI s).take 0++List.replicate (s.length-0) (0:Int):=by simp
 have e2:(List.replicate s.length (0:Int)).length=s.length:=by(simp; done)
 refine lp (σ:=(Option Addr)×Nat×Nat) (fun⟨Ag3,cg3,k⟩ f w'=>Hz f [(0,Str s),(3,.slice Ag3 s.length cg3),(9,I (((List.replicate s.length (0:Int)).length:Nat):Int)),(10,I (k:Int))]∧(k≤s.length)∧SH w w' [] [.own Ag3 s.length cg3 3 1 (((textI s).take k++List.replicate (s.length-k) (0:Int)).map I)]) (fun⟨Ag3,cg3,k⟩=>s.length-k) ((Z6 b1),s.length,0) ⟨(zH ⟨rfl,(show (.slice (Z6 b1) ((List.replicate s.length (0:Int)).length) s.length:Value)=.slice (Z6 b1) s.length s.length from slv r0 e2 r0),rfl,rfl,trivial⟩),(by simp),(hs1.cast (lc (own_eq (g:=I) r0 e2 r0 e1) r0))⟩ ?_
 rintro ⟨Ag3,cg3,k⟩ f w2 ⟨⟨g1,rfl⟩,hk,hs2⟩
 refine sr (qt r0 (lss (k:=.i64) (a:=(k:Int)) (b:=(((List.replicate s.length (0:Int)).length:Nat):Int)) r0 r0) (nn (sq ?_)))
 refine cdd (p:=(k:Int)<(((List.replicate s.length (0:Int)).length:Nat):Int)) r0 (fun h1=>?_) (fun h1=>?_)
 ·refine sk (nN (sq (bl (sr (tm (I (k:Int)) r0 (tA (I (k:Int)) r0 ?_))))))
  refine nn (rg (tm (.slice Ag3 s.length cg3) r0 (tm (I (k:Int)) r0 (tm (Str s) r0 (tm (I (k:Int)) r0 (qt r0 (ixs (l:=s) k st9 r0 r0 (by omega)) ?_))))))
  refine qt r0 (cvI (a:=(((s.getD k 0).toNat:Nat):Int)) (s:=.u8) ti5 ti3 r0 (by have:=u8_bd ((s.getD k 0)); exact⟨by omega,by omega⟩)) ?_
  obtain ⟨b2,rfl⟩:=own_form hs2 0 r0 (by omega)
  refine qt r0 (ixo k sl22 r0 r0 (by omega)) (stomn (g:=I) (ys:=(textI s).take k++List.replicate (s.length-k) (0:Int)) (o:=k) (u:=(((s.getD k 0).toNat:Nat):Int)) hs2 0 r0 r0 r0 r0 (by omega) r0 one3 trivial (fun w3 hs3=>?_))
  refine nl (bN (nN (rg (qt r0 (add (a:=(k:Int)) (b:=1) r0 r0 (by exact⟨by omega,by omega⟩)) (tm (I ((k:Int)+1)) r0 (nn ?_))))))
  have e3:((textI s).take k++List.replicate (s.length-k) (0:Int)).set k (((s.getD k 0).toNat:Nat):Int)=(textI s).take (k+1)++List.replicate (s.length-(k+1)) (0:Int):=by exact textI_set (by omega)
  refine⟨((Z6 b2),cg3,k+1),⟨(zR r0),(by omega),(hs3.cast (lc (own_eq (g:=I) r0 r0 r0 e3) r0))⟩,?_⟩
  show s.length-(k+1)<s.length-k
  omega
 ·refine ex (tE (tE (bE ?_)))
  refine nN (sr (tm (.slice Ag3 s.length cg3) r0 (tA (.slice Ag3 s.length cg3) r0 (nn (rt ?_)))))
  refine fT (.slice Ag3 s.length cg3) r0 ?_
  have e4:(textI s).take k++List.replicate (s.length-k) (0:Int)=textI s:=by have:k=s.length:=(by omega); subst this; rw[textI_all (Nat.le_refl _)]; simp
  have e5:s.length=(textI s).length:=by exact(show s.length=((textI s).take k++List.replicate (s.length-k) (0:Int)).length by(simp[textI_len]; omega)).trans (congrArg List.length e4)
  exact⟨Ag3,cg3,(slv r0 e5 r0),(hs2.cast (lc (own_eq (g:=I) r0 e5 r0 e4) r0))⟩
theorem sL1Text (s:List UInt8) (w:World) (hs_n:s.length≤2147483648):Does Tryz.prog 151 [Str s] w (fun v w'=>∃ Ar:Option Addr,∃ cr:Nat,v=.slice Ar (textI s).length cr∧SH w w' [] [.own Ar ((textI s).length) cr 3 1 ((textI s).map I)]):=by
 refine fE (N:=20) Tryz.func151 r0 (by kernel_rfl) r0 ?_
 have hs0:=SH.refl w []
 refine sr (tA ns r0 (nx (bsk hs0 sl22 [] [] trivial r0 (fun b1 w1 hs1=>?_))))
 refine tA (sb b1 (([]:List Int).length) 0) r0 (nn (sq (sr (tA (I 0) r0 (nl ?_)))))
 refine nN (bl ?_)
 have e1:([]:List Int)=(textI s).take 0:=by simp
 have e2:([]:List Int).length=((textI s).take 0).length:=by rw[e1]
 refine lp (σ:=(Option Addr)×Nat×Nat) (fun⟨Ag3,cg3,k⟩ f w'=>Hz f [(0,Str s),(3,.slice Ag3 (((textI s).take k).length) cg3),(4,I (k:Int))]∧(k≤s.length)∧SH w w' [] [.own Ag3 (((textI s).take k).length) cg3 3 1 (((textI s).take k).map I)]) (fun⟨Ag3,cg3,k⟩=>s.length-k) ((Z6 b1),0,0) ⟨(zH ⟨rfl,(show (.slice (Z6 b1) (([]:List Int).length) 0:Value)=.slice (Z6 b1) (((textI s).take 0).length) 0 from slv r0 e2 r0),rfl,trivial⟩),(by simp),(hs1.cast (lc (own_eq (g:=I) r0 e2 r0 e1) r0))⟩ ?_
 rintro ⟨Ag3,cg3,k⟩ f w2 ⟨⟨g1,rfl⟩,hk,hs2⟩
 refine sq (sr (tm (I (k:Int)) r0 (tm (Str s) r0 (qt r0 (lnS (l:=s) st9 r0) (qt r0 (lss (k:=.i64) (a:=(k:Int)) (b:=(s.length:Int)) r0 r0) (nl ?_))))))
 refine nN ?_
 refine cdd (p:=(k:Int)<(s.length:Int)) r0 (fun h1=>?_) (fun h1=>?_)
 ·refine sk (nN (sq (bl (rg (tm (.slice Ag3 (((textI s).take k).length) cg3) r0 (tm (Str s) r0 (tm (I (k:Int)) r0 ?_)))))))
  refine qt r0 (ixs (l:=s) k st9 r0 r0 (by(omega))) (qt r0 (cvI (a:=(((s.getD k 0).toNat:Nat):Int)) (s:=.u8) ti5 ti3 r0 (by have:=u8_bd ((s.getD k 0)); exact⟨by omega,by omega⟩)) (bsk hs2 sl22 [I (((s.getD k 0).toNat:Nat):Int)] [I (((s.getD k 0).toNat:Nat):Int)] trivial r0 (fun b2 w3 hs3=>?_)))
  refine apm (g:=I) (ys:=(textI s).take k) (zs:=([(((s.getD k 0).toNat:Nat):Int)]:List Int)) hs3 0 r0 sl22 r0 r0 r0 (hs3.sl0 1 r0) (fun _=>rfl) (by unfold maxLen; have htl:=textI_len s; simp only[List.length_take,List.length_cons,List.length_nil]; omega) (by have htl:=textI_len s; simp only[List.length_take,List.length_cons,List.length_nil]; omega) trivial r0 (fun A1 c1 w4 hs4=>?_)
  refine tA (.slice A1 ((((textI s).take k)++([(((s.getD k 0).toNat:Nat):Int)]:List Int)).length) c1) r0 (nl (bN (nN (rg (tm (I (k:Int)) r0 (qt r0 (add (a:=(k:Int)) (b:=1) r0 r0 (by(exact⟨by omega,by omega⟩))) (tA (I ((k:Int)+1)) r0 ?_)))))))
  refine nn ?_
  have e3:((textI s).take k)++([(((s.getD k 0).toNat:Nat):Int)]:List Int)=(textI s).take (k+1):=by exact textI_app (by omega)
  have e4:(((textI s).take k)++([(((s.getD k 0).toNat:Nat):Int)]:List Int)).length=((textI s).take (k+1)).length:=by rw[e3]
  refine⟨(A1,c1,k+1),⟨(zH ⟨rfl,(show (.slice A1 ((((textI s).take k)++([(((s.getD k 0).toNat:Nat):Int)]:List Int)).length) c1:Value)=.slice A1 (((textI s).take (k+1)).length) c1 from slv r0 e4 r0),rfl,trivial⟩),(by omega),((hs4.pq [1] r0).cast (lc (own_eq (g:=I) r0 e4 r0 e3) r0))⟩,?_⟩
  show s.length-(k+1)<s.length-k
  omega
 ·refine ex (tE (tE (bE ?_)))
  refine nN (sr (tm (.slice Ag3 (((textI s).take k).length) cg3) r0 (tA (.slice Ag3 (((textI s).take k).length) cg3) r0 (nn (rt ?_)))))
  refine fT (.slice Ag3 (((textI s).take k).length) cg3) r0 ?_
  have e5:(textI s).take k=textI s:=by exact textI_all (by omega)
  have e6:=congrArg List.length e5
  exact⟨Ag3,cg3,(slv r0 e6 r0),(hs2.cast (lc (own_eq (g:=I) r0 e6 r0 e5) r0))⟩
theorem iNumberBytes (n:Int) (w:World) (hn:0≤n∧n≤65535):Does Tryz.prog 166 [I n,I 2] w (fun v w'=>∃ Ar:Option Addr,∃ cr:Nat,v=.slice Ar (numB n).length cr∧SH w w' [] [.own Ar ((numB n).length) cr 3 1 ((numB n).map I)]):=by
 refine fE (N:=27) Tryz.func166 r0 (by kernel_rfl) r0 ?_
 have hs0:=SH.refl w []
 refine sr (tA ns r0 (nx (tm (I 2) r0 ?_)))
 refine mkm (g:=I) (z:=0) (n:=2) hs0 sl22 r0 r0 r0 (by omega) (by unfold maxLen; omega) trivial r0 (fun b1 w1 hs1=>?_)
 refine tA (sb b1 ((List.replicate 2 (0:Int)).length) 2) r0 (nn (sq (sr (tm (sb b1 ((List.replicate 2 (0:Int)).length) 2) r0 (qt r0 (lnA (n:=(List.replicate 2 (0:Int)).length) sl22 r0) ?_)))))
 refine tm (I 0) r0 (nn (bl ?_))
 have e1:List.replicate 2 (0:Int)=(numB n).take 0++List.replicate (2-0) (0:Int):=by simp
 have e2:(List.replicate 2 (0:Int)).length=2:=by rfl
 refine lp (σ:=(Option Addr)×Nat×Nat) (fun⟨Ag5,cg5,k⟩ f w'=>Hz f [(0,I n),(1,I 2),(5,.slice Ag5 2 cg5),(10,I (((List.replicate 2 (0:Int)).length:Nat):Int)),(11,I (k:Int))]∧(k≤2)∧SH w w' [] [.own Ag5 2 cg5 3 1 (((numB n).take k++List.replicate (2-k) (0:Int)).map I)]) (fun⟨Ag5,cg5,k⟩=>2-k) ((Z6 b1),2,0) ⟨(zH ⟨rfl,rfl,(show (.slice (Z6 b1) ((List.replicate 2 (0:Int)).length) 2:Value)=.slice (Z6 b1) 2 2 from slv r0 e2 r0),rfl,rfl,trivial⟩),(by simp),(hs1.cast (lc (own_eq (g:=I) r0 e2 r0 e1) r0))⟩ ?_
 rintro ⟨Ag5,cg5,k⟩ f w2 ⟨⟨g1,rfl⟩,hk,hs2⟩
 refine sr (qt r0 (lss (k:=.i64) (a:=(k:Int)) (b:=(((List.replicate 2 (0:Int)).length:Nat):Int)) r0 r0) (nn (sq ?_)))
 refine cdd (p:=(k:Int)<(((List.replicate 2 (0:Int)).length:Nat):Int)) r0 (fun h1=>?_) (fun h1=>?_)
 ·refine sk (nN (sq (bl (sr (tm (I (k:Int)) r0 (tA (I (k:Int)) r0 ?_))))))
  refine nn (rg (tm (.slice Ag5 2 cg5) r0 (tm (I (k:Int)) r0 (tm (I n) r0 (tm (I 2) r0 (qt r0 (sub (a:=2) (b:=1) r0 r0 (by exact⟨by omega,by omega⟩)) ?_))))))
  refine tm (I (k:Int)) r0 (qt r0 (sub (a:=(2:Int)-1) (b:=(k:Int)) r0 r0 (by exact⟨by omega,by omega⟩)) (qt r0 (mul (a:=8) (b:=((2:Int)-1)-(k:Int)) r0 r0 (by exact⟨by omega,by omega⟩)) (qt r0 (shr (a:=n) (b:=8*(((2:Int)-1)-(k:Int))) r0 r0 (by omega) (by omega)) (qt r0 (and255 (a:=n / 2 ^ (8*(((2:Int)-1)-(k:Int))).toNat) r0 r0 (by exact num_and hn) (by exact num_and2 hn)) ?_))))
  obtain ⟨b2,rfl⟩:=own_form hs2 0 r0 (by omega)
  refine qt r0 (ixo k sl22 r0 r0 (by omega)) (stomn (g:=I) (ys:=(numB n).take k++List.replicate (2-k) (0:Int)) (o:=k) (u:=(n / 2 ^ (8*(((2:Int)-1)-(k:Int))).toNat) % 256) hs2 0 r0 r0 r0 r0 (by omega) r0 one3 trivial (fun w3 hs3=>?_))
  refine nl (bN (nN (rg (qt r0 (add (a:=(k:Int)) (b:=1) r0 r0 (by exact⟨by omega,by omega⟩)) (tm (I ((k:Int)+1)) r0 (nn ?_))))))
  have e3:((numB n).take k++List.replicate (2-k) (0:Int)).set k ((n / 2 ^ (8*(((2:Int)-1)-(k:Int))).toNat) % 256)=(numB n).take (k+1)++List.replicate (2-(k+1)) (0:Int):=by exact numB_set (by omega)
  refine⟨((Z6 b2),cg5,k+1),⟨(zR r0),(by omega),(hs3.cast (lc (own_eq (g:=I) r0 r0 r0 e3) r0))⟩,?_⟩
  show 2-(k+1)<2-k
  omega
 ·refine ex (tE (tE (bE ?_)))
  refine nN (sr (tm (.slice Ag5 2 cg5) r0 (tA (.slice Ag5 2 cg5) r0 (nn (rt ?_)))))
  refine fT (.slice Ag5 2 cg5) r0 ?_
  have e4:(numB n).take k++List.replicate (2-k) (0:Int)=numB n:=by have:k=2:=(by omega); subst this; simp[numB]
  have e5:2=(numB n).length:=by exact(show 2=((numB n).take k++List.replicate (2-k) (0:Int)).length by(simp[numB]; omega)).trans (congrArg List.length e4)
  exact⟨Ag5,cg5,(slv r0 e5 r0),(hs2.cast (lc (own_eq (g:=I) r0 e5 r0 e4) r0))⟩
theorem sL1Number (n:Int) (w:World) (hn:0≤n∧n≤65535):Does Tryz.prog 188 [I n,I 2] w (fun v w'=>∃ Ar:Option Addr,∃ cr:Nat,v=.slice Ar (numB n).length cr∧SH w w' [] [.own Ar ((numB n).length) cr 3 1 ((numB n).map I)]):=by
 refine fE (N:=23) Tryz.func188 r0 (by kernel_rfl) r0 ?_
 have hs0:=SH.refl w []
 refine sr (tA ns r0 (nx (tm (I 2) r0 ?_)))
 refine mkm (g:=I) (z:=0) (n:=2) hs0 sl22 r0 r0 r0 (by omega) (by unfold maxLen; omega) trivial r0 (fun b1 w1 hs1=>?_)
 refine tA (sb b1 ((List.replicate 2 (0:Int)).length) 2) r0 (nn (sq (sr (tm (I 2) r0 (qt r0 (sub (a:=2) (b:=1) r0 r0 (by exact⟨by omega,by omega⟩)) ?_)))))
 refine tA (I ((2:Int)-1)) r0 (nn (bl ?_))
 have e1:List.replicate 2 (0:Int)=numR n 0:=by simp[numR]
 have e2:(List.replicate 2 (0:Int)).length=2:=by rfl
 refine lp (σ:=(Option Addr)×Nat×Nat×Int) (fun⟨Ag5,cg5,k,m⟩ f w'=>Hz f [(0,I m),(5,.slice Ag5 2 cg5),(6,I (1-(k:Int)))]∧(k≤2)∧(m=numM n k)∧(0≤m∧m≤65535)∧SH w w' [] [.own Ag5 2 cg5 3 1 ((numR n k).map I)]) (fun⟨Ag5,cg5,k,m⟩=>2-k) ((Z6 b1),2,0,n) ⟨(zH ⟨rfl,(show (.slice (Z6 b1) ((List.replicate 2 (0:Int)).length) 2:Value)=.slice (Z6 b1) 2 2 from slv r0 e2 r0),(show (I ((2:Int)-1):Value)=I (1-((0:Nat):Int)) from congrArg (Value.int .i64) (by simp)),trivial⟩),(by simp),(by simp[numM]),(hn),(hs1.cast (lc (own_eq (g:=I) r0 e2 r0 e1) r0))⟩ ?_
 rintro ⟨Ag5,cg5,k,m⟩ f w2 ⟨⟨g1,rfl⟩,hk,hm,hm2,hs2⟩
 refine sq (sr (tm (I (1-(k:Int))) r0 (qt r0 (geq (k:=.i64) (a:=1-(k:Int)) (b:=0) r0 r0) (nn ?_))))
 refine cdd (p:=(0:Int)≤(1-(k:Int))) r0 (fun h1=>?_) (fun h1=>?_)
 ·refine sk (nN (sq (bl (sr (tm (.slice Ag5 2 cg5) r0 (tm (I (1-(k:Int))) r0 ?_))))))
  refine tm (I m) r0 (qt r0 (rem (a:=m) (b:=256) r0 r0 (by omega) (by omega)) ?_)
  obtain ⟨b2,rfl⟩:=own_form hs2 0 r0 (by omega)
  refine qt r0 (ixo ((1-(k:Int)).toNat) sl22 r0 (ieq (x:=1-(k:Int)) (by omega)) (by omega)) (stomn (g:=I) (ys:=numR n k) (o:=(1-(k:Int)).toNat) (u:=m % 256) hs2 0 r0 r0 r0 r0 (by omega) r0 one3 trivial (fun w3 hs3=>?_))
  refine nn (rg (tm (I m) r0 (qt r0 (quo (a:=m) (b:=256) r0 r0 (by omega) (by omega) (by omega)) (tA (I (m / 256)) r0 (nl (bN ?_))))))
  refine nN (rg (tm (I (1-(k:Int))) r0 (qt r0 (sub (a:=1-(k:Int)) (b:=1) r0 r0 (by exact⟨by omega,by omega⟩)) (tA (I ((1-(k:Int))-1)) r0 (nn ?_)))))
  have e3:(numR n k).set ((1-(k:Int)).toNat) (m % 256)=numR n (k+1):=by rw[hm]; exact numR_step (by omega) (by omega)
  refine⟨((Z6 b2),cg5,k+1,m / 256),⟨(zH ⟨rfl,rfl,(show (I ((1-(k:Int))-1):Value)=I (1-(((k+1):Nat):Int)) from congrArg (Value.int .i64) (by omega)),trivial⟩),(by omega),(by rw[hm]; exact numM_step (by omega)),(by omega),(hs3.cast (lc (own_eq (g:=I) r0 r0 r0 e3) r0))⟩,?_⟩
  show 2-(k+1)<2-k
  omega
 ·refine ex (tE (tE (bE ?_)))
  refine nN (sr (tm (.slice Ag5 2 cg5) r0 (tA (.slice Ag5 2 cg5) r0 (nn (rt ?_)))))
  refine fT (.slice Ag5 2 cg5) r0 ?_
  have e4:numR n k=numB n:=by have:k=2:=(by omega); subst this; rfl
  have e5:2=(numB n).length:=by exact(show 2=(numR n k).length by(have:k=2:=(by omega); subst this; rfl)).trans (congrArg List.length e4)
  exact⟨Ag5,cg5,(slv r0 e5 r0),(hs2.cast (lc (own_eq (g:=I) r0 e5 r0 e4) r0))⟩
set_option maxHeartbeats 8000000 in
theorem iAddressBytes (ak:Int) {Aaq:Option Addr} {caq:Nat} (aq:List Int) (an:List UInt8) (apt:Int) (w:World) (haq:Sl w [] 1 Aaq aq.length caq (aq.map I)) (han_n:an.length≤1099511627776) (hok:addrOk ak aq an apt=true):Does Tryz.prog 132 [.agg #[I ak,.slice Aaq aq.length caq,Str an,I apt]] w (fun v w'=>∃ Ar:Option Addr,∃ cr:Nat,v=.slice Ar (addrB ak aq an apt).length cr∧SH w w' [] [.own Ar ((addrB ak aq an apt).length) cr 3 1 ((addrB ak aq an apt).map I)]):=by
 refine fE (N:=29) Tryz.func132 r0 (by kernel_rfl) r0 ?_
 have hs0:=SH.refl w []
 have haq_m:aq.length≤9223372036854775807:=Nat.le_trans haq.cap haq.capMax
 refine sr (bx (v:=.agg #[I ak,(Z10 Aaq aq caq),Str an,I apt]) (cs:=[I ak,(Z10 Aaq aq caq),Str an,I apt]) hs0 r0 r0 trivial r0 (fun b1 w1 hs1=>?_))
 refine tA ns r0 (nx (qt r0 (fa 0 fo43_0 r0) (qt r0 (lD (I ak) hs1 0 r0 one3) (bsk hs1 sl22 [I ak] [I ak] trivial r0 (fun b2 w2 hs2=>?_)))))
 refine tA (sb b2 (([ak]:List Int).length) 1) r0 (nn (sq (sr (qt r0 (fa 0 fo43_0 r0) (qt r0 (lD (I ak) hs2 0 r0 one3) ?_)))))
 refine qt r0 (eqi (k:=.i64) (a:=ak) (b:=1) r0 r0) (nn ?_)
 refine cdd (p:=ak=1) r0 (fun h1=>?_) (fun h1=>?_)
 ·refine rg (tm (sb b2 (([ak]:List Int).length) 1) r0 (qt r0 (fa 1 fo43_1 r0) (qt r0 (lD (Z13 Aaq aq caq) hs2 0 r0 one22) (apm (g:=I) (ys:=([ak]:List Int)) (zs:=aq) hs2 1 r0 sl22 r0 r0 r0 (haq.up0 hs2) (fun _=>rfl) (by unfold maxLen; have haf:=addrOk_fit hok; have htl:=textI_len an; have hnb:(numB apt).length=2:=rfl; simp only[List.length_append,List.length_cons,List.length_nil]; omega) (by have haf:=addrOk_fit hok; have htl:=textI_len an; have hnb:(numB apt).length=2:=rfl; simp only[List.length_append,List.length_cons,List.length_nil]; omega) trivial r0 (fun A1 c1 w3 hs3=>?_)))))
  refine tA (.slice A1 ((([ak]:List Int)++aq).length) c1) r0 (nx (tm (.slice A1 ((([ak]:List Int)++aq).length) c1) r0 (qt r0 (fa 3 fo43_3 r0) (qt r0 (lD (I apt) hs3 0 r0 one3) ?_))))
  refine cL r0 (iNumberBytes (n:=apt) (w:=_) (hn:=(by(have haf:=addrOk_fit hok; have htl:=textI_len an; have hnb:(numB apt).length=2:=rfl; first | omega | assumption | (simp; done) | (simp; omega))))) ?_
  rintro _ w4 ⟨A2,c2,rfl,hs4⟩
  replace hs4:=hs3.call0 hs4
  refine apm (g:=I) (ys:=([ak]:List Int)++aq) (zs:=numB apt) hs4 1 r0 sl22 r0 r0 r0 (hs4.sl0 2 r0) (fun _=>rfl) (by unfold maxLen; have haf:=addrOk_fit hok; have htl:=textI_len an; have hnb:(numB apt).length=2:=rfl; simp only[List.length_append,List.length_cons,List.length_nil]; omega) (by have haf:=addrOk_fit hok; have htl:=textI_len an; have hnb:(numB apt).length=2:=rfl; simp only[List.length_append,List.length_cons,List.length_nil]; omega) trivial r0 (fun A3 c3 w5 hs5=>?_)
  refine tA (.slice A3 (((([ak]:List Int)++aq)++(numB apt)).length) c3) r0 (nn (rt (fT (.slice A3 (((([ak]:List Int)++aq)++(numB apt)).length) c3) r0 ?_)))
  have e1:(([ak]:List Int)++aq)++(numB apt)=addrB ak aq an apt:=by simp[addrB,h1]
  have e2:=congrArg List.length e1
  exact⟨A3,c3,(slv r0 e2 r0),((hs5.pq [2] r0).cast (lc (own_eq (g:=I) r0 e2 r0 e1) r0))⟩
 ·refine raJ (fun w'=>∃ L,SH w w' [] L∧(.blk b1 43 [I ak,(Z10 Aaq aq caq),Str an,I apt])∈L∧True) (fun f w'=>∃ (b4':Nat) (A8':Option Addr) (c8':Nat) (A9':Option Addr) (c9':Nat),Hz f [(1,pB b1),(3,.slice A9' (((([ak]:List Int)++(Z12 an))++(textI an)).length) c9')]∧SH w w' [] [.blk b1 43 [I ak,(Z10 Aaq aq caq),Str an,I apt],.own A9' (((([ak]:List Int)++(Z12 an))++(textI an)).length) c9' 3 1 (((([ak]:List Int)++(Z12 an))++(textI an)).map I),oI b4' (Z12 an) 1 3,.own A8' ((textI an).length) c8' 3 1 ((textI an).map I)]) mixed ?_ ?_
  ·refine dG 2 11 511 (fun f w'=>∃ (b4':Nat) (A5':Option Addr) (c5':Nat) (A8':Option Addr) (c8':Nat),Hz f [(1,pB b1),(3,sb b2 (([ak]:List Int).length) 1),(19,.slice A5' ((([ak]:List Int)++(Z12 an)).length) c5'),(22,.slice A8' ((textI an).length) c8')]∧SH w w' [] [.blk b1 43 [I ak,(Z10 Aaq aq caq),Str an,I apt],.own A5' ((([ak]:List Int)++(Z12 an)).length) c5' 3 1 ((([ak]:List Int)++(Z12 an)).map I),oI b4' (Z12 an) 1 3,.own A8' ((textI an).length) c8' 3 1 ((textI an).map I)]) ?_ (fun D_4_0=>?_)
   ·rintro f w6 ⟨b4',A5',c5',A8',c8',⟨g1,rfl⟩,hs6⟩
    refine aO 9 r0 (apm (g:=I) (ys:=([ak]:List Int)++(Z12 an)) (zs:=textI an) hs6 1 r0 sl22 r0 r0 r0 (hs6.sl0 3 r0) (fun _=>rfl) (by unfold maxLen; have haf:=addrOk_fit hok; have htl:=textI_len an; have hnb:(numB apt).length=2:=rfl; simp only[List.length_append,List.length_cons,List.length_nil]; omega) (by have haf:=addrOk_fit hok; have htl:=textI_len an; have hnb:(numB apt).length=2:=rfl; simp only[List.length_append,List.length_cons,List.length_nil]; omega) trivial r0 (fun A9' c9' w7 hs7=>?_))
    refine nk (m1 hs7 0 r0) ?_
    refine tk (fuel:=0) (is:=[10]) (.cons r0 (.nil)) (by kernel_rfl) (by kernel_rfl) (m1 hs7 0 r0) (yA r0 (asg (v:=.slice A9' (((([ak]:List Int)++(Z12 an))++(textI an)).length) c9') r0) (.nil (ad (by kernel_rfl) ?_)))
    exact⟨b4',A8',c8',A9',c9',(zR r0),(hs7.pk [0,3,1,2] r0)⟩
   refine dG 3 11 255 (fun f w'=>∃ (b4':Nat) (A5':Option Addr) (c5':Nat),Hz f [(1,pB b1),(3,sb b2 (([ak]:List Int).length) 1),(19,.slice A5' ((([ak]:List Int)++(Z12 an)).length) c5'),(21,Str an)]∧SH w w' [] [.blk b1 43 [I ak,(Z10 Aaq aq caq),Str an,I apt],.own A5' ((([ak]:List Int)++(Z12 an)).length) c5' 3 1 ((([ak]:List Int)++(Z12 an)).map I),oI b4' (Z12 an) 1 3]) ?_ (fun D_4_1=>?_)
   ·rintro f w8 ⟨b4',A5',c5',⟨g2,rfl⟩,hs8⟩
    refine aO 8 r0 (cL r0 (iTextBytes (s:=an) (w:=_) (hs_n:=(by(have haf:=addrOk_fit hok; have htl:=textI_len an; have hnb:(numB apt).length=2:=rfl; omega)))) ?_)
    rintro _ w9 ⟨A8',c8',rfl,hs9⟩
    replace hs9:=hs8.call0 hs9
    exact nk (m1 hs9 0 r0) (alc D_4_0 ⟨b4',A5',c5',A8',c8',(zR r0),hs9⟩)
   refine dG 4 11 223 (fun f w'=>∃ (b4':Nat),Hz f [(1,pB b1),(3,sb b2 (([ak]:List Int).length) 1),(14,sb b2 (([ak]:List Int).length) 1),(18,sb b4' ((Z12 an).length) 1),(21,Str an)]∧SH w w' [] [.blk b1 43 [I ak,(Z10 Aaq aq caq),Str an,I apt],oI b2 ([ak]:List Int) 1 3,oI b4' (Z12 an) 1 3]) ?_ (fun D_4_2=>?_)
   ·rintro f w10 ⟨b4',⟨g3,rfl⟩,hs10⟩
    refine aO 5 r0 (apm (g:=I) (ys:=([ak]:List Int)) (zs:=(Z12 an)) hs10 1 r0 sl22 r0 r0 r0 (hs10.sl0 2 r0) (fun _=>rfl) (by unfold maxLen; have haf:=addrOk_fit hok; have htl:=textI_len an; have hnb:(numB apt).length=2:=rfl; simp only[List.length_append,List.length_cons,List.length_nil]; omega) (by have haf:=addrOk_fit hok; have htl:=textI_len an; have hnb:(numB apt).length=2:=rfl; simp only[List.length_append,List.length_cons,List.length_nil]; omega) trivial r0 (fun A5' c5' w11 hs11=>?_))
    exact nk (m1 hs11 0 r0) (alc D_4_1 ⟨b4',A5',c5',(zR r0),(hs11.pk [0,2,1] r0)⟩)
   refine dG 5 11 207 (fun f w'=>Hz f [(1,pB b1),(3,sb b2 (([ak]:List Int).length) 1),(14,sb b2 (([ak]:List Int).length) 1),(17,I (an.length:Int)),(21,Str an)]∧SH w w' [] [.blk b1 43 [I ak,(Z10 Aaq aq caq),Str an,I apt],oI b2 ([ak]:List Int) 1 3]) ?_ (fun D_4_3=>?_)
   ·rintro f w12 ⟨⟨g4,rfl⟩,hs12⟩
    refine aO 4 r0 (bsk hs12 sl22 [I (an.length:Int)] [I (an.length:Int)] trivial r0 (fun b4' w13 hs13=>?_))
    exact nk (m1 hs13 0 r0) (alc D_4_2 ⟨b4',(zR r0),hs13⟩)
   have hs14:=hs2.drew
   refine tk (fuel:=5) (is:=[0,1,2,3,6,7]) (.cons r0 (.cons r0 (.cons r0 (.cons r0 (.cons r0 (.cons r0 (.nil))))))) (by kernel_rfl) (by kernel_rfl) (m1 hs14 0 r0) (yA r0 (mv (v:=sb b2 (([ak]:List Int).length) 1) r0) (yA r0 (fa 2 fo43_2 r0) (yB r0 (fun ⟨Lq,hsq,mh0,_⟩=>lM (Str an) hsq mh0 r0 one9) (yA r0 (lnS (l:=an) st9 r0) (yA r0 (fa 2 fo43_2 r0) (yB r0 (fun ⟨Lq,hsq,mh0,_⟩=>lM (Str an) hsq mh0 r0 one9) (.nil ?_)))))))
   exact alc D_4_3 ⟨(zR r0),hs14⟩
  rintro f w14 ⟨b4',A8',c8',A9',c9',⟨g5,rfl⟩,hs15⟩
  refine nN ?_
  have hs16:=hs15.pq [0,1] r0
  refine sr (tm (.slice A9' (((([ak]:List Int)++(Z12 an))++(textI an)).length) c9') r0 (qt r0 (fa 3 fo43_3 r0) (qt r0 (lD (I apt) hs16 0 r0 one3) (cL r0 (iNumberBytes (n:=apt) (w:=_) (hn:=(by(have haf:=addrOk_fit hok; have htl:=textI_len an; have hnb:(numB apt).length=2:=rfl; first | omega | assumption | (simp; done) | (simp; omega))))) ?_))))
  rintro _ w15 ⟨A4,c4,rfl,hs17⟩
  replace hs17:=hs16.call0 hs17
  refine apm (g:=I) (ys:=(([ak]:List Int)++(Z12 an))++(textI an)) (zs:=numB apt) hs17 1 r0 sl22 r0 r0 r0 (hs17.sl0 2 r0) (fun _=>rfl) (by unfold maxLen; have haf:=addrOk_fit hok; have htl:=textI_len an; have hnb:(numB apt).length=2:=rfl; simp only[List.length_append,List.length_cons,List.length_nil]; omega) (by have haf:=addrOk_fit hok; have htl:=textI_len an; have hnb:(numB apt).length=2:=rfl; simp only[List.length_append,List.length_cons,List.length_nil]; omega) trivial r0 (fun A5 c5 w16 hs18=>?_)
  refine tA (.slice A5 ((((([ak]:List Int)++(Z12 an))++(textI an))++(numB apt)).length) c5) r0 (nn (rt (fT (.slice A5 ((((([ak]:List Int)++(Z12 an))++(textI an))++(numB apt)).length) c5) r0 ?_)))
  have e3:((([ak]:List Int)++(Z12 an))++(textI an))++(numB apt)=addrB ak aq an apt:=by simp[addrB,h1]
  have e4:=congrArg List.length e3
  exact⟨A5,c5,(slv r0 e4 r0),((hs18.pq [2] r0).cast (lc (own_eq (g:=I) r0 e4 r0 e3) r0))⟩
set_option maxHeartbeats 8000000 in
theorem sL3Bytes (ak:Int) {Aaq:Option Addr} {caq:Nat} (aq:List Int) (an:List UInt8) (apt:Int) (w:World) (haq:Sl w [] 1 Aaq aq.length caq (aq.map I)) (han_n:an.length≤1099511627776) (hok:addrOk ak aq an apt=true):Does Tryz.prog 171 [.agg #[I ak,.slice Aaq aq.length caq,Str an,I apt]] w (fun v w'=>∃ Ar:Option Addr,∃ cr:Nat,v=.slice Ar (addrB ak aq an apt).length cr∧SH w w' [] [.own Ar ((addrB ak aq an apt).length) cr 3 1 ((addrB ak aq an apt).map I)]):=by
 refine fE (N:=30) Tryz.func171 r0 (by kernel_rfl) r0 ?_
 have hs0:=SH.refl w []
 have haq_m:aq.length≤9223372036854775807:=Nat.le_trans haq.cap haq.capMax
 refine sr (bx (v:=.agg #[I ak,(Z10 Aaq aq caq),Str an,I apt]) (cs:=[I ak,(Z10 Aaq aq caq),Str an,I apt]) hs0 r0 r0 trivial r0 (fun b1 w1 hs1=>?_))
 refine tA ns r0 (nx (qt r0 (fa 0 fo43_0 r0) (qt r0 (lD (I ak) hs1 0 r0 one3) (bsk hs1 sl22 [I ak] [I ak] trivial r0 (fun b2 w2 hs2=>?_)))))
 refine tA (sb b2 (([ak]:List Int).length) 1) r0 (nn (sq (sr (qt r0 (fa 0 fo43_0 r0) (qt r0 (lD (I ak) hs2 0 r0 one3) ?_)))))
 refine qt r0 (eqi (k:=.i64) (a:=ak) (b:=1) r0 r0) (nn ?_)
 refine cdd (p:=ak=1) r0 (fun h1=>?_) (fun h1=>?_)
 ·refine rg (tm (sb b2 (([ak]:List Int).length) 1) r0 (qt r0 (fa 1 fo43_1 r0) (qt r0 (lD (Z13 Aaq aq caq) hs2 0 r0 one22) (apm (g:=I) (ys:=([ak]:List Int)) (zs:=aq) hs2 1 r0 sl22 r0 r0 r0 (haq.up0 hs2) (fun _=>rfl) (by unfold maxLen; have haf:=addrOk_fit hok; have htl:=textI_len an; have hnb:(numB apt).length=2:=rfl; simp only[List.length_append,List.length_cons,List.length_nil]; omega) (by have haf:=addrOk_fit hok; have htl:=textI_len an; have hnb:(numB apt).length=2:=rfl; simp only[List.length_append,List.length_cons,List.length_nil]; omega) trivial r0 (fun A1 c1 w3 hs3=>?_)))))
  refine tA (.slice A1 ((([ak]:List Int)++aq).length) c1) r0 (nx (tm (.slice A1 ((([ak]:List Int)++aq).length) c1) r0 (qt r0 (fa 3 fo43_3 r0) (qt r0 (lD (I apt) hs3 0 r0 one3) ?_))))
  refine cL r0 (sL1Number (n:=apt) (w:=_) (hn:=(by(have haf:=addrOk_fit hok; have htl:=textI_len an; have hnb:(numB apt).length=2:=rfl; first | omega | assumption | (simp; done) | (simp; omega))))) ?_
  rintro _ w4 ⟨A2,c2,rfl,hs4⟩
  replace hs4:=hs3.call0 hs4
  refine apm (g:=I) (ys:=([ak]:List Int)++aq) (zs:=numB apt) hs4 1 r0 sl22 r0 r0 r0 (hs4.sl0 2 r0) (fun _=>rfl) (by unfold maxLen; have haf:=addrOk_fit hok; have htl:=textI_len an; have hnb:(numB apt).length=2:=rfl; simp only[List.length_append,List.length_cons,List.length_nil]; omega) (by have haf:=addrOk_fit hok; have htl:=textI_len an; have hnb:(numB apt).length=2:=rfl; simp only[List.length_append,List.length_cons,List.length_nil]; omega) trivial r0 (fun A3 c3 w5 hs5=>?_)
  refine tA (.slice A3 (((([ak]:List Int)++aq)++(numB apt)).length) c3) r0 (nn (rt (fT (.slice A3 (((([ak]:List Int)++aq)++(numB apt)).length) c3) r0 ?_)))
  have e1:(([ak]:List Int)++aq)++(numB apt)=addrB ak aq an apt:=by simp[addrB,h1]
  have e2:=congrArg List.length e1
  exact⟨A3,c3,(slv r0 e2 r0),((hs5.pq [2] r0).cast (lc (own_eq (g:=I) r0 e2 r0 e1) r0))⟩
 ·refine sr (tm (sb b2 (([ak]:List Int).length) 1) r0 (qt r0 (fa 2 fo43_2 r0) (qt r0 (lD (Str an) hs2 0 r0 one9) (qt r0 (lnS (l:=an) st9 r0) (bsk hs2 sl22 [I (an.length:Int)] [I (an.length:Int)] trivial r0 (fun b3 w6 hs6=>?_))))))
  refine apm (g:=I) (ys:=([ak]:List Int)) (zs:=(Z12 an)) hs6 1 r0 sl22 r0 r0 r0 (hs6.sl0 2 r0) (fun _=>rfl) (by unfold maxLen; have haf:=addrOk_fit hok; have htl:=textI_len an; have hnb:(numB apt).length=2:=rfl; simp only[List.length_append,List.length_cons,List.length_nil]; omega) (by have haf:=addrOk_fit hok; have htl:=textI_len an; have hnb:(numB apt).length=2:=rfl; simp only[List.length_append,List.length_cons,List.length_nil]; omega) trivial r0 (fun A4 c4 w7 hs7=>?_)
  refine tA (.slice A4 ((([ak]:List Int)++(Z12 an)).length) c4) r0 (nn (rg (tm (.slice A4 ((([ak]:List Int)++(Z12 an)).length) c4) r0 (qt r0 (fa 2 fo43_2 r0) (qt r0 (lD (Str an) hs7 0 r0 one9) (cL r0 (sL1Text (s:=an) (w:=_) (hs_n:=(by(have haf:=addrOk_fit hok; have htl:=textI_len an; have hnb:(numB apt).length=2:=rfl; omega)))) ?_))))))
  rintro _ w8 ⟨A5,c5,rfl,hs8⟩
  replace hs8:=hs7.call0 hs8
  refine apm (g:=I) (ys:=([ak]:List Int)++(Z12 an)) (zs:=textI an) hs8 2 r0 sl22 r0 r0 r0 (hs8.sl0 3 r0) (fun _=>rfl) (by unfold maxLen; have haf:=addrOk_fit hok; have htl:=textI_len an; have hnb:(numB apt).length=2:=rfl; simp only[List.length_append,List.length_cons,List.length_nil]; omega) (by have haf:=addrOk_fit hok; have htl:=textI_len an; have hnb:(numB apt).length=2:=rfl; simp only[List.length_append,List.length_cons,List.length_nil]; omega) trivial r0 (fun A6 c6 w9 hs9=>?_)
  refine tA (.slice A6 (((([ak]:List Int)++(Z12 an))++(textI an)).length) c6) r0 (nn ?_)
  have hs10:=hs9.pq [0,3] r0
  refine sr (tm (.slice A6 (((([ak]:List Int)++(Z12 an))++(textI an)).length) c6) r0 (qt r0 (fa 3 fo43_3 r0) (qt r0 (lD (I apt) hs10 0 r0 one3) (cL r0 (sL1Number (n:=apt) (w:=_) (hn:=(by(have haf:=addrOk_fit hok; have htl:=textI_len an; have hnb:(numB apt).length=2:=rfl; first | omega | assumption | (simp; done) | (simp; omega))))) ?_))))
  rintro _ w10 ⟨A7,c7,rfl,hs11⟩
  replace hs11:=hs10.call0 hs11
  refine apm (g:=I) (ys:=(([ak]:List Int)++(Z12 an))++(textI an)) (zs:=numB apt) hs11 1 r0 sl22 r0 r0 r0 (hs11.sl0 2 r0) (fun _=>rfl) (by unfold maxLen; have haf:=addrOk_fit hok; have htl:=textI_len an; have hnb:(numB apt).length=2:=rfl; simp only[List.length_append,List.length_cons,List.length_nil]; omega) (by have haf:=addrOk_fit hok; have htl:=textI_len an; have hnb:(numB apt).length=2:=rfl; simp only[List.length_append,List.length_cons,List.length_nil]; omega) trivial r0 (fun A8 c8 w11 hs12=>?_)
  refine tA (.slice A8 ((((([ak]:List Int)++(Z12 an))++(textI an))++(numB apt)).length) c8) r0 (nn (rt (fT (.slice A8 ((((([ak]:List Int)++(Z12 an))++(textI an))++(numB apt)).length) c8) r0 ?_)))
  have e3:((([ak]:List Int)++(Z12 an))++(textI an))++(numB apt)=addrB ak aq an apt:=by simp[addrB,h1]
  have e4:=congrArg List.length e3
  exact⟨A8,c8,(slv r0 e4 r0),((hs12.pq [2] r0).cast (lc (own_eq (g:=I) r0 e4 r0 e3) r0))⟩
set_option maxHeartbeats 8000000 in
theorem sL12Bytes (n:Int) (ak:Int) {Aaq:Option Addr} {caq:Nat} (aq:List Int) (an:List UInt8) (apt:Int) (w:World) (haq:Sl w [] 1 Aaq aq.length caq (aq.map I)) (han_n:an.length≤1099511627776) (hok:addrOk ak aq an apt=true):Does Tryz.prog 146 [I n,.agg #[I ak,.slice Aaq aq.length caq,Str an,I apt]] w (fun v w'=>∃ Ar:Option Addr,∃ cr:Nat,v=.slice Ar ([5,n,0]++addrB ak aq an apt).length cr∧SH w w' [] [.own Ar (([5,n,0]++addrB ak aq an apt).length) cr 3 1 (([5,n,0]++addrB ak aq an apt).map I)]):=by
 refine fE (N:=10) Tryz.func146 r0 (by kernel_rfl) r0 ?_
 have hs0:=SH.refl w []
 have haq_m:aq.length≤9223372036854775807:=Nat.le_trans haq.cap haq.capMax
 refine sr (bx (v:=.agg #[I ak,(Z10 Aaq aq caq),Str an,I apt]) (cs:=[I ak,(Z10 Aaq aq caq),Str an,I apt]) hs0 r0 r0 trivial r0 (fun b1 w1 hs1=>?_))
 refine tA ns r0 (nx (tm (I n) r0 (bsk hs1 sl22 [I 5,I n,I 0] [I 5,I n,I 0] trivial r0 (fun b2 w2 hs2=>?_))))
 refine qt r0 (lG [I ak,(Z10 Aaq aq caq),Str an,I apt] hs2 0 r0 ag43) (cL r0 (sL3Bytes (ak:=ak) (Aaq:=Aaq) (caq:=caq) (aq:=aq) (an:=an) (apt:=apt) (w:=_) (haq:=(haq.up0 hs2)) (han_n:=(by omega)) (hok:=(by omega))) ?_)
 rintro _ w3 ⟨A1,c1,rfl,hs3⟩
 replace hs3:=hs2.call0 hs3
 refine apm (g:=I) (ys:=([5,n,0]:List Int)) (zs:=addrB ak aq an apt) hs3 1 r0 sl22 r0 r0 r0 (hs3.sl0 2 r0) (fun _=>rfl) (by unfold maxLen; have hbl:=addrB_len hok; simp only[List.length_append,List.length_cons,List.length_nil]; omega) (by have hbl:=addrB_len hok; simp only[List.length_append,List.length_cons,List.length_nil]; omega) trivial r0 (fun A2 c2 w4 hs4=>?_)
 refine tA (.slice A2 ((([5,n,0]:List Int)++(addrB ak aq an apt)).length) c2) r0 (nn (rt (fT (.slice A2 ((([5,n,0]:List Int)++(addrB ak aq an apt)).length) c2) r0 ?_)))
 have e1:([5,n,0]:List Int)++(addrB ak aq an apt)=[5,n,0]++addrB ak aq an apt:=by rfl
 have e2:=congrArg List.length e1
 exact⟨A2,c2,(slv r0 e2 r0),((hs4.pq [2] r0).cast (lc (own_eq (g:=I) r0 e2 r0 e1) r0))⟩
theorem iIsRequest (n:Int) (ak:Int) {Aaq:Option Addr} {caq:Nat} (aq:List Int) (an:List UInt8) (apt:Int) (w:World) (haq:Sl w [] 1 Aaq aq.length caq (aq.map I)) (han_n:an.length≤1099511627776):Does Tryz.prog 61 [.agg #[I n,I ak,.slice Aaq aq.length caq,Str an,I apt]] w (fun v w'=>v=.bool (reqOk n ak aq an apt)∧SH w w' [] []):=by
 refine fE (N:=11) Tryz.func61 r0 (by kernel_rfl) r0 ?_
 have hs0:=SH.refl w []
 have haq_m:aq.length≤9223372036854775807:=Nat.le_trans haq.cap haq.capMax
 refine sr (bx (v:=.agg #[I n,I ak,(Z10 Aaq aq caq),Str an,I apt]) (cs:=[I n,I ak,(Z10 Aaq aq caq),Str an,I apt]) hs0 r0 r0 trivial r0 (fun b1 w1 hs1=>?_))
 refine tA (.bool false) r0 (nx (qt r0 (fa 0 fo45_0 r0) (qt r0 (lD (I n) hs1 0 r0 one3) (cL r0 (iWithin (x:=n) (lo:=1) (hi:=3) (w:=_)) ?_))))
 rintro _ w2 ⟨rfl,hs2⟩
 replace hs2:=hs1.call0 hs2
 refine tm (.bool (decide (1≤n∧n≤3))) r0 ?_
 refine spd (p:=1≤n∧n≤3) 6 r0 (fun h1=>?_) (fun h1=>?_)
 ·refine q ⟨_,rfl,rfl⟩ r0 r0 (fa 1 fo45_1 r0) (q ⟨_,rfl,rfl⟩ r0 r0 (lG [I ak,(Z10 Aaq aq caq),Str an,I apt] hs2 0 r0 ag43) (cl ⟨_,rfl,rfl⟩ r0 (iAddressValid (ak:=ak) (Aaq:=Aaq) (caq:=caq) (aq:=aq) (an:=an) (apt:=apt) (w:=_) (haq:=(haq.up0 hs2)) (han_n:=(by omega))) ?_))
  rintro _ w3 ⟨rfl,hs3⟩
  replace hs3:=hs2.call0 hs3
  refine qt r0 (pt (v:=.bool (addrOk ak aq an apt)) r0 r0) (tA (.bool (addrOk ak aq an apt)) r0 (nn (rt (fT (.bool (addrOk ak aq an apt)) r0 ?_))))
  have e1:(addrOk ak aq an apt)=reqOk n ak aq an apt:=by simp[reqOk,h1]
  exact⟨(congrArg (Value.bool) e1),(hs3.pk [] r0)⟩
 ·refine gf5 r0 (gf5 r0 (gf5 r0 (qt r0 (pf (v:=.bool false) r0 r0) (tA (.bool false) r0 (nn (rt ?_))))))
  refine fT (.bool false) r0 ?_
  have e2:false=reqOk n ak aq an apt:=by simp[reqOk,h1]
  exact⟨(congrArg (Value.bool) e2),(hs2.pk [] r0)⟩
set_option maxHeartbeats 8000000 in
theorem iRequestBytes (n:Int) (ak:Int) {Aaq:Option Addr} {caq:Nat} (aq:List Int) (an:List UInt8) (apt:Int) (w:World) (haq:Sl w [] 1 Aaq aq.length caq (aq.map I)) (han_n:an.length≤1099511627776):Does Tryz.prog 72 [.agg #[I n,I ak,.slice Aaq aq.length caq,Str an,I apt]] w (fun v w'=>∃ Ar:Option Addr,∃ cr:Nat,v=.tuple #[.slice Ar ((reqP n ak aq an apt).1).length cr,.bool ((reqP n ak aq an apt).2)]∧SH w w' [] [.own Ar (((reqP n ak aq an apt).1).length) cr 3 1 (((reqP n ak aq an apt).1).map I)]):=by
 refine fE (N:=14) Tryz.func72 r0 (by kernel_rfl) r0 ?_
 have hs0:=SH.refl w []
 have haq_m:aq.length≤9223372036854775807:=Nat.le_trans haq.cap haq.capMax
 refine sr (bx (v:=.agg #[I n,I ak,(Z10 Aaq aq caq),Str an,I apt]) (cs:=[I n,I ak,(Z10 Aaq aq caq),Str an,I apt]) hs0 r0 r0 trivial r0 (fun b1 w1 hs1=>?_))
 refine tA ns r0 (tA (.bool false) r0 (nn (sq (sr (qt r0 (lG [I n,I ak,(Z10 Aaq aq caq),Str an,I apt] hs1 0 r0 ag45) ?_)))))
 refine cL r0 (iIsRequest (n:=n) (ak:=ak) (Aaq:=Aaq) (caq:=caq) (aq:=aq) (an:=an) (apt:=apt) (w:=_) (haq:=(haq.up0 hs1)) (han_n:=(by omega))) ?_
 rintro _ w2 ⟨rfl,hs2⟩
 replace hs2:=hs1.call0 hs2
 refine qt r0 (nt (b:=reqOk n ak aq an apt) r0) (nn ?_)
 refine cd (b:=!(reqOk n ak aq an apt)) r0 (fun h1=>?_) (fun h1=>?_)
 ·have h2:(reqOk n ak aq an apt)=false:=by simpa using h1
  refine sr (tA ns r0 (tA (.bool false) r0 (nn (rt (tR ?_)))))
  refine fret (v:=.tuple #[ns,.bool false]) (.tmp (.tmp .nil)) r0 ?_
  have hs3:=hs2.nl [.own none (([]:List Int).length) 0 3 1 (([]:List Int).map I)] r0
  have e1:reqP n ak aq an apt=(([]:List Int),false):=by(simp[reqP,h2]; done)
  have e2:=pj1 e1
  have e3:=congrArg List.length e2
  have e4:=pj2 e1
  exact⟨none,0,(tup2 (slv r0 e3 r0) (congrArg (Value.bool) e4)),((hs3.pq [1] r0).cast (lc (own_eq (g:=I) r0 e3 r0 e2) r0))⟩
 ·have h3:(reqOk n ak aq an apt)=true:=by simpa using h1
  refine sk (nN (sq ?_))
  refine raJ (fun w'=>∃ L,SH w w' [] L∧(.blk b1 45 [I n,I ak,(Z10 Aaq aq caq),Str an,I apt])∈L∧True) (fun f w'=>∃ (A5':Option Addr) (c5':Nat) (A6':Option Addr) (c6':Nat),Hz f [(2,.slice A6' ((([5,n,0]:List Int)++(addrB ak aq an apt)).length) c6'),(3,.bool true)]∧SH w w' [] [.blk b1 45 [I n,I ak,(Z10 Aaq aq caq),Str an,I apt],.own A6' ((([5,n,0]:List Int)++(addrB ak aq an apt)).length) c6' 3 1 ((([5,n,0]:List Int)++(addrB ak aq an apt)).map I),.own A5' ((addrB ak aq an apt).length) c5' 3 1 ((addrB ak aq an apt).map I)]) mixed ?_ ?_
  ·refine dG 3 9 63 (fun f w'=>∃ (b2':Nat) (A5':Option Addr) (c5':Nat),Hz f [(2,ns),(3,.bool false),(9,sb b2' (([5,n,0]:List Int).length) 3),(12,.slice A5' ((addrB ak aq an apt).length) c5')]∧SH w w' [] [.blk b1 45 [I n,I ak,(Z10 Aaq aq caq),Str an,I apt],oI b2' ([5,n,0]:List Int) 3 3,.own A5' ((addrB ak aq an apt).length) c5' 3 1 ((addrB ak aq an apt).map I)]) ?_ (fun D_3_0=>?_)
   ·rintro f w3 ⟨b2',A5',c5',⟨g1,rfl⟩,hs4⟩
    refine aO 6 r0 (apm (g:=I) (ys:=([5,n,0]:List Int)) (zs:=addrB ak aq an apt) hs4 1 r0 sl22 r0 r0 r0 (hs4.sl0 2 r0) (fun _=>rfl) (by unfold maxLen; have hbl:=addrB_len (reqOk_addr ‹_›); simp only[List.length_append,List.length_cons,List.length_nil]; omega) (by have hbl:=addrB_len (reqOk_addr ‹_›); simp only[List.length_append,List.length_cons,List.length_nil]; omega) trivial r0 (fun A6' c6' w4 hs5=>?_))
    refine nk (m1 hs5 0 r0) ?_
    refine tk (fuel:=0) (is:=[7,8]) (.cons r0 (.cons r0 (.nil))) (by kernel_rfl) (by kernel_rfl) (m1 hs5 0 r0) (yA r0 (asg (v:=.slice A6' ((([5,n,0]:List Int)++(addrB ak aq an apt)).length) c6') r0) (yA r0 (asg (v:=.bool true) r0) (.nil (ad (by kernel_rfl) ?_))))
    exact⟨A5',c5',A6',c6',(zR r0),(hs5.pk [0,2,1] r0)⟩
   refine dG 4 9 31 (fun f w'=>∃ (b2':Nat),Hz f [(2,ns),(3,.bool false),(9,sb b2' (([5,n,0]:List Int).length) 3),(11,.agg #[I ak,(Z10 Aaq aq caq),Str an,I apt])]∧SH w w' [] [.blk b1 45 [I n,I ak,(Z10 Aaq aq caq),Str an,I apt],oI b2' ([5,n,0]:List Int) 3 3]) ?_ (fun D_3_1=>?_)
   ·rintro f w5 ⟨b2',⟨g2,rfl⟩,hs6⟩
    refine aO 5 r0 (cL r0 (iAddressBytes (ak:=ak) (Aaq:=Aaq) (caq:=caq) (aq:=aq) (an:=an) (apt:=apt) (w:=_) (haq:=(haq.up0 hs6)) (han_n:=(by omega)) (hok:=(by exact reqOk_addr ‹_›))) ?_)
    rintro _ w6 ⟨A5',c5',rfl,hs7⟩
    replace hs7:=hs6.call0 hs7
    exact nk (m1 hs7 0 r0) (alc D_3_0 ⟨b2',A5',c5',(zR r0),hs7⟩)
   refine dG 4 9 59 (fun f w'=>∃ (A5':Option Addr) (c5':Nat),Hz f [(2,ns),(3,.bool false),(8,I n),(12,.slice A5' ((addrB ak aq an apt).length) c5')]∧SH w w' [] [.blk b1 45 [I n,I ak,(Z10 Aaq aq caq),Str an,I apt],.own A5' ((addrB ak aq an apt).length) c5' 3 1 ((addrB ak aq an apt).map I)]) ?_ (fun D_3_2=>?_)
   ·rintro f w7 ⟨A5',c5',⟨g3,rfl⟩,hs8⟩
    refine aO 2 r0 (bsk hs8 sl22 [I 5,I n,I 0] [I 5,I n,I 0] trivial r0 (fun b2' w8 hs9=>?_))
    exact nk (m1 hs9 0 r0) (alc D_3_0 ⟨b2',A5',c5',(zR r0),(hs9.pk [0,2,1] r0)⟩)
   refine dG 5 9 27 (fun f w'=>Hz f [(2,ns),(3,.bool false),(8,I n),(11,.agg #[I ak,(Z10 Aaq aq caq),Str an,I apt])]∧SH w w' [] [.blk b1 45 [I n,I ak,(Z10 Aaq aq caq),Str an,I apt]]) ?_ (fun D_3_3=>?_)
   ·rintro f w9 ⟨⟨g4,rfl⟩,hs10⟩
    refine aaL [2,5] (fa_cons ?_ (fa_one ?_))
    ·refine one_ r0 (bsk hs10 sl22 [I 5,I n,I 0] [I 5,I n,I 0] trivial r0 (fun b2' w10 hs11=>?_))
     exact nk (m1 hs11 0 r0) (alc D_3_1 ⟨b2',(zR r0),hs11⟩)
    ·refine one_ r0 (cL r0 (iAddressBytes (ak:=ak) (Aaq:=Aaq) (caq:=caq) (aq:=aq) (an:=an) (apt:=apt) (w:=_) (haq:=(haq.up0 hs10)) (han_n:=(by omega)) (hok:=(by exact reqOk_addr ‹_›))) ?_)
     rintro _ w11 ⟨A5',c5',rfl,hs12⟩
     replace hs12:=hs10.call0 hs12
     exact nk (m1 hs12 0 r0) (alc D_3_2 ⟨A5',c5',(zR r0),hs12⟩)
   have hs13:=hs2.drew
   refine tk (fuel:=5) (is:=[0,1,3,4]) (.cons r0 (.cons r0 (.cons r0 (.cons r0 (.nil))))) (by kernel_rfl) (by kernel_rfl) (m1 hs13 0 r0) (yA r0 (fa 0 fo45_0 r0) (yB r0 (fun ⟨Lq,hsq,mh0,_⟩=>lM (I n) hsq mh0 r0 one3) (yA r0 (fa 1 fo45_1 r0) (yB r0 (fun ⟨Lq,hsq,mh0,_⟩=>ldgm (vs:=[I ak,(Z10 Aaq aq caq),Str an,I apt]) hsq mh0 r0 r0 r0 ag43) (.nil ?_)))))
   exact alc D_3_3 ⟨(zR r0),hs13⟩
  rintro f w12 ⟨A5',c5',A6',c6',⟨g5,rfl⟩,hs14⟩
  refine nN (rt (fret (v:=.tuple #[.slice A6' ((([5,n,0]:List Int)++(addrB ak aq an apt)).length) c6',.bool true]) (.tmp (.tmp .nil)) r0 ?_))
  have e5:reqP n ak aq an apt=(([5,n,0]:List Int)++(addrB ak aq an apt),true):=by(simp[reqP,h3]; done)
  have e6:=pj1 e5
  have e7:=congrArg List.length e6
  have e8:=pj2 e5
  exact⟨A6',c6',(tup2 (slv r0 e7 r0) (congrArg (Value.bool) e8)),((hs14.pq [1] r0).cast (lc (own_eq (g:=I) r0 e7 r0 e6) r0))⟩
set_option maxHeartbeats 8000000 in
theorem sRequestBytes (n:Int) (ak:Int) {Aaq:Option Addr} {caq:Nat} (aq:List Int) (an:List UInt8) (apt:Int) (w:World) (haq:Sl w [] 1 Aaq aq.length caq (aq.map I)) (han_n:an.length≤1099511627776):Does Tryz.prog 114 [.agg #[I n,I ak,.slice Aaq aq.length caq,Str an,I apt]] w (fun v w'=>∃ Ar:Option Addr,∃ cr:Nat,v=.tuple #[.slice Ar ((reqP n ak aq an apt).1).length cr,.bool ((reqP n ak aq an apt).2)]∧SH w w' [] [.own Ar (((reqP n ak aq an apt).1).length) cr 3 1 (((reqP n ak aq an apt).1).map I)]):=by
 refine fE (N:=20) Tryz.func114 r0 (by kernel_rfl) r0 ?_
 have hs0:=SH.refl w []
 have haq_m:aq.length≤9223372036854775807:=Nat.le_trans haq.cap haq.capMax
 refine sr (bx (v:=.agg #[I n,I ak,(Z10 Aaq aq caq),Str an,I apt]) (cs:=[I n,I ak,(Z10 Aaq aq caq),Str an,I apt]) hs0 r0 r0 trivial r0 (fun b1 w1 hs1=>?_))
 refine tA ns r0 (tA (.bool false) r0 (nn (sq (sr (qt r0 (fa 0 fo45_0 r0) ?_)))))
 refine qt r0 (lD (I n) hs1 0 r0 one3) (cL r0 (sIn (x:=n) (lo:=1) (hi:=3) (w:=_)) ?_)
 rintro _ w2 ⟨rfl,hs2⟩
 replace hs2:=hs1.call0 hs2
 refine qt r0 (nd (p:=1≤n∧n≤3) r0) (tm (.bool (decide (¬ (1≤n∧n≤3)))) r0 ?_)
 refine spd (p:=¬ (1≤n∧n≤3)) 8 r0 (fun h1=>?_) (fun h1=>?_)
 ·refine gt5 r0 (gt5 r0 (gt5 r0 (gt5 r0 (qt r0 (pt (v:=.bool true) r0 r0) (nn (cdt r0 ?_))))))
  refine sr (bsk hs2 sl22 [] [] trivial r0 (fun b2 w3 hs3=>?_))
  refine tA (sb b2 (([]:List Int).length) 0) r0 (tA (.bool false) r0 (nn (rt (tR ?_))))
  refine fret (v:=.tuple #[sb b2 (([]:List Int).length) 0,.bool false]) (.tmp (.tmp .nil)) r0 ?_
  have e1:reqP n ak aq an apt=(([]:List Int),false):=by(simp[reqP,reqOk,h1]; done)
  have e2:=pj1 e1
  have e3:=congrArg List.length e2
  have e4:=pj2 e1
  exact⟨(Z6 b2),0,(tup2 (slv r0 e3 r0) (congrArg (Value.bool) e4)),((hs3.pq [1] r0).cast (lc (own_eq (g:=I) r0 e3 r0 e2) r0))⟩
 ·refine q ⟨_,rfl,rfl⟩ r0 r0 (fa 1 fo45_1 r0) (q ⟨_,rfl,rfl⟩ r0 r0 (lG [I ak,(Z10 Aaq aq caq),Str an,I apt] hs2 0 r0 ag43) (cl ⟨_,rfl,rfl⟩ r0 (sAddressValid (ak:=ak) (Aaq:=Aaq) (caq:=caq) (aq:=aq) (an:=an) (apt:=apt) (w:=_) (haq:=(haq.up0 hs2)) (han_n:=(by omega))) ?_))
  rintro _ w4 ⟨rfl,hs4⟩
  replace hs4:=hs2.call0 hs4
  refine q ⟨_,rfl,rfl⟩ r0 r0 (nt (b:=addrOk ak aq an apt) r0) (qt r0 (pf (v:=.bool (!(addrOk ak aq an apt))) r0 r0) (nn ?_))
  refine cd (b:=!(addrOk ak aq an apt)) r0 (fun h2=>?_) (fun h2=>?_)
  ·have h3:(addrOk ak aq an apt)=false:=by simpa using h2
   refine sr (bsk hs4 sl22 [] [] trivial r0 (fun b3 w5 hs5=>?_))
   refine tA (sb b3 (([]:List Int).length) 0) r0 (tA (.bool false) r0 (nn (rt (tR ?_))))
   refine fret (v:=.tuple #[sb b3 (([]:List Int).length) 0,.bool false]) (.tmp (.tmp .nil)) r0 ?_
   have e5:reqP n ak aq an apt=(([]:List Int),false):=by(simp[reqP,reqOk,h1,h3]; done)
   have e6:=pj1 e5
   have e7:=congrArg List.length e6
   have e8:=pj2 e5
   exact⟨(Z6 b3),0,(tup2 (slv r0 e7 r0) (congrArg (Value.bool) e8)),((hs5.pq [1] r0).cast (lc (own_eq (g:=I) r0 e7 r0 e6) r0))⟩
  ·have h4:(addrOk ak aq an apt)=true:=by simpa using h2
   refine sk (nN (sr (qt r0 (fa 0 fo45_0 r0) (qt r0 (lD (I n) hs4 0 r0 one3) (qt r0 (fa 1 fo45_1 r0) (qt r0 (lG [I ak,(Z10 Aaq aq caq),Str an,I apt] hs4 0 r0 ag43) ?_))))))
   refine cL r0 (sL12Bytes (n:=n) (ak:=ak) (Aaq:=Aaq) (caq:=caq) (aq:=aq) (an:=an) (apt:=apt) (w:=_) (haq:=(haq.up0 hs4)) (han_n:=(by omega)) (hok:=‹_›)) ?_
   rintro _ w6 ⟨A1,c1,rfl,hs6⟩
   replace hs6:=hs4.call0 hs6
   refine tA (.slice A1 (([5,n,0]++addrB ak aq an apt).length) c1) r0 (tA (.bool true) r0 (nn (rt (fret (v:=.tuple #[.slice A1 (([5,n,0]++addrB ak aq an apt).length) c1,.bool true]) (.tmp (.tmp .nil)) r0 ?_))))
   have e9:reqP n ak aq an apt=([5,n,0]++addrB ak aq an apt,true):=by(simp[reqP,reqOk,h1,h4]; done)
   have e10:=pj1 e9
   have e11:=congrArg List.length e10
   have e12:=pj2 e9
   exact⟨A1,c1,(tup2 (slv r0 e11 r0) (congrArg (Value.bool) e12)),((hs6.pq [1] r0).cast (lc (own_eq (g:=I) r0 e11 r0 e10) r0))⟩
theorem iHelloBytes {Ams:Option Addr} {cms:Nat} (ms:List Int) (w:World) (hms:Sl w [] 1 Ams ms.length cms (ms.map I)):Does Tryz.prog 70 [.slice Ams ms.length cms] w (fun v w'=>∃ Ar:Option Addr,∃ cr:Nat,v=.tuple #[.slice Ar ((helloP ms).1).length cr,.bool ((helloP ms).2)]∧SH w w' [] [.own Ar (((helloP ms).1).length) cr 3 1 (((helloP ms).1).map I)]):=by
 refine fE (N:=12) Tryz.func70 r0 (by kernel_rfl) r0 ?_
 have hs0:=SH.refl w []
 have hms_m:ms.length≤9223372036854775807:=Nat.le_trans hms.cap hms.capMax
 refine sr (tA ns r0 (tA (.bool false) r0 (nn (sq (sq ?_)))))
 refine rg (tm (Z13 Ams ms cms) r0 (cL r0 (iAreMethods (Ams:=Ams) (cms:=cms) (ms:=ms) (w:=_) (hms:=(hms.up0 hs0))) ?_))
 rintro _ w1 ⟨rfl,hs1⟩
 replace hs1:=hs0.call0 hs1
 refine qt r0 (nt (b:=methOk ms) r0) (nn ?_)
 refine cd (b:=!(methOk ms)) r0 (fun h1=>?_) (fun h1=>?_)
 ·have h2:(methOk ms)=false:=by simpa using h1
  refine sr (tA ns r0 (tA (.bool false) r0 (nn (rt (tR ?_)))))
  refine fret (v:=.tuple #[ns,.bool false]) (.tmp (.tmp .nil)) r0 ?_
  have hs2:=hs1.nl [.own none (([]:List Int).length) 0 3 1 (([]:List Int).map I)] r0
  have e1:helloP ms=(([]:List Int),false):=by simp[helloP,h2]
  have e2:=pj1 e1
  have e3:=congrArg List.length e2
  have e4:=pj2 e1
  exact⟨none,0,(tup2 (slv r0 e3 r0) (congrArg (Value.bool) e4)),(hs2.cast (lc (own_eq (g:=I) r0 e3 r0 e2) r0))⟩
 ·have h3:(methOk ms)=true:=by simpa using h1
  refine sk (nN (sr (tm (Z13 Ams ms cms) r0 (qt r0 (lnA (n:=ms.length) sl22 r0) (bsk hs1 sl22 [I 5,I (ms.length:Int)] [I 5,I (ms.length:Int)] trivial r0 (fun b1 w2 hs3=>?_))))))
  refine tm (Z13 Ams ms cms) r0 (apm (g:=I) (ys:=([5,(ms.length:Int)]:List Int)) (zs:=ms) hs3 0 r0 sl22 r0 r0 r0 (hms.up0 hs3) (fun _=>rfl) (by unfold maxLen; have hml:=methOk_len ‹_›; simp only[List.length_append,List.length_cons,List.length_nil]; omega) (by have hml:=methOk_len ‹_›; simp only[List.length_append,List.length_cons,List.length_nil]; omega) trivial r0 (fun A1 c1 w3 hs4=>?_))
  refine tA (.slice A1 ((([5,(ms.length:Int)]:List Int)++ms).length) c1) r0 (tA (.bool true) r0 (nn (rt (fret (v:=.tuple #[.slice A1 ((([5,(ms.length:Int)]:List Int)++ms).length) c1,.bool true]) (.tmp (.tmp .nil)) r0 ?_))))
  have e5:helloP ms=(([5,(ms.length:Int)]:List Int)++ms,true):=by simp[helloP,h3]
  have e6:=pj1 e5
  have e7:=congrArg List.length e6
  have e8:=pj2 e5
  exact⟨A1,c1,(tup2 (slv r0 e7 r0) (congrArg (Value.bool) e8)),(hs4.cast (lc (own_eq (g:=I) r0 e7 r0 e6) r0))⟩
theorem sHelloBytes {Ams:Option Addr} {cms:Nat} (ms:List Int) (w:World) (hms:Sl w [] 1 Ams ms.length cms (ms.map I)):Does Tryz.prog 112 [.slice Ams ms.length cms] w (fun v w'=>∃ Ar:Option Addr,∃ cr:Nat,v=.tuple #[.slice Ar ((helloP ms).1).length cr,.bool ((helloP ms).2)]∧SH w w' [] [.own Ar (((helloP ms).1).length) cr 3 1 (((helloP ms).1).map I)]):=by
 refine fE (N:=13) Tryz.func112 r0 (by kernel_rfl) r0 ?_
 have hs0:=SH.refl w []
 have hms_m:ms.length≤9223372036854775807:=Nat.le_trans hms.cap hms.capMax
 refine sr (tA ns r0 (tA (.bool false) r0 (nn (sq (sq ?_)))))
 refine rg (tm (Z13 Ams ms cms) r0 (cL r0 (sL5Ok (Ams:=Ams) (cms:=cms) (ms:=ms) (w:=_) (hms:=(hms.up0 hs0))) ?_))
 rintro _ w1 ⟨rfl,hs1⟩
 replace hs1:=hs0.call0 hs1
 refine qt r0 (nt (b:=methOk ms) r0) (nn ?_)
 refine cd (b:=!(methOk ms)) r0 (fun h1=>?_) (fun h1=>?_)
 ·have h2:(methOk ms)=false:=by simpa using h1
  refine sr (bsk hs1 sl22 [] [] trivial r0 (fun b1 w2 hs2=>?_))
  refine tA (sb b1 (([]:List Int).length) 0) r0 (tA (.bool false) r0 (nn (rt (tR ?_))))
  refine fret (v:=.tuple #[sb b1 (([]:List Int).length) 0,.bool false]) (.tmp (.tmp .nil)) r0 ?_
  have e1:helloP ms=(([]:List Int),false):=by simp[helloP,h2]
  have e2:=pj1 e1
  have e3:=congrArg List.length e2
  have e4:=pj2 e1
  exact⟨(Z6 b1),0,(tup2 (slv r0 e3 r0) (congrArg (Value.bool) e4)),(hs2.cast (lc (own_eq (g:=I) r0 e3 r0 e2) r0))⟩
 ·have h3:(methOk ms)=true:=by simpa using h1
  refine sk (nN (sr (tm (Z13 Ams ms cms) r0 (qt r0 (lnA (n:=ms.length) sl22 r0) (bsk hs1 sl22 [I 5,I (ms.length:Int)] [I 5,I (ms.length:Int)] trivial r0 (fun b2 w3 hs3=>?_))))))
  refine tm (Z13 Ams ms cms) r0 (apm (g:=I) (ys:=([5,(ms.length:Int)]:List Int)) (zs:=ms) hs3 0 r0 sl22 r0 r0 r0 (hms.up0 hs3) (fun _=>rfl) (by unfold maxLen; have hml:=methOk_len ‹_›; simp only[List.length_append,List.length_cons,List.length_nil]; omega) (by have hml:=methOk_len ‹_›; simp only[List.length_append,List.length_cons,List.length_nil]; omega) trivial r0 (fun A1 c1 w4 hs4=>?_))
  refine tA (.slice A1 ((([5,(ms.length:Int)]:List Int)++ms).length) c1) r0 (tA (.bool true) r0 (nn (rt (fret (v:=.tuple #[.slice A1 ((([5,(ms.length:Int)]:List Int)++ms).length) c1,.bool true]) (.tmp (.tmp .nil)) r0 ?_))))
  have e5:helloP ms=(([5,(ms.length:Int)]:List Int)++ms,true):=by simp[helloP,h3]
  have e6:=pj1 e5
  have e7:=congrArg List.length e6
  have e8:=pj2 e5
  exact⟨A1,c1,(tup2 (slv r0 e7 r0) (congrArg (Value.bool) e8)),(hs4.cast (lc (own_eq (g:=I) r0 e7 r0 e6) r0))⟩
set_option maxHeartbeats 8000000 in
theorem iLoginBytes (lu:List UInt8) (lw:List UInt8) (w:World) (hlu_n:lu.length≤2147483648) (hlw_n:lw.length≤2147483648):Does Tryz.prog 71 [.agg #[Str lu,Str lw]] w (fun v w'=>∃ Ar:Option Addr,∃ cr:Nat,v=.tuple #[.slice Ar ((loginP lu lw).1).length cr,.bool ((loginP lu lw).2)]∧SH w w' [] [.own Ar (((loginP lu lw).1).length) cr 3 1 (((loginP lu lw).1).map I)]):=by
 refine fE (N:=23) Tryz.func71 r0 (by kernel_rfl) r0 ?_
 have hs0:=SH.refl w []
 refine sr (bx (v:=.agg #[Str lu,Str lw]) (cs:=[Str lu,Str lw]) hs0 r0 r0 trivial r0 (fun b1 w1 hs1=>?_))
 refine tA ns r0 (tA (.bool false) r0 (nn (sq (sr (qt r0 (lG [Str lu,Str lw] hs1 0 r0 ag51) ?_)))))
 refine cL r0 (iIsLogin (lu:=lu) (lw:=lw) (w:=_) (hlu_n:=(by omega)) (hlw_n:=(by omega))) ?_
 rintro _ w2 ⟨rfl,hs2⟩
 replace hs2:=hs1.call0 hs2
 refine qt r0 (nt (b:=loginOk lu lw) r0) (nn ?_)
 refine cd (b:=!(loginOk lu lw)) r0 (fun h1=>?_) (fun h1=>?_)
 ·have h2:(loginOk lu lw)=false:=by simpa using h1
  refine sr (tA ns r0 (tA (.bool false) r0 (nn (rt (tR ?_)))))
  refine fret (v:=.tuple #[ns,.bool false]) (.tmp (.tmp .nil)) r0 ?_
  have hs3:=hs2.nl [.own none (([]:List Int).length) 0 3 1 (([]:List Int).map I)] r0
  have e1:loginP lu lw=(([]:List Int),false):=by(try simp only[catH_cons,catH_nil,List.append_nil]); simp[loginP,h2]
  have e2:=pj1 e1
  have e3:=congrArg List.length e2
  have e4:=pj2 e1
  exact⟨none,0,(tup2 (slv r0 e3 r0) (congrArg (Value.bool) e4)),((hs3.pq [1] r0).cast (lc (own_eq (g:=I) r0 e3 r0 e2) r0))⟩
 ·have h3:(loginOk lu lw)=true:=by simpa using h1
  refine sk (nN (sq ?_))
  refine raJ (fun w'=>∃ L,SH w w' [] L∧(.blk b1 51 [Str lu,Str lw])∈L∧True) (fun f w'=>∃ (b3':Nat) (A6':Option Addr) (c6' b10':Nat) (A13':Option Addr) (c13' b14':Nat) (A15':Option Addr) (c15':Nat),Hz f [(2,.slice A15' ((catH ([(⟨(Z6 b3'),2,(Z21 lu)⟩:Hd),(⟨A6',c6',textI lu⟩:Hd),(⟨(Z6 b10'),1,(Z12 lw)⟩:Hd),(⟨A13',c13',textI lw⟩:Hd)]:List Hd)).length) c15'),(3,.bool true)]∧SH w w' [] [.blk b1 51 [Str lu,Str lw],oI b10' (Z12 lw) 1 3,.own A13' ((textI lw).length) c13' 3 1 ((textI lw).map I),.own (Z6 b14') (([(⟨(Z6 b3'),2,(Z21 lu)⟩:Hd),(⟨A6',c6',textI lu⟩:Hd),(⟨(Z6 b10'),1,(Z12 lw)⟩:Hd),(⟨A13',c13',textI lw⟩:Hd)]:List Hd).length) 4 22 1 (([(⟨(Z6 b3'),2,(Z21 lu)⟩:Hd),(⟨A6',c6',textI lu⟩:Hd),(⟨(Z6 b10'),1,(Z12 lw)⟩:Hd),(⟨A13',c13',textI lw⟩:Hd)]:List Hd).map hv),.own A15' ((catH ([(⟨(Z6 b3'),2,(Z21 lu)⟩:Hd),(⟨A6',c6',textI lu⟩:Hd),(⟨(Z6 b10'),1,(Z12 lw)⟩:Hd),(⟨A13',c13',textI lw⟩:Hd)]:List Hd)).length) c15' 3 1 ((catH ([(⟨(Z6 b3'),2,(Z21 lu)⟩:Hd),(⟨A6',c6',textI lu⟩:Hd),(⟨(Z6 b10'),1,(Z12 lw)⟩:Hd),(⟨A13',c13',textI lw⟩:Hd)]:List Hd)).map I),oI b3' (Z21 lu) 2 3,.own A6' ((textI lu).length) c6' 3 1 ((textI lu).map I)]) mixed ?_ ?_
  ·refine dG 3 18 32767 (fun f w'=>∃ (b3':Nat) (A6':Option Addr) (c6' b10':Nat) (A13':Option Addr) (c13' b14':Nat),Hz f [(2,ns),(3,.bool false),(21,sb b14' (([(⟨(Z6 b3'),2,(Z21 lu)⟩:Hd),(⟨A6',c6',textI lu⟩:Hd),(⟨(Z6 b10'),1,(Z12 lw)⟩:Hd),(⟨A13',c13',textI lw⟩:Hd)]:List Hd).length) 4)]∧SH w w' [] [.blk b1 51 [Str lu,Str lw],oI b10' (Z12 lw) 1 3,.own A13' ((textI lw).length) c13' 3 1 ((textI lw).map I),.own (Z6 b14') (([(⟨(Z6 b3'),2,(Z21 lu)⟩:Hd),(⟨A6',c6',textI lu⟩:Hd),(⟨(Z6 b10'),1,(Z12 lw)⟩:Hd),(⟨A13',c13',textI lw⟩:Hd)]:List Hd).length) 4 22 1 (([(⟨(Z6 b3'),2,(Z21 lu)⟩:Hd),(⟨A6',c6',textI lu⟩:Hd),(⟨(Z6 b10'),1,(Z12 lw)⟩:Hd),(⟨A13',c13',textI lw⟩:Hd)]:List Hd).map hv),oI b3' (Z21 lu) 2 3,.own A6' ((textI lu).length) c6' 3 1 ((textI lu).map I)]) ?_ (fun D_3_0=>?_)
   ·rintro f w3 ⟨b3',A6',c6',b10',A13',c13',b14',⟨g1,rfl⟩,hs4⟩
    refine aO 15 r0 (cL r0 (slConcat (Ahs:=(Z6 b14')) (chs:=4) (hs:=([(⟨(Z6 b3'),2,(Z21 lu)⟩:Hd),(⟨A6',c6',textI lu⟩:Hd),(⟨(Z6 b10'),1,(Z12 lw)⟩:Hd),(⟨A13',c13',textI lw⟩:Hd)]:List Hd)) (w:=_) (hhs:=(hs4.sl0 3 r0)) (hhs_in:=(fa_cons (hs4.sl0 4 r0) (fa_cons (hs4.sl0 5 r0) (fa_cons (hs4.sl0 1 r0) (fa_cons (hs4.sl0 2 r0) fa_nil))))) (hct:=(by have hlf:=loginOk_fit ‹_›; have htl:=textI_len lu; have htw:=textI_len lw; simp[catH]; omega))) ?_)
    rintro _ w4 ⟨A15',c15',rfl,hs5⟩
    replace hs5:=hs4.call0 hs5
    refine nk (m1 hs5 0 r0) ?_
    refine tk (fuel:=0) (is:=[16,17]) (.cons r0 (.cons r0 (.nil))) (by kernel_rfl) (by kernel_rfl) (m1 hs5 0 r0) (yA r0 (asg (v:=.slice A15' ((catH ([(⟨(Z6 b3'),2,(Z21 lu)⟩:Hd),(⟨A6',c6',textI lu⟩:Hd),(⟨(Z6 b10'),1,(Z12 lw)⟩:Hd),(⟨A13',c13',textI lw⟩:Hd)]:List Hd)).length) c15') r0) (yA r0 (asg (v:=.bool true) r0) (.nil (ad (by kernel_rfl) ?_))))
    exact⟨b3',A6',c6',b10',A13',c13',b14',A15',c15',(zR r0),(hs5.pk [0,1,2,3,6,4,5] r0)⟩
   refine dG 4 18 16383 (fun f w'=>∃ (b3':Nat) (A6':Option Addr) (c6' b10':Nat) (A13':Option Addr) (c13':Nat),Hz f [(2,ns),(3,.bool false),(10,sb b3' ((Z21 lu).length) 2),(13,.slice A6' ((textI lu).length) c6'),(17,sb b10' ((Z12 lw).length) 1),(20,.slice A13' ((textI lw).length) c13')]∧SH w w' [] [.blk b1 51 [Str lu,Str lw],oI b10' (Z12 lw) 1 3,.own A13' ((textI lw).length) c13' 3 1 ((textI lw).map I),oI b3' (Z21 lu) 2 3,.own A6' ((textI lu).length) c6' 3 1 ((textI lu).map I)]) ?_ (fun D_3_1=>?_)
   ·rintro f w5 ⟨b3',A6',c6',b10',A13',c13',⟨g2,rfl⟩,hs6⟩
    refine aO 14 r0 (bsk hs6 sl91 [sb b3' ((Z21 lu).length) 2,.slice A6' ((textI lu).length) c6',sb b10' ((Z12 lw).length) 1,.slice A13' ((textI lw).length) c13'] [sb b3' ((Z21 lu).length) 2,.slice A6' ((textI lu).length) c6',sb b10' ((Z12 lw).length) 1,.slice A13' ((textI lw).length) c13'] trivial r0 (fun b14' w6 hs7=>?_))
    exact nk (m1 hs7 0 r0) (alc D_3_0 ⟨b3',A6',c6',b10',A13',c13',b14',(zR r0),(hs7.pk [0,1,2,5,3,4] r0)⟩)
   refine dG 5 18 8191 (fun f w'=>∃ (b3':Nat) (A6':Option Addr) (c6' b10':Nat),Hz f [(2,ns),(3,.bool false),(10,sb b3' ((Z21 lu).length) 2),(13,.slice A6' ((textI lu).length) c6'),(17,sb b10' ((Z12 lw).length) 1),(19,Str lw)]∧SH w w' [] [.blk b1 51 [Str lu,Str lw],oI b10' (Z12 lw) 1 3,oI b3' (Z21 lu) 2 3,.own A6' ((textI lu).length) c6' 3 1 ((textI lu).map I)]) ?_ (fun D_3_2=>?_)
   ·rintro f w7 ⟨b3',A6',c6',b10',⟨g3,rfl⟩,hs8⟩
    refine aO 13 r0 (cL r0 (iTextBytes (s:=lw) (w:=_) (hs_n:=(by omega))) ?_)
    rintro _ w8 ⟨A13',c13',rfl,hs9⟩
    replace hs9:=hs8.call0 hs9
    exact nk (m1 hs9 0 r0) (alc D_3_1 ⟨b3',A6',c6',b10',A13',c13',(zR r0),(hs9.pk [0,1,4,2,3] r0)⟩)
   refine dG 5 18 15359 (fun f w'=>∃ (b3':Nat) (A6':Option Addr) (c6':Nat) (A13':Option Addr) (c13':Nat),Hz f [(2,ns),(3,.bool false),(10,sb b3' ((Z21 lu).length) 2),(13,.slice A6' ((textI lu).length) c6'),(16,I (lw.length:Int)),(20,.slice A13' ((textI lw).length) c13')]∧SH w w' [] [.blk b1 51 [Str lu,Str lw],.own A13' ((textI lw).length) c13' 3 1 ((textI lw).map I),oI b3' (Z21 lu) 2 3,.own A6' ((textI lu).length) c6' 3 1 ((textI lu).map I)]) ?_ (fun D_3_3=>?_)
   ·rintro f w9 ⟨b3',A6',c6',A13',c13',⟨g4,rfl⟩,hs10⟩
    refine aO 10 r0 (bsk hs10 sl22 [I (lw.length:Int)] [I (lw.length:Int)] trivial r0 (fun b10' w10 hs11=>?_))
    exact nk (m1 hs11 0 r0) (alc D_3_1 ⟨b3',A6',c6',b10',A13',c13',(zR r0),(hs11.pk [0,4,1,2,3] r0)⟩)
   refine dG 5 18 16375 (fun f w'=>∃ (A6':Option Addr) (c6' b10':Nat) (A13':Option Addr) (c13':Nat),Hz f [(2,ns),(3,.bool false),(9,I (lu.length:Int)),(13,.slice A6' ((textI lu).length) c6'),(17,sb b10' ((Z12 lw).length) 1),(20,.slice A13' ((textI lw).length) c13')]∧SH w w' [] [.blk b1 51 [Str lu,Str lw],oI b10' (Z12 lw) 1 3,.own A13' ((textI lw).length) c13' 3 1 ((textI lw).map I),.own A6' ((textI lu).length) c6' 3 1 ((textI lu).map I)]) ?_ (fun D_3_4=>?_)
   ·rintro f w11 ⟨A6',c6',b10',A13',c13',⟨g5,rfl⟩,hs12⟩
    refine aO 3 r0 (bsk hs12 sl22 [I 1,I (lu.length:Int)] [I 1,I (lu.length:Int)] trivial r0 (fun b3' w12 hs13=>?_))
    exact nk (m1 hs13 0 r0) (alc D_3_1 ⟨b3',A6',c6',b10',A13',c13',(zR r0),(hs13.pk [0,1,2,4,3] r0)⟩)
   refine dG 6 18 7167 (fun f w'=>∃ (b3':Nat) (A6':Option Addr) (c6':Nat),Hz f [(2,ns),(3,.bool false),(10,sb b3' ((Z21 lu).length) 2),(13,.slice A6' ((textI lu).length) c6'),(16,I (lw.length:Int)),(19,Str lw)]∧SH w w' [] [.blk b1 51 [Str lu,Str lw],oI b3' (Z21 lu) 2 3,.own A6' ((textI lu).length) c6' 3 1 ((textI lu).map I)]) ?_ (fun D_3_5=>?_)
   ·rintro f w13 ⟨b3',A6',c6',⟨g6,rfl⟩,hs14⟩
    refine aaL [10,13] (fa_cons ?_ (fa_one ?_))
    ·refine one_ r0 (bsk hs14 sl22 [I (lw.length:Int)] [I (lw.length:Int)] trivial r0 (fun b10' w14 hs15=>?_))
     exact nk (m1 hs15 0 r0) (alc D_3_2 ⟨b3',A6',c6',b10',(zR r0),(hs15.pk [0,3,1,2] r0)⟩)
    ·refine one_ r0 (cL r0 (iTextBytes (s:=lw) (w:=_) (hs_n:=(by omega))) ?_)
     rintro _ w15 ⟨A13',c13',rfl,hs16⟩
     replace hs16:=hs14.call0 hs16
     exact nk (m1 hs16 0 r0) (alc D_3_3 ⟨b3',A6',c6',A13',c13',(zR r0),(hs16.pk [0,3,1,2] r0)⟩)
   refine dG 6 18 8127 (fun f w'=>∃ (b3' b10':Nat),Hz f [(2,ns),(3,.bool false),(10,sb b3' ((Z21 lu).length) 2),(12,Str lu),(17,sb b10' ((Z12 lw).length) 1),(19,Str lw)]∧SH w w' [] [.blk b1 51 [Str lu,Str lw],oI b10' (Z12 lw) 1 3,oI b3' (Z21 lu) 2 3]) ?_ (fun D_3_6=>?_)
   ·rintro f w16 ⟨b3',b10',⟨g7,rfl⟩,hs17⟩
    refine aO 6 r0 (cL r0 (iTextBytes (s:=lu) (w:=_) (hs_n:=(by omega))) ?_)
    rintro _ w17 ⟨A6',c6',rfl,hs18⟩
    replace hs18:=hs17.call0 hs18
    exact nk (m1 hs18 0 r0) (alc D_3_2 ⟨b3',A6',c6',b10',(zR r0),hs18⟩)
   refine dG 6 18 8183 (fun f w'=>∃ (A6':Option Addr) (c6' b10':Nat),Hz f [(2,ns),(3,.bool false),(9,I (lu.length:Int)),(13,.slice A6' ((textI lu).length) c6'),(17,sb b10' ((Z12 lw).length) 1),(19,Str lw)]∧SH w w' [] [.blk b1 51 [Str lu,Str lw],oI b10' (Z12 lw) 1 3,.own A6' ((textI lu).length) c6' 3 1 ((textI lu).map I)]) ?_ (fun D_3_7=>?_)
   ·rintro f w18 ⟨A6',c6',b10',⟨g8,rfl⟩,hs19⟩
    refine aaL [3,13] (fa_cons ?_ (fa_one ?_))
    ·refine one_ r0 (bsk hs19 sl22 [I 1,I (lu.length:Int)] [I 1,I (lu.length:Int)] trivial r0 (fun b3' w19 hs20=>?_))
     exact nk (m1 hs20 0 r0) (alc D_3_2 ⟨b3',A6',c6',b10',(zR r0),(hs20.pk [0,1,3,2] r0)⟩)
    ·refine one_ r0 (cL r0 (iTextBytes (s:=lw) (w:=_) (hs_n:=(by omega))) ?_)
     rintro _ w20 ⟨A13',c13',rfl,hs21⟩
     replace hs21:=hs19.call0 hs21
     exact nk (m1 hs21 0 r0) (alc D_3_4 ⟨A6',c6',b10',A13',c13',(zR r0),(hs21.pk [0,1,3,2] r0)⟩)
   refine dG 6 18 15351 (fun f w'=>∃ (A6':Option Addr) (c6':Nat) (A13':Option Addr) (c13':Nat),Hz f [(2,ns),(3,.bool false),(9,I (lu.length:Int)),(13,.slice A6' ((textI lu).length) c6'),(16,I (lw.length:Int)),(20,.slice A13' ((textI lw).length) c13')]∧SH w w' [] [.blk b1 51 [Str lu,Str lw],.own A13' ((textI lw).length) c13' 3 1 ((textI lw).map I),.own A6' ((textI lu).length) c6' 3 1 ((textI lu).map I)]) ?_ (fun D_3_8=>?_)
   ·rintro f w21 ⟨A6',c6',A13',c13',⟨g9,rfl⟩,hs22⟩
    refine aaL [3,10] (fa_cons ?_ (fa_one ?_))
    ·refine one_ r0 (bsk hs22 sl22 [I 1,I (lu.length:Int)] [I 1,I (lu.length:Int)] trivial r0 (fun b3' w22 hs23=>?_))
     exact nk (m1 hs23 0 r0) (alc D_3_3 ⟨b3',A6',c6',A13',c13',(zR r0),(hs23.pk [0,1,3,2] r0)⟩)
    ·refine one_ r0 (bsk hs22 sl22 [I (lw.length:Int)] [I (lw.length:Int)] trivial r0 (fun b10' w23 hs24=>?_))
     exact nk (m1 hs24 0 r0) (alc D_3_4 ⟨A6',c6',b10',A13',c13',(zR r0),(hs24.pk [0,3,1,2] r0)⟩)
   refine dG 7 18 7103 (fun f w'=>∃ (b3':Nat),Hz f [(2,ns),(3,.bool false),(10,sb b3' ((Z21 lu).length) 2),(12,Str lu),(16,I (lw.length:Int)),(19,Str lw)]∧SH w w' [] [.blk b1 51 [Str lu,Str lw],oI b3' (Z21 lu) 2 3]) ?_ (fun D_3_9=>?_)
   ·rintro f w24 ⟨b3',⟨g10,rfl⟩,hs25⟩
    refine aaL [6,10] (fa_cons ?_ (fa_one ?_))
    ·refine one_ r0 (cL r0 (iTextBytes (s:=lu) (w:=_) (hs_n:=(by omega))) ?_)
     rintro _ w25 ⟨A6',c6',rfl,hs26⟩
     replace hs26:=hs25.call0 hs26
     exact nk (m1 hs26 0 r0) (alc D_3_5 ⟨b3',A6',c6',(zR r0),hs26⟩)
    ·refine one_ r0 (bsk hs25 sl22 [I (lw.length:Int)] [I (lw.length:Int)] trivial r0 (fun b10' w26 hs27=>?_))
     exact nk (m1 hs27 0 r0) (alc D_3_6 ⟨b3',b10',(zR r0),(hs27.pk [0,2,1] r0)⟩)
   refine dG 7 18 7159 (fun f w'=>∃ (A6':Option Addr) (c6':Nat),Hz f [(2,ns),(3,.bool false),(9,I (lu.length:Int)),(13,.slice A6' ((textI lu).length) c6'),(16,I (lw.length:Int)),(19,Str lw)]∧SH w w' [] [.blk b1 51 [Str lu,Str lw],.own A6' ((textI lu).length) c6' 3 1 ((textI lu).map I)]) ?_ (fun D_3_10=>?_)
   ·rintro f w27 ⟨A6',c6',⟨g11,rfl⟩,hs28⟩
    refine aaL [3,10,13] (fa_cons ?_ (fa_cons ?_ (fa_one ?_)))
    ·refine one_ r0 (bsk hs28 sl22 [I 1,I (lu.length:Int)] [I 1,I (lu.length:Int)] trivial r0 (fun b3' w28 hs29=>?_))
     exact nk (m1 hs29 0 r0) (alc D_3_5 ⟨b3',A6',c6',(zR r0),(hs29.pk [0,2,1] r0)⟩)
    ·refine one_ r0 (bsk hs28 sl22 [I (lw.length:Int)] [I (lw.length:Int)] trivial r0 (fun b10' w29 hs30=>?_))
     exact nk (m1 hs30 0 r0) (alc D_3_7 ⟨A6',c6',b10',(zR r0),(hs30.pk [0,2,1] r0)⟩)
    ·refine one_ r0 (cL r0 (iTextBytes (s:=lw) (w:=_) (hs_n:=(by omega))) ?_)
     rintro _ w30 ⟨A13',c13',rfl,hs31⟩
     replace hs31:=hs28.call0 hs31
     exact nk (m1 hs31 0 r0) (alc D_3_8 ⟨A6',c6',A13',c13',(zR r0),(hs31.pk [0,2,1] r0)⟩)
   refine dG 7 18 8119 (fun f w'=>∃ (b10':Nat),Hz f [(2,ns),(3,.bool false),(9,I (lu.length:Int)),(12,Str lu),(17,sb b10' ((Z12 lw).length) 1),(19,Str lw)]∧SH w w' [] [.blk b1 51 [Str lu,Str lw],oI b10' (Z12 lw) 1 3]) ?_ (fun D_3_11=>?_)
   ·rintro f w31 ⟨b10',⟨g12,rfl⟩,hs32⟩
    refine aaL [3,6] (fa_cons ?_ (fa_one ?_))
    ·refine one_ r0 (bsk hs32 sl22 [I 1,I (lu.length:Int)] [I 1,I (lu.length:Int)] trivial r0 (fun b3' w32 hs33=>?_))
     exact nk (m1 hs33 0 r0) (alc D_3_6 ⟨b3',b10',(zR r0),hs33⟩)
    ·refine one_ r0 (cL r0 (iTextBytes (s:=lu) (w:=_) (hs_n:=(by omega))) ?_)
     rintro _ w33 ⟨A6',c6',rfl,hs34⟩
     replace hs34:=hs32.call0 hs34
     exact nk (m1 hs34 0 r0) (alc D_3_7 ⟨A6',c6',b10',(zR r0),hs34⟩)
   refine dG 8 18 7095 (fun f w'=>Hz f [(2,ns),(3,.bool false),(9,I (lu.length:Int)),(12,Str lu),(16,I (lw.length:Int)),(19,Str lw)]∧SH w w' [] [.blk b1 51 [Str lu,Str lw]]) ?_ (fun D_3_12=>?_)
   ·rintro f w34 ⟨⟨g13,rfl⟩,hs35⟩
    refine aaL [3,6,10] (fa_cons ?_ (fa_cons ?_ (fa_one ?_)))
    ·refine one_ r0 (bsk hs35 sl22 [I 1,I (lu.length:Int)] [I 1,I (lu.length:Int)] trivial r0 (fun b3' w35 hs36=>?_))
     exact nk (m1 hs36 0 r0) (alc D_3_9 ⟨b3',(zR r0),hs36⟩)
    ·refine one_ r0 (cL r0 (iTextBytes (s:=lu) (w:=_) (hs_n:=(by omega))) ?_)
     rintro _ w36 ⟨A6',c6',rfl,hs37⟩
     replace hs37:=hs35.call0 hs37
     exact nk (m1 hs37 0 r0) (alc D_3_10 ⟨A6',c6',(zR r0),hs37⟩)
    ·refine one_ r0 (bsk hs35 sl22 [I (lw.length:Int)] [I (lw.length:Int)] trivial r0 (fun b10' w37 hs38=>?_))
     exact nk (m1 hs38 0 r0) (alc D_3_11 ⟨b10',(zR r0),hs38⟩)
   have hs39:=hs2.drew
   refine tk (fuel:=8) (is:=[0,1,2,4,5,7,8,9,11,12]) (.cons r0 (.cons r0 (.cons r0 (.cons r0 (.cons r0 (.cons r0 (.cons r0 (.cons r0 (.cons r0 (.cons r0 (.nil))))))))))) (by kernel_rfl) (by kernel_rfl) (m1 hs39 0 r0) (yA r0 (fa 0 fo51_0 r0) (yB r0 (fun ⟨Lq,hsq,mh0,_⟩=>lM (Str lu) hsq mh0 r0 one9) (yA r0 (lnS (l:=lu) st9 r0) (yA r0 (fa 0 fo51_0 r0) (yB r0 (fun ⟨Lq,hsq,mh0,_⟩=>lM (Str lu) hsq mh0 r0 one9) (yA r0 (fa 1 fo51_1 r0) (yB r0 (fun ⟨Lq,hsq,mh0,_⟩=>lM (Str lw) hsq mh0 r0 one9) ?_)))))))
   refine yA r0 (lnS (l:=lw) st9 r0) (yA r0 (fa 1 fo51_1 r0) (yB r0 (fun ⟨Lq,hsq,mh0,_⟩=>lM (Str lw) hsq mh0 r0 one9) (.nil ?_)))
   exact alc D_3_12 ⟨(zR r0),hs39⟩
  rintro f w38 ⟨b3',A6',c6',b10',A13',c13',b14',A15',c15',⟨g14,rfl⟩,hs40⟩
  refine nN ?_
  have hs41:=hs40.pq [4] r0
  refine rt (fret (v:=.tuple #[.slice A15' ((catH ([(⟨(Z6 b3'),2,(Z21 lu)⟩:Hd),(⟨A6',c6',textI lu⟩:Hd),(⟨(Z6 b10'),1,(Z12 lw)⟩:Hd),(⟨A13',c13',textI lw⟩:Hd)]:List Hd)).length) c15',.bool true]) (.tmp (.tmp .nil)) r0 ?_)
  have e5:loginP lu lw=(catH ([(⟨(Z6 b3'),2,(Z21 lu)⟩:Hd),(⟨A6',c6',textI lu⟩:Hd),(⟨(Z6 b10'),1,(Z12 lw)⟩:Hd),(⟨A13',c13',textI lw⟩:Hd)]:List Hd),true):=by(try simp only[catH_cons,catH_nil,List.append_nil]); simp[loginP,h3]
  have e6:=pj1 e5
  have e7:=congrArg List.length e6
  have e8:=pj2 e5
  exact⟨A15',c15',(tup2 (slv r0 e7 r0) (congrArg (Value.bool) e8)),(hs41.cast (lc (own_eq (g:=I) r0 e7 r0 e6) r0))⟩
set_option maxHeartbeats 8000000 in
theorem sLoginBytes (lu:List UInt8) (lw:List UInt8) (w:World) (hlu_n:lu.length≤2147483648) (hlw_n:lw.length≤2147483648):Does Tryz.prog 113 [.agg #[Str lu,Str lw]] w (fun v w'=>∃ Ar:Option Addr,∃ cr:Nat,v=.tuple #[.slice Ar ((loginP lu lw).1).length cr,.bool ((loginP lu lw).2)]∧SH w w' [] [.own Ar (((loginP lu lw).1).length) cr 3 1 (((loginP lu lw).1).map I)]):=by
 refine fE (N:=28) Tryz.func113 r0 (by kernel_rfl) r0 ?_
 have hs0:=SH.refl w []
 refine sr (bx (v:=.agg #[Str lu,Str lw]) (cs:=[Str lu,Str lw]) hs0 r0 r0 trivial r0 (fun b1 w1 hs1=>?_))
 refine tA ns r0 (tA (.bool false) r0 (nn (sq (sr (qt r0 (lG [Str lu,Str lw] hs1 0 r0 ag51) ?_)))))
 refine cL r0 (sL11Ok (lu:=lu) (lw:=lw) (w:=_) (hlu_n:=(by omega)) (hlw_n:=(by omega))) ?_
 rintro _ w2 ⟨rfl,hs2⟩
 replace hs2:=hs1.call0 hs2
 refine qt r0 (nt (b:=loginOk lu lw) r0) (nn ?_)
 refine cd (b:=!(loginOk lu lw)) r0 (fun h1=>?_) (fun h1=>?_)
 ·have h2:(loginOk lu lw)=false:=by simpa using h1
  refine sr (bsk hs2 sl22 [] [] trivial r0 (fun b2 w3 hs3=>?_))
  refine tA (sb b2 (([]:List Int).length) 0) r0 (tA (.bool false) r0 (nn (rt (tR ?_))))
  refine fret (v:=.tuple #[sb b2 (([]:List Int).length) 0,.bool false]) (.tmp (.tmp .nil)) r0 ?_
  have e1:loginP lu lw=(([]:List Int),false):=by(try simp only[catH_cons,catH_nil,List.append_nil]); simp[loginP,h2]
  have e2:=pj1 e1
  have e3:=congrArg List.length e2
  have e4:=pj2 e1
  exact⟨(Z6 b2),0,(tup2 (slv r0 e3 r0) (congrArg (Value.bool) e4)),((hs3.pq [1] r0).cast (lc (own_eq (g:=I) r0 e3 r0 e2) r0))⟩
 ·have h3:(loginOk lu lw)=true:=by simpa using h1
  refine sk (nN (sq ?_))
  refine raJ (fun w'=>∃ L,SH w w' [] L∧(.blk b1 51 [Str lu,Str lw])∈L∧True) (fun f w'=>∃ (A6':Option Addr) (c6':Nat) (A7':Option Addr) (c7':Nat),Hz f [(1,pB b1),(4,.slice A7' (((Z21 lu)++(textI lu)).length) c7')]∧SH w w' [] [.blk b1 51 [Str lu,Str lw],.own A7' (((Z21 lu)++(textI lu)).length) c7' 3 1 (((Z21 lu)++(textI lu)).map I),.own A6' ((textI lu).length) c6' 3 1 ((textI lu).map I)]) mixed ?_ ?_
  ·refine dG 2 9 127 (fun f w'=>∃ (b3':Nat) (A6':Option Addr) (c6':Nat),Hz f [(1,pB b1),(12,sb b3' ((Z21 lu).length) 2),(15,.slice A6' ((textI lu).length) c6')]∧SH w w' [] [.blk b1 51 [Str lu,Str lw],oI b3' (Z21 lu) 2 3,.own A6' ((textI lu).length) c6' 3 1 ((textI lu).map I)]) ?_ (fun D_3_0=>?_)
   ·rintro f w4 ⟨b3',A6',c6',⟨g1,rfl⟩,hs4⟩
    refine aO 7 r0 (apm (g:=I) (ys:=(Z21 lu)) (zs:=textI lu) hs4 1 r0 sl22 r0 r0 r0 (hs4.sl0 2 r0) (fun _=>rfl) (by unfold maxLen; have hlf:=loginOk_fit ‹_›; have htl:=textI_len lu; have htw:=textI_len lw; simp only[List.length_append,List.length_cons,List.length_nil]; omega) (by have hlf:=loginOk_fit ‹_›; have htl:=textI_len lu; have htw:=textI_len lw; simp only[List.length_append,List.length_cons,List.length_nil]; omega) trivial r0 (fun A7' c7' w5 hs5=>?_))
    refine nk (m1 hs5 0 r0) ?_
    refine tk (fuel:=0) (is:=[8]) (.cons r0 (.nil)) (by kernel_rfl) (by kernel_rfl) (m1 hs5 0 r0) (yA r0 (asg (v:=.slice A7' (((Z21 lu)++(textI lu)).length) c7') r0) (.nil (ad (by kernel_rfl) ?_)))
    exact⟨A6',c6',A7',c7',(zR r0),(hs5.pk [0,2,1] r0)⟩
   refine dG 3 9 63 (fun f w'=>∃ (b3':Nat),Hz f [(1,pB b1),(12,sb b3' ((Z21 lu).length) 2),(14,Str lu)]∧SH w w' [] [.blk b1 51 [Str lu,Str lw],oI b3' (Z21 lu) 2 3]) ?_ (fun D_3_1=>?_)
   ·rintro f w6 ⟨b3',⟨g2,rfl⟩,hs6⟩
    refine aO 6 r0 (cL r0 (sL1Text (s:=lu) (w:=_) (hs_n:=(by omega))) ?_)
    rintro _ w7 ⟨A6',c6',rfl,hs7⟩
    replace hs7:=hs6.call0 hs7
    exact nk (m1 hs7 0 r0) (alc D_3_0 ⟨b3',A6',c6',(zR r0),hs7⟩)
   refine dG 3 9 119 (fun f w'=>∃ (A6':Option Addr) (c6':Nat),Hz f [(1,pB b1),(11,I (lu.length:Int)),(15,.slice A6' ((textI lu).length) c6')]∧SH w w' [] [.blk b1 51 [Str lu,Str lw],.own A6' ((textI lu).length) c6' 3 1 ((textI lu).map I)]) ?_ (fun D_3_2=>?_)
   ·rintro f w8 ⟨A6',c6',⟨g3,rfl⟩,hs8⟩
    refine aO 3 r0 (bsk hs8 sl22 [I 1,I (lu.length:Int)] [I 1,I (lu.length:Int)] trivial r0 (fun b3' w9 hs9=>?_))
    exact nk (m1 hs9 0 r0) (alc D_3_0 ⟨b3',A6',c6',(zR r0),(hs9.pk [0,2,1] r0)⟩)
   refine dG 4 9 55 (fun f w'=>Hz f [(1,pB b1),(11,I (lu.length:Int)),(14,Str lu)]∧SH w w' [] [.blk b1 51 [Str lu,Str lw]]) ?_ (fun D_3_3=>?_)
   ·rintro f w10 ⟨⟨g4,rfl⟩,hs10⟩
    refine aaL [3,6] (fa_cons ?_ (fa_one ?_))
    ·refine one_ r0 (bsk hs10 sl22 [I 1,I (lu.length:Int)] [I 1,I (lu.length:Int)] trivial r0 (fun b3' w11 hs11=>?_))
     exact nk (m1 hs11 0 r0) (alc D_3_1 ⟨b3',(zR r0),hs11⟩)
    ·refine one_ r0 (cL r0 (sL1Text (s:=lu) (w:=_) (hs_n:=(by omega))) ?_)
     rintro _ w12 ⟨A6',c6',rfl,hs12⟩
     replace hs12:=hs10.call0 hs12
     exact nk (m1 hs12 0 r0) (alc D_3_2 ⟨A6',c6',(zR r0),hs12⟩)
   have hs13:=hs2.drew
   refine tk (fuel:=4) (is:=[0,1,2,4,5]) (.cons r0 (.cons r0 (.cons r0 (.cons r0 (.cons r0 (.nil)))))) (by kernel_rfl) (by kernel_rfl) (m1 hs13 0 r0) (yA r0 (fa 0 fo51_0 r0) (yB r0 (fun ⟨Lq,hsq,mh0,_⟩=>lM (Str lu) hsq mh0 r0 one9) (yA r0 (lnS (l:=lu) st9 r0) (yA r0 (fa 0 fo51_0 r0) (yB r0 (fun ⟨Lq,hsq,mh0,_⟩=>lM (Str lu) hsq mh0 r0 one9) (.nil ?_))))))
   exact alc D_3_3 ⟨(zR r0),hs13⟩
  rintro f w13 ⟨A6',c6',A7',c7',⟨g5,rfl⟩,hs14⟩
  refine nN (sr (tm (.slice A7' (((Z21 lu)++(textI lu)).length) c7') r0 (qt r0 (fa 1 fo51_1 r0) (qt r0 (lD (Str lw) hs14 0 r0 one9) (qt r0 (lnS (l:=lw) st9 r0) (bsk hs14 sl22 [I (lw.length:Int)] [I (lw.length:Int)] trivial r0 (fun b3 w14 hs15=>?_)))))))
  refine apm (g:=I) (ys:=(Z21 lu)++(textI lu)) (zs:=(Z12 lw)) hs15 1 r0 sl22 r0 r0 r0 (hs15.sl0 3 r0) (fun _=>rfl) (by unfold maxLen; have hlf:=loginOk_fit ‹_›; have htl:=textI_len lu; have htw:=textI_len lw; simp only[List.length_append,List.length_cons,List.length_nil]; omega) (by have hlf:=loginOk_fit ‹_›; have htl:=textI_len lu; have htw:=textI_len lw; simp only[List.length_append,List.length_cons,List.length_nil]; omega) trivial r0 (fun A1 c1 w15 hs16=>?_)
  refine tA (.slice A1 ((((Z21 lu)++(textI lu))++(Z12 lw)).length) c1) r0 (nn ?_)
  have hs17:=hs16.pq [0,3] r0
  refine sr (tm (.slice A1 ((((Z21 lu)++(textI lu))++(Z12 lw)).length) c1) r0 (qt r0 (fa 1 fo51_1 r0) (qt r0 (lD (Str lw) hs17 0 r0 one9) (cL r0 (sL1Text (s:=lw) (w:=_) (hs_n:=(by omega))) ?_))))
  rintro _ w16 ⟨A2,c2,rfl,hs18⟩
  replace hs18:=hs17.call0 hs18
  refine apm (g:=I) (ys:=((Z21 lu)++(textI lu))++(Z12 lw)) (zs:=textI lw) hs18 1 r0 sl22 r0 r0 r0 (hs18.sl0 2 r0) (fun _=>rfl) (by unfold maxLen; have hlf:=loginOk_fit ‹_›; have htl:=textI_len lu; have htw:=textI_len lw; simp only[List.length_append,List.length_cons,List.length_nil]; omega) (by have hlf:=loginOk_fit ‹_›; have htl:=textI_len lu; have htw:=textI_len lw; simp only[List.length_append,List.length_cons,List.length_nil]; omega) trivial r0 (fun A3 c3 w17 hs19=>?_)
  refine tA (.slice A3 (((((Z21 lu)++(textI lu))++(Z12 lw))++(textI lw)).length) c3) r0 (tA (.bool true) r0 (nn (rt (fret (v:=.tuple #[.slice A3 (((((Z21 lu)++(textI lu))++(Z12 lw))++(textI lw)).length) c3,.bool true]) (.tmp (.tmp .nil)) r0 ?_))))
  have e5:loginP lu lw=((((Z21 lu)++(textI lu))++(Z12 lw))++(textI lw),true):=by(try simp only[catH_cons,catH_nil,List.append_nil]); simp[loginP,h3]
  have e6:=pj1 e5
  have e7:=congrArg List.length e6
  have e8:=pj2 e5
  exact⟨A3,c3,(tup2 (slv r0 e7 r0) (congrArg (Value.bool) e8)),((hs19.pq [2] r0).cast (lc (own_eq (g:=I) r0 e7 r0 e6) r0))⟩
theorem iClientSay {Ams:Option Addr} {cms:Nat} (ms:List Int) (lu:List UInt8) (lw:List UInt8) (ak:Int) {Aaq:Option Addr} {caq:Nat} (aq:List Int) (an:List UInt8) (apt:Int) (n:Int) (w:World) (hms:Sl w [] 1 Ams ms.length cms (ms.map I)) (hlu_n:lu.length≤2147483648) (hlw_n:lw.length≤2147483648) (haq:Sl w [] 1 Aaq aq.length caq (aq.map I)) (han_n:an.length≤1099511627776):Does Tryz.prog 30 [.agg #[.slice Ams ms.length cms,Str lu,Str lw,I ak,.slice Aaq aq.length caq,Str an,I apt],I n] w (fun v w'=>∃ Ar:Option Addr,∃ cr:Nat,v=.tuple #[.slice Ar ((sayP ms lu lw ak aq an apt n).1).length cr,.bool ((sayP ms lu lw ak aq an apt n).2)]∧SH w w' [] [.own Ar (((sayP ms lu lw ak aq an apt n).1).length) cr 3 1 (((sayP ms lu lw ak aq an apt n).1).map I)]):=by
 refine fE (N:=32) Tryz.func30 r0 (by kernel_rfl) r0 ?_
 have hs0:=SH.refl w []
 have hms_m:ms.length≤9223372036854775807:=Nat.le_trans hms.cap hms.capMax
 have haq_m:aq.length≤9223372036854775807:=Nat.le_trans haq.cap haq.capMax
 refine sr (bx (v:=.agg #[(Z10 Ams ms cms),Str lu,Str lw,I ak,(Z10 Aaq aq caq),Str an,I apt]) (cs:=[(Z10 Ams ms cms),Str lu,Str lw,I ak,(Z10 Aaq aq caq),Str an,I apt]) hs0 r0 r0 trivial r0 (fun b1 w1 hs1=>?_))
 refine tA ns r0 (tA (.bool false) r0 (nn (sq (sr (qt r0 (lG [(Z10 Ams ms cms),Str lu,Str lw,I ak,(Z10 Aaq aq caq),Str an,I apt] hs1 0 r0 ag53) ?_)))))
 refine cL r0 (iClientValid (Ams:=Ams) (cms:=cms) (ms:=ms) (lu:=lu) (lw:=lw) (ak:=ak) (Aaq:=Aaq) (caq:=caq) (aq:=aq) (an:=an) (apt:=apt) (w:=_) (hms:=(hms.up0 hs1)) (hlu_n:=(by omega)) (hlw_n:=(by omega)) (haq:=(haq.up0 hs1)) (han_n:=(by omega))) ?_
 rintro _ w2 ⟨rfl,hs2⟩
 replace hs2:=hs1.call0 hs2
 refine qt r0 (nt (b:=clientOk ms lu lw ak aq an apt) r0) (nn ?_)
 refine cd (b:=!(clientOk ms lu lw ak aq an apt)) r0 (fun h1=>?_) (fun h1=>?_)
 ·have h2:(clientOk ms lu lw ak aq an apt)=false:=by simpa using h1
  refine sr (tA ns r0 (tA (.bool false) r0 (nn (rt (tR ?_)))))
  refine fret (v:=.tuple #[ns,.bool false]) (.tmp (.tmp .nil)) r0 ?_
  have hs3:=hs2.nl [.own none (([]:List Int).length) 0 3 1 (([]:List Int).map I)] r0
  have e1:sayP ms lu lw ak aq an apt n=(([]:List Int),false):=by simp[sayP,h2]
  have e2:=pj1 e1
  have e3:=congrArg List.length e2
  have e4:=pj2 e1
  exact⟨none,0,(tup2 (slv r0 e3 r0) (congrArg (Value.bool) e4)),((hs3.pq [1] r0).cast (lc (own_eq (g:=I) r0 e3 r0 e2) r0))⟩
 ·have h3:(clientOk ms lu lw ak aq an apt)=true:=by simpa using h1
  refine sk (nN (sq (sr (tm (I n) r0 (nn ?_)))))
  refine bl (sr (qt r0 (eqi (k:=.i64) (a:=n) (b:=0) r0 r0) (tA (.bool (decide (n=0))) r0 (nn ?_))))
  refine cdd (p:=n=0) r0 (fun h4=>?_) (fun h4=>?_)
  ·refine sr (qt r0 (fa 0 fo53_0 r0) (qt r0 (lD (Z13 Ams ms cms) hs2 0 r0 one22) (cL r0 (iHelloBytes (Ams:=Ams) (cms:=cms) (ms:=ms) (w:=_) (hms:=(hms.up0 hs2))) ?_)))
   rintro _ w3 ⟨A1,c1,rfl,hs4⟩
   replace hs4:=hs2.call0 hs4
   refine qt r0 (xt 0 (v:=.slice A1 (((helloP ms).1).length) c1) r0 r0) (qt r0 (xt 1 (v:=.bool ((helloP ms).2)) r0 r0) (tA (.slice A1 (((helloP ms).1).length) c1) r0 (tA (.bool ((helloP ms).2)) r0 (nn ?_))))
   refine rt (bR (tR ?_))
   refine fret (v:=.tuple #[.slice A1 (((helloP ms).1).length) c1,.bool ((helloP ms).2)]) (.tmp (.tmp .nil)) r0 ?_
   have e5:sayP ms lu lw ak aq an apt n=((helloP ms).1,((helloP ms).2)):=by simp[sayP,h3,h4]
   have e6:=pj1 e5
   have e7:=congrArg List.length e6
   have e8:=pj2 e5
   exact⟨A1,c1,(tup2 (slv r0 e7 r0) (congrArg (Value.bool) e8)),((hs4.pq [1] r0).cast (lc (own_eq (g:=I) r0 e7 r0 e6) r0))⟩
  ·refine sr (qt r0 (eqi (k:=.i64) (a:=n) (b:=1) r0 r0) (tA (.bool (decide (n=1))) r0 (nn ?_)))
   refine cdd (p:=n=1) r0 (fun h5=>?_) (fun h5=>?_)
   ·refine sr (qt r0 (fa 1 fo53_1 r0) (qt r0 (lG [Str lu,Str lw] hs2 0 r0 ag51) (cL r0 (iLoginBytes (lu:=lu) (lw:=lw) (w:=_) (hlu_n:=(by omega)) (hlw_n:=(by omega))) ?_)))
    rintro _ w4 ⟨A2,c2,rfl,hs5⟩
    replace hs5:=hs2.call0 hs5
    refine qt r0 (xt 0 (v:=.slice A2 (((loginP lu lw).1).length) c2) r0 r0) (qt r0 (xt 1 (v:=.bool ((loginP lu lw).2)) r0 r0) (tA (.slice A2 (((loginP lu lw).1).length) c2) r0 (tA (.bool ((loginP lu lw).2)) r0 (nn ?_))))
    refine rt (bR (tR ?_))
    refine fret (v:=.tuple #[.slice A2 (((loginP lu lw).1).length) c2,.bool ((loginP lu lw).2)]) (.tmp (.tmp .nil)) r0 ?_
    have e9:sayP ms lu lw ak aq an apt n=((loginP lu lw).1,((loginP lu lw).2)):=by simp[sayP,h3,h4,h5]
    have e10:=pj1 e9
    have e11:=congrArg List.length e10
    have e12:=pj2 e9
    exact⟨A2,c2,(tup2 (slv r0 e11 r0) (congrArg (Value.bool) e12)),((hs5.pq [1] r0).cast (lc (own_eq (g:=I) r0 e11 r0 e10) r0))⟩
   ·refine sr (qt r0 (eqi (k:=.i64) (a:=n) (b:=2) r0 r0) (tA (.bool (decide (n=2))) r0 (nn ?_)))
    refine cdd (p:=n=2) r0 (fun h6=>?_) (fun h6=>?_)
    ·refine sr (qt r0 (fa 3 fo53_2 r0) (qt r0 (lG [I ak,(Z10 Aaq aq caq),Str an,I apt] hs2 0 r0 ag43) (qt r0 (bdv (v:=.agg #[I 1,I ak,(Z10 Aaq aq caq),Str an,I apt]) [(0,I 1),(1,.agg #[I ak,(Z10 Aaq aq caq),Str an,I apt])] r0 (fun _=>by kernel_rfl)) (cL r0 (iRequestBytes (n:=1) (ak:=ak) (Aaq:=Aaq) (caq:=caq) (aq:=aq) (an:=an) (apt:=apt) (w:=_) (haq:=(haq.up0 hs2)) (han_n:=(by omega))) ?_))))
     rintro _ w5 ⟨A3,c3,rfl,hs6⟩
     replace hs6:=hs2.call0 hs6
     refine qt r0 (xt 0 (v:=.slice A3 (((reqP 1 ak aq an apt).1).length) c3) r0 r0) (qt r0 (xt 1 (v:=.bool ((reqP 1 ak aq an apt).2)) r0 r0) (tA (.slice A3 (((reqP 1 ak aq an apt).1).length) c3) r0 (tA (.bool ((reqP 1 ak aq an apt).2)) r0 (nn ?_))))
     refine rt (bR (tR ?_))
     refine fret (v:=.tuple #[.slice A3 (((reqP 1 ak aq an apt).1).length) c3,.bool ((reqP 1 ak aq an apt).2)]) (.tmp (.tmp .nil)) r0 ?_
     have e13:sayP ms lu lw ak aq an apt n=((reqP 1 ak aq an apt).1,((reqP 1 ak aq an apt).2)):=by simp[sayP,h3,h4,h5,h6]
     have e14:=pj1 e13
     have e15:=congrArg List.length e14
     have e16:=pj2 e13
     exact⟨A3,c3,(tup2 (slv r0 e15 r0) (congrArg (Value.bool) e16)),((hs6.pq [1] r0).cast (lc (own_eq (g:=I) r0 e15 r0 e14) r0))⟩
    ·refine sk (bN (nN (sr (tA ns r0 (tA (.bool false) r0 (nl ?_))))))
     refine nN (rt (fret (v:=.tuple #[ns,.bool false]) (.tmp (.tmp .nil)) r0 ?_))
     have hs7:=hs2.nl [.own none (([]:List Int).length) 0 3 1 (([]:List Int).map I)] r0
     have e17:sayP ms lu lw ak aq an apt n=(([]:List Int),false):=by simp[sayP,h3,h4,h5,h6]
     have e18:=pj1 e17
     have e19:=congrArg List.length e18
     have e20:=pj2 e17
     exact⟨none,0,(tup2 (slv r0 e19 r0) (congrArg (Value.bool) e20)),((hs7.pq [1] r0).cast (lc (own_eq (g:=I) r0 e19 r0 e18) r0))⟩
theorem sClientSay {Ams:Option Addr} {cms:Nat} (ms:List Int) (lu:List UInt8) (lw:List UInt8) (ak:Int) {Aaq:Option Addr} {caq:Nat} (aq:List Int) (an:List UInt8) (apt:Int) (n:Int) (w:World) (hms:Sl w [] 1 Ams ms.length cms (ms.map I)) (hlu_n:lu.length≤2147483648) (hlw_n:lw.length≤2147483648) (haq:Sl w [] 1 Aaq aq.length caq (aq.map I)) (han_n:an.length≤1099511627776):Does Tryz.prog 68 [.agg #[.slice Ams ms.length cms,Str lu,Str lw,I ak,.slice Aaq aq.length caq,Str an,I apt],I n] w (fun v w'=>∃ Ar:Option Addr,∃ cr:Nat,v=.tuple #[.slice Ar ((sayP ms lu lw ak aq an apt n).1).length cr,.bool ((sayP ms lu lw ak aq an apt n).2)]∧SH w w' [] [.own Ar (((sayP ms lu lw ak aq an apt n).1).length) cr 3 1 (((sayP ms lu lw ak aq an apt n).1).map I)]):=by
 refine fE (N:=34) Tryz.func68 r0 (by kernel_rfl) r0 ?_
 have hs0:=SH.refl w []
 have hms_m:ms.length≤9223372036854775807:=Nat.le_trans hms.cap hms.capMax
 have haq_m:aq.length≤9223372036854775807:=Nat.le_trans haq.cap haq.capMax
 refine sr (bx (v:=.agg #[(Z10 Ams ms cms),Str lu,Str lw,I ak,(Z10 Aaq aq caq),Str an,I apt]) (cs:=[(Z10 Ams ms cms),Str lu,Str lw,I ak,(Z10 Aaq aq caq),Str an,I apt]) hs0 r0 r0 trivial r0 (fun b1 w1 hs1=>?_))
 refine tA ns r0 (tA (.bool false) r0 (nn (sq (sr (qt r0 (lG [(Z10 Ams ms cms),Str lu,Str lw,I ak,(Z10 Aaq aq caq),Str an,I apt] hs1 0 r0 ag53) ?_)))))
 refine cL r0 (sClientValid (Ams:=Ams) (cms:=cms) (ms:=ms) (lu:=lu) (lw:=lw) (ak:=ak) (Aaq:=Aaq) (caq:=caq) (aq:=aq) (an:=an) (apt:=apt) (w:=_) (hms:=(hms.up0 hs1)) (hlu_n:=(by omega)) (hlw_n:=(by omega)) (haq:=(haq.up0 hs1)) (han_n:=(by omega))) ?_
 rintro _ w2 ⟨rfl,hs2⟩
 replace hs2:=hs1.call0 hs2
 refine qt r0 (nt (b:=clientOk ms lu lw ak aq an apt) r0) (nn ?_)
 refine cd (b:=!(clientOk ms lu lw ak aq an apt)) r0 (fun h1=>?_) (fun h1=>?_)
 ·have h2:(clientOk ms lu lw ak aq an apt)=false:=by simpa using h1
  refine sr (bsk hs2 sl22 [] [] trivial r0 (fun b2 w3 hs3=>?_))
  refine tA (sb b2 (([]:List Int).length) 0) r0 (tA (.bool false) r0 (nn (rt (tR ?_))))
  refine fret (v:=.tuple #[sb b2 (([]:List Int).length) 0,.bool false]) (.tmp (.tmp .nil)) r0 ?_
  have e1:sayP ms lu lw ak aq an apt n=(([]:List Int),false):=by simp[sayP,h2]
  have e2:=pj1 e1
  have e3:=congrArg List.length e2
  have e4:=pj2 e1
  exact⟨(Z6 b2),0,(tup2 (slv r0 e3 r0) (congrArg (Value.bool) e4)),((hs3.pq [1] r0).cast (lc (own_eq (g:=I) r0 e3 r0 e2) r0))⟩
 ·have h3:(clientOk ms lu lw ak aq an apt)=true:=by simpa using h1
  refine sk (nN (sq (sr (tm (I n) r0 (nn ?_)))))
  refine bl (sr (qt r0 (eqi (k:=.i64) (a:=n) (b:=0) r0 r0) (tA (.bool (decide (n=0))) r0 (nn ?_))))
  refine cdd (p:=n=0) r0 (fun h4=>?_) (fun h4=>?_)
  ·refine sr (qt r0 (fa 0 fo53_0 r0) (qt r0 (lD (Z13 Ams ms cms) hs2 0 r0 one22) (cL r0 (sHelloBytes (Ams:=Ams) (cms:=cms) (ms:=ms) (w:=_) (hms:=(hms.up0 hs2))) ?_)))
   rintro _ w4 ⟨A1,c1,rfl,hs4⟩
   replace hs4:=hs2.call0 hs4
   refine qt r0 (xt 0 (v:=.slice A1 (((helloP ms).1).length) c1) r0 r0) (qt r0 (xt 1 (v:=.bool ((helloP ms).2)) r0 r0) (tA (.slice A1 (((helloP ms).1).length) c1) r0 (tA (.bool ((helloP ms).2)) r0 (nn ?_))))
   refine rt (bR (tR ?_))
   refine fret (v:=.tuple #[.slice A1 (((helloP ms).1).length) c1,.bool ((helloP ms).2)]) (.tmp (.tmp .nil)) r0 ?_
   have e5:sayP ms lu lw ak aq an apt n=((helloP ms).1,((helloP ms).2)):=by simp[sayP,h3,h4]
   have e6:=pj1 e5
   have e7:=congrArg List.length e6
   have e8:=pj2 e5
   exact⟨A1,c1,(tup2 (slv r0 e7 r0) (congrArg (Value.bool) e8)),((hs4.pq [1] r0).cast (lc (own_eq (g:=I) r0 e7 r0 e6) r0))⟩
  ·refine sr (qt r0 (eqi (k:=.i64) (a:=n) (b:=1) r0 r0) (tA (.bool (decide (n=1))) r0 (nn ?_)))
   refine cdd (p:=n=1) r0 (fun h5=>?_) (fun h5=>?_)
   ·refine sr (qt r0 (fa 1 fo53_1 r0) (qt r0 (lG [Str lu,Str lw] hs2 0 r0 ag51) (cL r0 (sLoginBytes (lu:=lu) (lw:=lw) (w:=_) (hlu_n:=(by omega)) (hlw_n:=(by omega))) ?_)))
    rintro _ w5 ⟨A2,c2,rfl,hs5⟩
    replace hs5:=hs2.call0 hs5
    refine qt r0 (xt 0 (v:=.slice A2 (((loginP lu lw).1).length) c2) r0 r0) (qt r0 (xt 1 (v:=.bool ((loginP lu lw).2)) r0 r0) (tA (.slice A2 (((loginP lu lw).1).length) c2) r0 (tA (.bool ((loginP lu lw).2)) r0 (nn ?_))))
    refine rt (bR (tR ?_))
    refine fret (v:=.tuple #[.slice A2 (((loginP lu lw).1).length) c2,.bool ((loginP lu lw).2)]) (.tmp (.tmp .nil)) r0 ?_
    have e9:sayP ms lu lw ak aq an apt n=((loginP lu lw).1,((loginP lu lw).2)):=by simp[sayP,h3,h4,h5]
    have e10:=pj1 e9
    have e11:=congrArg List.length e10
    have e12:=pj2 e9
    exact⟨A2,c2,(tup2 (slv r0 e11 r0) (congrArg (Value.bool) e12)),((hs5.pq [1] r0).cast (lc (own_eq (g:=I) r0 e11 r0 e10) r0))⟩
   ·refine sr (qt r0 (eqi (k:=.i64) (a:=n) (b:=2) r0 r0) (tA (.bool (decide (n=2))) r0 (nn ?_)))
    refine cdd (p:=n=2) r0 (fun h6=>?_) (fun h6=>?_)
    ·refine sr (qt r0 (fa 3 fo53_2 r0) (qt r0 (lG [I ak,(Z10 Aaq aq caq),Str an,I apt] hs2 0 r0 ag43) (qt r0 (bdv (v:=.agg #[I 1,I ak,(Z10 Aaq aq caq),Str an,I apt]) [(0,I 1),(1,.agg #[I ak,(Z10 Aaq aq caq),Str an,I apt])] r0 (fun _=>by kernel_rfl)) (cL r0 (sRequestBytes (n:=1) (ak:=ak) (Aaq:=Aaq) (caq:=caq) (aq:=aq) (an:=an) (apt:=apt) (w:=_) (haq:=(haq.up0 hs2)) (han_n:=(by omega))) ?_))))
     rintro _ w6 ⟨A3,c3,rfl,hs6⟩
     replace hs6:=hs2.call0 hs6
     refine qt r0 (xt 0 (v:=.slice A3 (((reqP 1 ak aq an apt).1).length) c3) r0 r0) (qt r0 (xt 1 (v:=.bool ((reqP 1 ak aq an apt).2)) r0 r0) (tA (.slice A3 (((reqP 1 ak aq an apt).1).length) c3) r0 (tA (.bool ((reqP 1 ak aq an apt).2)) r0 (nn ?_))))
     refine rt (bR (tR ?_))
     refine fret (v:=.tuple #[.slice A3 (((reqP 1 ak aq an apt).1).length) c3,.bool ((reqP 1 ak aq an apt).2)]) (.tmp (.tmp .nil)) r0 ?_
     have e13:sayP ms lu lw ak aq an apt n=((reqP 1 ak aq an apt).1,((reqP 1 ak aq an apt).2)):=by simp[sayP,h3,h4,h5,h6]
     have e14:=pj1 e13
     have e15:=congrArg List.length e14
     have e16:=pj2 e13
     exact⟨A3,c3,(tup2 (slv r0 e15 r0) (congrArg (Value.bool) e16)),((hs6.pq [1] r0).cast (lc (own_eq (g:=I) r0 e15 r0 e14) r0))⟩
    ·refine sk (bN (nN (sr (bsk hs2 sl22 [] [] trivial r0 (fun b3 w7 hs7=>?_)))))
     refine tA (sb b3 (([]:List Int).length) 0) r0 (tA (.bool false) r0 (nn (rt (fret (v:=.tuple #[sb b3 (([]:List Int).length) 0,.bool false]) (.tmp (.tmp .nil)) r0 ?_))))
     have e17:sayP ms lu lw ak aq an apt n=(([]:List Int),false):=by simp[sayP,h3,h4,h5,h6]
     have e18:=pj1 e17
     have e19:=congrArg List.length e18
     have e20:=pj2 e17
     exact⟨(Z6 b3),0,(tup2 (slv r0 e19 r0) (congrArg (Value.bool) e20)),((hs7.pq [1] r0).cast (lc (own_eq (g:=I) r0 e19 r0 e18) r0))⟩
theorem stItoa (n:Int) (w:World) (hn: -9223372036854775808≤n∧n≤9223372036854775807) (hGp:VarP Tryz.prog w [] "internal/strconv.uint64pow10" isPow):Does Tryz.prog 125 [I n] w (fun v w'=>v=Str (Lib.itoa n)∧SH w w' [] []):=by
 exact does_grow ⟨_,_,Tryz.func125,by kernel_rfl,rfl⟩ r0 (Tryz.strconv_Itoa n hn.1 hn.2 w hGp.tab)
theorem stJoin {bxs:Nat} {cxs:Nat} (xs:List (List UInt8)) (m:List UInt8) (w:World) (hxs:Sl w [] 1 (some ⟨bxs,0,none⟩) xs.length cxs (xs.map Str)) (hxs_n:xs.length≤1099511627776) (hl:(Lib.join xs m).length≤140737488355328):Does Tryz.prog 178 [sb bxs xs.length cxs,Str m] w (fun v w'=>v=Str (Lib.join xs m)∧SH w w' [] []):=by
 exact does_join ⟨_,_,Tryz.func178,by kernel_rfl,rfl⟩ Tryz.strings_Join_none Tryz.strings_Join hxs hxs_n hl
set_option maxHeartbeats 8000000 in
theorem l6DecStep (n:Int) (w:World) (hn:0≤n∧n≤9223372036854775807) (ih: ∀ (m:Int) (w:World),0≤m→m<n→Does Tryz.prog 148 [I m] w (fun v w'=>v=Str (Lib.itoa m)∧SH w w' [] [])):Does Tryz.prog 148 [I n] w (fun v w'=>v=Str (Lib.itoa n)∧SH w w' [] []):=by
 refine fE (N:=28) Tryz.func148 r0 (by kernel_rfl) r0 ?_
 have hs0:=SH.refl w []
 refine sr (tA (Str []) r0 (nn (sq (sr ?_))))
 refine tm (I n) r0 (qt r0 (lss (k:=.i64) (a:=n) (b:=(-9223372036854775807)) r0 r0) (nn ?_))
 refine cdd (p:=n<(-9223372036854775807)) r0 (fun h1=>absurd h1 (by omega)) (fun h1=>?_)
 refine sk (nN (sq (sr (tm (I n) r0 (qt r0 (lss (k:=.i64) (a:=n) (b:=0) r0 r0) (nl ?_))))))
 refine nN ?_
 refine cdd (p:=n<0) r0 (fun h2=>absurd h2 (by omega)) (fun h2=>?_)
 refine sk (nN (sq (sr (tm (I n) r0 (qt r0 (lss (k:=.i64) (a:=n) (b:=10) r0 r0) (nl ?_))))))
 refine nN ?_
 refine cdd (p:=n<10) r0 (fun h3=>?_) (fun h3=>?_)
 ·refine sr (tm (I n) r0 (qt r0 (add (a:=48) (b:=n) r0 r0 (by(exact⟨by omega,by omega⟩))) (qt r0 (cvB (a:=48+n) (s:=.i64) ti3 ti5 r0 (by(omega)) (by(omega))) (bsk hs0 sl39 [.int .u8 (((UInt8.ofNat (48+n).toNat).toNat:Nat):Int)] [.int .u8 (((UInt8.ofNat (48+n).toNat).toNat:Nat):Int)] trivial r0 (fun b1 w1 hs1=>?_)))))
  refine qt r0 (cvS (l:=([(UInt8.ofNat (48+n).toNat)]:List UInt8)) us39 ti5 st9 r0 (hs1.sl0 0 r0)) (tA (Str ([(UInt8.ofNat (48+n).toNat)]:List UInt8)) r0 (nn (rt (tR ?_))))
  refine fT (Str ([(UInt8.ofNat (48+n).toNat)]:List UInt8)) r0 ?_
  have e1:([(UInt8.ofNat (48+n).toNat)]:List UInt8)=Lib.itoa n:=by exact decDigits_small (by omega) (by omega)
  exact⟨(congrArg (Str) e1),(hs1.pk [] r0)⟩
 ·refine sk (nN (sq ?_))
  refine raJ (fun w'=>∃ L,SH w w' [] L∧True) (fun f w'=>∃ (b7':Nat),Hz f [(2,Str ((Lib.itoa (n / 10))++([(UInt8.ofNat (48+(n % 10)).toNat)]:List UInt8)))]∧SH w w' [] [.own (Z6 b7') (([(UInt8.ofNat (48+(n % 10)).toNat)]:List UInt8).length) 1 5 1 (([(UInt8.ofNat (48+(n % 10)).toNat)]:List UInt8).map U)]) mixed ?_ ?_
  ·refine dG 3 11 255 (fun f w'=>∃ (b7':Nat),Hz f [(2,Str []),(20,Str (Lib.itoa (n / 10))),(25,sb b7' (([(UInt8.ofNat (48+(n % 10)).toNat)]:List UInt8).length) 1)]∧SH w w' [] [.own (Z6 b7') (([(UInt8.ofNat (48+(n % 10)).toNat)]:List UInt8).length) 1 5 1 (([(UInt8.ofNat (48+(n % 10)).toNat)]:List UInt8).map U)]) ?_ (fun D_7_0=>?_)
   ·rintro f w2 ⟨b7',⟨g1,rfl⟩,hs2⟩
    refine aO 8 r0 (qt r0 (cvS (l:=([(UInt8.ofNat (48+(n % 10)).toNat)]:List UInt8)) us39 ti5 st9 r0 (hs2.sl0 0 r0)) (nk ⟨_,hs2,trivial⟩ ?_))
    refine tk (fuel:=0) (is:=[9,10]) (.cons r0 (.cons r0 (.nil))) (by kernel_rfl) (by kernel_rfl) ⟨_,hs2,trivial⟩ (yA r0 (cat (l:=Lib.itoa (n / 10)) (m:=([(UInt8.ofNat (48+(n % 10)).toNat)]:List UInt8)) r0 r0 (by(have hdl:=Lib.itoa_length_le (n / 10) (by omega) (by omega); (simp; omega)))) (yA r0 (asg (v:=Str ((Lib.itoa (n / 10))++([(UInt8.ofNat (48+(n % 10)).toNat)]:List UInt8))) r0) (.nil (ad (by kernel_rfl) ?_))))
    exact⟨b7',(zR r0),hs2⟩
   refine dG 3 11 507 (fun f w'=>∃ (b7':Nat),Hz f [(2,Str []),(19,I (n / 10)),(26,Str ([(UInt8.ofNat (48+(n % 10)).toNat)]:List UInt8))]∧SH w w' [] [.own (Z6 b7') (([(UInt8.ofNat (48+(n % 10)).toNat)]:List UInt8).length) 1 5 1 (([(UInt8.ofNat (48+(n % 10)).toNat)]:List UInt8).map U)]) ?_ (fun D_7_1=>?_)
   ·rintro f w3 ⟨b7',⟨g2,rfl⟩,hs3⟩
    refine aO 2 r0 (cL r0 (ih (n / 10) _ (by(omega)) (by(omega))) ?_)
    rintro _ w4 ⟨rfl,hs4⟩
    replace hs4:=hs3.call0 hs4
    refine nk ⟨_,hs4,trivial⟩ ?_
    refine tk (fuel:=0) (is:=[9,10]) (.cons r0 (.cons r0 (.nil))) (by kernel_rfl) (by kernel_rfl) ⟨_,hs4,trivial⟩ (yA r0 (cat (l:=Lib.itoa (n / 10)) (m:=([(UInt8.ofNat (48+(n % 10)).toNat)]:List UInt8)) r0 r0 (by(have hdl:=Lib.itoa_length_le (n / 10) (by omega) (by omega); (simp; omega)))) (yA r0 (asg (v:=Str ((Lib.itoa (n / 10))++([(UInt8.ofNat (48+(n % 10)).toNat)]:List UInt8))) r0) (.nil (ad (by kernel_rfl) ?_))))
    exact⟨b7',(zR r0),hs4⟩
   refine dG 4 11 127 (fun f w'=>Hz f [(2,Str []),(20,Str (Lib.itoa (n / 10))),(24,.int .u8 (((UInt8.ofNat (48+(n % 10)).toNat).toNat:Nat):Int))]∧SH w w' [] []) ?_ (fun D_7_2=>?_)
   ·rintro f w5 ⟨⟨g3,rfl⟩,hs5⟩
    refine aO 7 r0 (bsk hs5 sl39 [.int .u8 (((UInt8.ofNat (48+(n % 10)).toNat).toNat:Nat):Int)] [.int .u8 (((UInt8.ofNat (48+(n % 10)).toNat).toNat:Nat):Int)] trivial r0 (fun b7' w6 hs6=>?_))
    exact nk ⟨_,hs6,trivial⟩ (alc D_7_0 ⟨b7',(zR r0),hs6⟩)
   refine dG 4 11 251 (fun f w'=>∃ (b7':Nat),Hz f [(2,Str []),(19,I (n / 10)),(25,sb b7' (([(UInt8.ofNat (48+(n % 10)).toNat)]:List UInt8).length) 1)]∧SH w w' [] [.own (Z6 b7') (([(UInt8.ofNat (48+(n % 10)).toNat)]:List UInt8).length) 1 5 1 (([(UInt8.ofNat (48+(n % 10)).toNat)]:List UInt8).map U)]) ?_ (fun D_7_3=>?_)
   ·rintro f w7 ⟨b7',⟨g4,rfl⟩,hs7⟩
    refine aaL [2,8] (fa_cons ?_ (fa_one ?_))
    ·refine one_ r0 (cL r0 (ih (n / 10) _ (by(omega)) (by(omega))) ?_)
     rintro _ w8 ⟨rfl,hs8⟩
     replace hs8:=hs7.call0 hs8
     exact nk ⟨_,hs8,trivial⟩ (alc D_7_0 ⟨b7',(zR r0),hs8⟩)
    ·refine one_ r0 (qt r0 (cvS (l:=([(UInt8.ofNat (48+(n % 10)).toNat)]:List UInt8)) us39 ti5 st9 r0 (hs7.sl0 0 r0)) ?_)
     exact nk ⟨_,hs7,trivial⟩ (alc D_7_1 ⟨b7',(zR r0),hs7⟩)
   refine dG 5 11 123 (fun f w'=>Hz f [(2,Str []),(19,I (n / 10)),(24,.int .u8 (((UInt8.ofNat (48+(n % 10)).toNat).toNat:Nat):Int))]∧SH w w' [] []) ?_ (fun D_7_4=>?_)
   ·rintro f w9 ⟨⟨g5,rfl⟩,hs9⟩
    refine aaL [2,7] (fa_cons ?_ (fa_one ?_))
    ·refine one_ r0 (cL r0 (ih (n / 10) _ (by(omega)) (by(omega))) ?_)
     rintro _ w10 ⟨rfl,hs10⟩
     replace hs10:=hs9.call0 hs10
     exact nk ⟨_,hs10,trivial⟩ (alc D_7_2 ⟨(zR r0),hs10⟩)
    ·refine one_ r0 (bsk hs9 sl39 [.int .u8 (((UInt8.ofNat (48+(n % 10)).toNat).toNat:Nat):Int)] [.int .u8 (((UInt8.ofNat (48+(n % 10)).toNat).toNat:Nat):Int)] trivial r0 (fun b7' w11 hs11=>?_))
     exact nk ⟨_,hs11,trivial⟩ (alc D_7_3 ⟨b7',(zR r0),hs11⟩)
   have hs12:=hs0.drew
   refine tk (fuel:=5) (is:=[0,1,3,4,5,6]) (.cons r0 (.cons r0 (.cons r0 (.cons r0 (.cons r0 (.cons r0 (.nil))))))) (by kernel_rfl) (by kernel_rfl) ⟨_,hs12,trivial⟩ (yA r0 (mv (v:=I n) r0) (yA r0 (quo (a:=n) (b:=10) r0 r0 (by(omega)) (by(omega)) (by(omega))) (yA r0 (mv (v:=I n) r0) (yA r0 (rem (a:=n) (b:=10) r0 r0 (by(omega)) (by(omega))) (yA r0 (add (a:=48) (b:=n % 10) r0 r0 (by(exact⟨by omega,by omega⟩))) (yA r0 (cvB (a:=48+(n % 10)) (s:=.i64) ti3 ti5 r0 (by(omega)) (by(omega))) (.nil ?_)))))))
   exact alc D_7_4 ⟨(zR r0),hs12⟩
  rintro f w12 ⟨b7',⟨g6,rfl⟩,hs13⟩
  refine nN (rt (fT (Str ((Lib.itoa (n / 10))++([(UInt8.ofNat (48+(n % 10)).toNat)]:List UInt8))) r0 ?_))
  have e2:(Lib.itoa (n / 10))++([(UInt8.ofNat (48+(n % 10)).toNat)]:List UInt8)=Lib.itoa n:=by exact decDigits_big (by omega)
  exact⟨(congrArg (Str) e2),(hs13.pk [] r0)⟩
theorem l6Dec (n:Int) (w:World) (hn:0≤n∧n≤9223372036854775807):Does Tryz.prog 148 [I n] w (fun v w'=>v=Str (Lib.itoa n)∧SH w w' [] []):=by
 have key: ∀ (j:Nat) (n:Int) (w:World),n.toNat=j→0≤n→n≤9223372036854775807→Does Tryz.prog 148 [I n] w (fun v w'=>v=Str (Lib.itoa n)∧SH w w' [] []):=by
  intro j
  induction j using Nat.strongRecOn with
  | _ j ih=>
   intro n w hj h0 h1
   exact l6DecStep n w ⟨h0,h1⟩ (fun m w hm0 hmn=>ih m.toNat (by omega) m w r0 hm0 (by omega))
 exact key _ n w r0 hn.1 hn.2
theorem iQuadText {Aqs:Option Addr} {cqs:Nat} (qs:List Int) (w:World) (hqs:Sl w [] 1 Aqs qs.length cqs (qs.map I)) (hq:quadOk qs=true) (hGp:VarP Tryz.prog w [] "internal/strconv.uint64pow10" isPow):Does Tryz.prog 157 [.slice Aqs qs.length cqs] w (fun v w'=>v=Str (quadT qs)∧SH w w' [] []):=by
 refine fE (N:=24) Tryz.func157 r0 (by kernel_rfl) r0 ?_
 have hs0:=SH.refl w []
 have hqs_m:qs.length≤9223372036854775807:=Nat.le_trans hqs.cap hqs.capMax
 refine sr (tA (Str []) r0 (nx (tm (Z13 Aqs qs cqs) r0 ?_)))
 refine qt r0 (lnA (n:=qs.length) sl22 r0) (mkm (g:=Str) (z:=[]) (n:=qs.length) hs0 sl147 r0 r0 r0 (by(have hq4:=quadOk_len hq; omega)) (by unfold maxLen; (omega)) trivial r0 (fun b1 w1 hs1=>?_))
 refine tA (sb b1 ((List.replicate qs.length ([]:List UInt8)).length) qs.length) r0 (nn (sq (sr (tm (Z13 Aqs qs cqs) r0 (qt r0 (lnA (n:=qs.length) sl22 r0) ?_)))))
 refine tm (I 0) r0 (nn (bl ?_))
 have e1:List.replicate qs.length ([]:List UInt8)=(qs.map Lib.itoa).take 0++List.replicate (qs.length-0) ([]:List UInt8):=by simp
 have e2:(List.replicate qs.length ([]:List UInt8)).length=qs.length:=by(first | rfl | (simp; done) | (simp; omega) | omega)
 refine lp (σ:=Nat) (fun(k:Nat) f w'=>Hz f [(3,sb b1 qs.length qs.length),(9,.slice Aqs qs.length cqs),(10,I (qs.length:Int)),(11,I (k:Int))]∧(k≤qs.length)∧SH w w' [] [.own (Z6 b1) qs.length qs.length 9 1 (((qs.map Lib.itoa).take k++List.replicate (qs.length-k) ([]:List UInt8)).map Str)]) (fun k=>qs.length-k) 0 ⟨(zH ⟨(show (.slice (Z6 b1) ((List.replicate qs.length ([]:List UInt8)).length) qs.length:Value)=.slice (Z6 b1) qs.length qs.length from slv r0 e2 r0),rfl,rfl,rfl,trivial⟩),(by simp),(hs1.cast (lc (own_eq (g:=Str) r0 e2 r0 e1) r0))⟩ ?_
 rintro k f w2 ⟨⟨g1,rfl⟩,hk,hs2⟩
 refine sr (qt r0 (lss (k:=.i64) (a:=(k:Int)) (b:=(qs.length:Int)) r0 r0) (nn (sq ?_)))
 refine cdd (p:=(k:Int)<(qs.length:Int)) r0 (fun h1=>?_) (fun h1=>?_)
 ·refine sk (nN (sq (bl (sr (tm (I (k:Int)) r0 (ixw1 k sl22 r0 r0 hqs (by(omega)) (getm I 0 (by(omega))) trivial r0 (fun a1 ha1=>?_)))))))
  refine qt r0 (lda (v:=I (qs.getD k 0)) hs2 ha1 (fun _ h=>h) r0 r0 one3) (tA (I (k:Int)) r0 (tA (I (qs.getD k 0)) r0 (nn (rg (tm (sb b1 qs.length qs.length) r0 (tm (I (k:Int)) r0 ?_))))))
  refine tm (I (qs.getD k 0)) r0 (cL r0 (stItoa (n:=qs.getD k 0) (w:=_) (hn:=(by have hy:=quad_get hq (k:=k) (by omega); omega)) (hGp:=(hGp.up0 hs2))) ?_)
  rintro _ w3 ⟨rfl,hs3⟩
  replace hs3:=hs2.call0 hs3
  refine qt r0 (ixo k sl147 r0 r0 (by(omega))) (stomn (g:=Str) (ys:=(qs.map Lib.itoa).take k++List.replicate (qs.length-k) ([]:List UInt8)) (o:=k) (u:=Lib.itoa (qs.getD k 0)) hs3 0 r0 r0 r0 r0 (by(omega)) r0 one9 trivial (fun w4 hs4=>?_))
  refine nl (bN (nN (rg (qt r0 (add (a:=(k:Int)) (b:=1) r0 r0 (by(exact⟨by omega,by omega⟩))) (tm (I ((k:Int)+1)) r0 (nn ?_))))))
  have e3:((qs.map Lib.itoa).take k++List.replicate (qs.length-k) ([]:List UInt8)).set k (Lib.itoa (qs.getD k 0))=(qs.map Lib.itoa).take (k+1)++List.replicate (qs.length-(k+1)) ([]:List UInt8):=by exact quad_set (by omega)
  refine⟨(k+1),⟨(zR r0),(by omega),(hs4.cast (lc (own_eq (g:=Str) r0 r0 r0 e3) r0))⟩,?_⟩
  omega
 ·refine ex (tE (tE (bE ?_)))
  refine nN (sr (tm (sb b1 qs.length qs.length) r0 ?_))
  have e4:qs.length=((qs.map Lib.itoa).take k++List.replicate (qs.length-k) ([]:List UInt8)).length:=by(simp; omega)
  have hs5:SH w w2 [] [.own (Z6 b1) (((qs.map Lib.itoa).take k++List.replicate (qs.length-k) ([]:List UInt8)).length) qs.length 9 1 (((qs.map Lib.itoa).take k++List.replicate (qs.length-k) ([]:List UInt8)).map Str)]:=(hs2.cast (lc (own_eq (g:=Str) r0 e4 r0 r0) r0))
  refine cL r0 (Does.castA (lc (slv r0 e4.symm r0) (lc r0 r0)) (stJoin (bxs:=b1) (cxs:=qs.length) (xs:=(qs.map Lib.itoa).take k++List.replicate (qs.length-k) ([]:List UInt8)) (m:=[46]) (w:=_) (hxs:=(hs5.sl0 0 r0)) (hxs_n:=(by(have hq4:=quadOk_len hq; omega))) (hl:=(by rw[quad_whole (by omega)]; exact Nat.le_trans (quadT_len hq) (by decide:87≤140737488355328))))) ?_
  rintro _ w5 ⟨rfl,hs6⟩
  replace hs6:=hs5.call0 hs6
  refine tA (Str (Lib.join ((qs.map Lib.itoa).take k++List.replicate (qs.length-k) ([]:List UInt8)) [46])) r0 (nn (rt (fT (Str (Lib.join ((qs.map Lib.itoa).take k++List.replicate (qs.length-k) ([]:List UInt8)) [46])) r0 ?_)))
  have e5:Lib.join ((qs.map Lib.itoa).take k++List.replicate (qs.length-k) ([]:List UInt8)) [46]=quadT qs:=by rw[quad_whole (by omega)]; rfl
  exact⟨(congrArg (Str) e5),(hs6.pk [] r0)⟩
theorem sL2Quad {Aqs:Option Addr} {cqs:Nat} (qs:List Int) (w:World) (hqs:Sl w [] 1 Aqs qs.length cqs (qs.map I)) (hq:quadOk qs=true):Does Tryz.prog 172 [.slice Aqs qs.length cqs] w (fun v w'=>v=Str (quadT qs)∧SH w w' [] []):=by
 refine fE (N:=25) Tryz.func172 r0 (by kernel_rfl) r0 ?_
 have hs0:=SH.refl w []
 have hqs_m:qs.length≤9223372036854775807:=Nat.le_trans hqs.cap hqs.capMax
 refine sr (tA (Str []) r0 (nn (sq (rq (fun w'=>SH w w' [] []) mixed (by kernel_rfl) hs0.drew (qA r0 (mv (v:=.slice Aqs qs.length cqs) r0) ?_)))))
 refine ixq1 0 sl22 r0 r0 hqs (by(have hq4:=quadOk_len hq; have g0:=itoa_b (quad_get hq (k:=0) (by omega)); have g1:=itoa_b (quad_get hq (k:=1) (by omega)); have g2:=itoa_b (quad_get hq (k:=2) (by omega)); have g3:=itoa_b (quad_get hq (k:=3) (by omega)); omega)) (getm I 0 (by(have hq4:=quadOk_len hq; have g0:=itoa_b (quad_get hq (k:=0) (by omega)); have g1:=itoa_b (quad_get hq (k:=1) (by omega)); have g2:=itoa_b (quad_get hq (k:=2) (by omega)); have g3:=itoa_b (quad_get hq (k:=3) (by omega)); omega))) trivial r0 (fun a1 ha1=>?_)
 refine qB r0 (fun hsq=>lda (v:=I (qs.getD 0 0)) hsq ha1 (fun _ h=>h) r0 r0 one3) (qc (Str (Lib.itoa (qs.getD 0 0))) trivial r0 (fun wq hsq=>(l6Dec (n:=qs.getD 0 0) (w:=_) (hn:=(by have hq4:=quadOk_len hq; have g0:=quad_get hq (k:=0) (by omega); have g1:=quad_get hq (k:=1) (by omega); have g2:=quad_get hq (k:=2) (by omega); have g3:=quad_get hq (k:=3) (by omega); omega))).mono (fun v w' h=>⟨h.1,by simpa using hsq.call0 h.2⟩)) (qA r0 (cat (l:=Lib.itoa (qs.getD 0 0)) (m:=[46]) r0 r0 (by have hq4:=quadOk_len hq; have g0:=itoa_b (quad_get hq (k:=0) (by omega)); have g1:=itoa_b (quad_get hq (k:=1) (by omega)); have g2:=itoa_b (quad_get hq (k:=2) (by omega)); have g3:=itoa_b (quad_get hq (k:=3) (by omega)); simp only[List.length_append,List.length_cons,List.length_nil]; omega)) (qA r0 (mv (v:=.slice Aqs qs.length cqs) r0) (ixq1 1 sl22 r0 r0 hqs (by(have hq4:=quadOk_len hq; have g0:=itoa_b (quad_get hq (k:=0) (by omega)); have g1:=itoa_b (quad_get hq (k:=1) (by omega)); have g2:=itoa_b (quad_get hq (k:=2) (by omega)); have g3:=itoa_b (quad_get hq (k:=3) (by omega)); omega)) (getm I 0 (by(have hq4:=quadOk_len hq; have g0:=itoa_b (quad_get hq (k:=0) (by omega)); have g1:=itoa_b (quad_get hq (k:=1) (by omega)); have g2:=itoa_b (quad_get hq (k:=2) (by omega)); have g3:=itoa_b (quad_get hq (k:=3) (by omega)); omega))) trivial r0 (fun a2 ha2=>?_)))))
 refine qB r0 (fun hsq=>lda (v:=I (qs.getD 1 0)) hsq ha2 (fun _ h=>h) r0 r0 one3) (qc (Str (Lib.itoa (qs.getD 1 0))) trivial r0 (fun wq hsq=>(l6Dec (n:=qs.getD 1 0) (w:=_) (hn:=(by have hq4:=quadOk_len hq; have g0:=quad_get hq (k:=0) (by omega); have g1:=quad_get hq (k:=1) (by omega); have g2:=quad_get hq (k:=2) (by omega); have g3:=quad_get hq (k:=3) (by omega); omega))).mono (fun v w' h=>⟨h.1,by simpa using hsq.call0 h.2⟩)) (qA r0 (cat (l:=(Lib.itoa (qs.getD 0 0))++[46]) (m:=Lib.itoa (qs.getD 1 0)) r0 r0 (by have hq4:=quadOk_len hq; have g0:=itoa_b (quad_get hq (k:=0) (by omega)); have g1:=itoa_b (quad_get hq (k:=1) (by omega)); have g2:=itoa_b (quad_get hq (k:=2) (by omega)); have g3:=itoa_b (quad_get hq (k:=3) (by omega)); simp only[List.length_append,List.length_cons,List.length_nil]; omega)) (qA r0 (cat (l:=((Lib.itoa (qs.getD 0 0))++[46])++(Lib.itoa (qs.getD 1 0))) (m:=[46]) r0 r0 (by have hq4:=quadOk_len hq; have g0:=itoa_b (quad_get hq (k:=0) (by omega)); have g1:=itoa_b (quad_get hq (k:=1) (by omega)); have g2:=itoa_b (quad_get hq (k:=2) (by omega)); have g3:=itoa_b (quad_get hq (k:=3) (by omega)); simp only[List.length_append,List.length_cons,List.length_nil]; omega)) (qA r0 (mv (v:=.slice Aqs qs.length cqs) r0) (ixq1 2 sl22 r0 r0 hqs (by(have hq4:=quadOk_len hq; have g0:=itoa_b (quad_get hq (k:=0) (by omega)); have g1:=itoa_b (quad_get hq (k:=1) (by omega)); have g2:=itoa_b (quad_get hq (k:=2) (by omega)); have g3:=itoa_b (quad_get hq (k:=3) (by omega)); omega)) (getm I 0 (by(have hq4:=quadOk_len hq; have g0:=itoa_b (quad_get hq (k:=0) (by omega)); have g1:=itoa_b (quad_get hq (k:=1) (by omega)); have g2:=itoa_b (quad_get hq (k:=2) (by omega)); have g3:=itoa_b (quad_get hq (k:=3) (by omega)); omega))) trivial r0 (fun a3 ha3=>?_))))))
 refine qB r0 (fun hsq=>lda (v:=I (qs.getD 2 0)) hsq ha3 (fun _ h=>h) r0 r0 one3) (qc (Str (Lib.itoa (qs.getD 2 0))) trivial r0 (fun wq hsq=>(l6Dec (n:=qs.getD 2 0) (w:=_) (hn:=(by have hq4:=quadOk_len hq; have g0:=quad_get hq (k:=0) (by omega); have g1:=quad_get hq (k:=1) (by omega); have g2:=quad_get hq (k:=2) (by omega); have g3:=quad_get hq (k:=3) (by omega); omega))).mono (fun v w' h=>⟨h.1,by simpa using hsq.call0 h.2⟩)) (qA r0 (cat (l:=(((Lib.itoa (qs.getD 0 0))++[46])++(Lib.itoa (qs.getD 1 0)))++[46]) (m:=Lib.itoa (qs.getD 2 0)) r0 r0 (by have hq4:=quadOk_len hq; have g0:=itoa_b (quad_get hq (k:=0) (by omega)); have g1:=itoa_b (quad_get hq (k:=1) (by omega)); have g2:=itoa_b (quad_get hq (k:=2) (by omega)); have g3:=itoa_b (quad_get hq (k:=3) (by omega)); simp only[List.length_append,List.length_cons,List.length_nil]; omega)) (qA r0 (cat (l:=((((Lib.itoa (qs.getD 0 0))++[46])++(Lib.itoa (qs.getD 1 0)))++[46])++(Lib.itoa (qs.getD 2 0))) (m:=[46]) r0 r0 (by have hq4:=quadOk_len hq; have g0:=itoa_b (quad_get hq (k:=0) (by omega)); have g1:=itoa_b (quad_get hq (k:=1) (by omega)); have g2:=itoa_b (quad_get hq (k:=2) (by omega)); have g3:=itoa_b (quad_get hq (k:=3) (by omega)); simp only[List.length_append,List.length_cons,List.length_nil]; omega)) (qA r0 (mv (v:=.slice Aqs qs.length cqs) r0) (ixq1 3 sl22 r0 r0 hqs (by(have hq4:=quadOk_len hq; have g0:=itoa_b (quad_get hq (k:=0) (by omega)); have g1:=itoa_b (quad_get hq (k:=1) (by omega)); have g2:=itoa_b (quad_get hq (k:=2) (by omega)); have g3:=itoa_b (quad_get hq (k:=3) (by omega)); omega)) (getm I 0 (by(have hq4:=quadOk_len hq; have g0:=itoa_b (quad_get hq (k:=0) (by omega)); have g1:=itoa_b (quad_get hq (k:=1) (by omega)); have g2:=itoa_b (quad_get hq (k:=2) (by omega)); have g3:=itoa_b (quad_get hq (k:=3) (by omega)); omega))) trivial r0 (fun a4 ha4=>?_))))))
 refine qB r0 (fun hsq=>lda (v:=I (qs.getD 3 0)) hsq ha4 (fun _ h=>h) r0 r0 one3) (qc (Str (Lib.itoa (qs.getD 3 0))) trivial r0 (fun wq hsq=>(l6Dec (n:=qs.getD 3 0) (w:=_) (hn:=(by have hq4:=quadOk_len hq; have g0:=quad_get hq (k:=0) (by omega); have g1:=quad_get hq (k:=1) (by omega); have g2:=quad_get hq (k:=2) (by omega); have g3:=quad_get hq (k:=3) (by omega); omega))).mono (fun v w' h=>⟨h.1,by simpa using hsq.call0 h.2⟩)) (qA r0 (cat (l:=(((((Lib.itoa (qs.getD 0 0))++[46])++(Lib.itoa (qs.getD 1 0)))++[46])++(Lib.itoa (qs.getD 2 0)))++[46]) (m:=Lib.itoa (qs.getD 3 0)) r0 r0 (by have hq4:=quadOk_len hq; have g0:=itoa_b (quad_get hq (k:=0) (by omega)); have g1:=itoa_b (quad_get hq (k:=1) (by omega)); have g2:=itoa_b (quad_get hq (k:=2) (by omega)); have g3:=itoa_b (quad_get hq (k:=3) (by omega)); simp only[List.length_append,List.length_cons,List.length_nil]; omega)) (qA r0 (asg (v:=Str (((((((Lib.itoa (qs.getD 0 0))++[46])++(Lib.itoa (qs.getD 1 0)))++[46])++(Lib.itoa (qs.getD 2 0)))++[46])++(Lib.itoa (qs.getD 3 0)))) r0) (qn (fun w1 hs1=>?_)))))
 refine nN (rt (fT (Str (((((((Lib.itoa (qs.getD 0 0))++[46])++(Lib.itoa (qs.getD 1 0)))++[46])++(Lib.itoa (qs.getD 2 0)))++[46])++(Lib.itoa (qs.getD 3 0)))) r0 ?_))
 have e1:((((((Lib.itoa (qs.getD 0 0))++[46])++(Lib.itoa (qs.getD 1 0)))++[46])++(Lib.itoa (qs.getD 2 0)))++[46])++(Lib.itoa (qs.getD 3 0))=quadT qs:=by exact(quadT_eq (quadOk_len hq)).symm
 exact⟨(congrArg (Str) e1),hs1⟩
theorem iHostText (ak:Int) {Aaq:Option Addr} {caq:Nat} (aq:List Int) (an:List UInt8) (apt:Int) (w:World) (haq:Sl w [] 1 Aaq aq.length caq (aq.map I)) (han_n:an.length≤1099511627776) (hok:addrOk ak aq an apt=true) (hGp:VarP Tryz.prog w [] "internal/strconv.uint64pow10" isPow):Does Tryz.prog 124 [.agg #[I ak,.slice Aaq aq.length caq,Str an,I apt]] w (fun v w'=>v=Str (hostT ak aq an)∧SH w w' [] []):=by
 refine fE (N:=11) Tryz.func124 r0 (by kernel_rfl) r0 ?_
 have hs0:=SH.refl w []
 have haq_m:aq.length≤9223372036854775807:=Nat.le_trans haq.cap haq.capMax
 refine sr (bx (v:=.agg #[I ak,(Z10 Aaq aq caq),Str an,I apt]) (cs:=[I ak,(Z10 Aaq aq caq),Str an,I apt]) hs0 r0 r0 trivial r0 (fun b1 w1 hs1=>?_))
 refine tA (Str []) r0 (nn (sq (sr (qt r0 (fa 0 fo43_0 r0) (qt r0 (lD (I ak) hs1 0 r0 one3) ?_)))))
 refine qt r0 (eqi (k:=.i64) (a:=ak) (b:=1) r0 r0) (nn ?_)
 refine cdd (p:=ak=1) r0 (fun h1=>?_) (fun h1=>?_)
 ·refine sr (qt r0 (fa 1 fo43_1 r0) (qt r0 (lD (Z13 Aaq aq caq) hs1 0 r0 one22) (cL r0 (iQuadText (Aqs:=Aaq) (cqs:=caq) (qs:=aq) (w:=_) (hqs:=(haq.up0 hs1)) (hq:=(by exact addr_quad hok ‹_›)) (hGp:=(hGp.up0 hs1))) ?_)))
  rintro _ w2 ⟨rfl,hs2⟩
  replace hs2:=hs1.call0 hs2
  refine tA (Str (quadT aq)) r0 (nn (rt (tR ?_)))
  refine fT (Str (quadT aq)) r0 ?_
  have e1:quadT aq=hostT ak aq an:=by simp[hostT,h1]
  exact⟨(congrArg (Str) e1),(hs2.pk [] r0)⟩
 ·refine sk (nN (sr (qt r0 (fa 2 fo43_2 r0) (qt r0 (lD (Str an) hs1 0 r0 one9) (tA (Str an) r0 (nl ?_))))))
  refine nN (rt (fT (Str an) r0 ?_))
  have e2:an=hostT ak aq an:=by simp[hostT,h1]
  exact⟨(congrArg (Str) e2),(hs1.pk [] r0)⟩
theorem sL3Host (ak:Int) {Aaq:Option Addr} {caq:Nat} (aq:List Int) (an:List UInt8) (apt:Int) (w:World) (haq:Sl w [] 1 Aaq aq.length caq (aq.map I)) (han_n:an.length≤1099511627776) (hok:addrOk ak aq an apt=true):Does Tryz.prog 147 [.agg #[I ak,.slice Aaq aq.length caq,Str an,I apt]] w (fun v w'=>v=Str (hostT ak aq an)∧SH w w' [] []):=by
 refine fE (N:=11) Tryz.func147 r0 (by kernel_rfl) r0 ?_
 have hs0:=SH.refl w []
 have haq_m:aq.length≤9223372036854775807:=Nat.le_trans haq.cap haq.capMax
 refine sr (bx (v:=.agg #[I ak,(Z10 Aaq aq caq),Str an,I apt]) (cs:=[I ak,(Z10 Aaq aq caq),Str an,I apt]) hs0 r0 r0 trivial r0 (fun b1 w1 hs1=>?_))
 refine tA (Str []) r0 (nn (sq (sr (qt r0 (fa 0 fo43_0 r0) (qt r0 (lD (I ak) hs1 0 r0 one3) ?_)))))
 refine qt r0 (eqi (k:=.i64) (a:=ak) (b:=1) r0 r0) (nn ?_)
 refine cdd (p:=ak=1) r0 (fun h1=>?_) (fun h1=>?_)
 ·refine sr (qt r0 (fa 1 fo43_1 r0) (qt r0 (lD (Z13 Aaq aq caq) hs1 0 r0 one22) (cL r0 (sL2Quad (Aqs:=Aaq) (cqs:=caq) (qs:=aq) (w:=_) (hqs:=(haq.up0 hs1)) (hq:=(by exact addr_quad hok ‹_›))) ?_)))
  rintro _ w2 ⟨rfl,hs2⟩
  replace hs2:=hs1.call0 hs2
  refine tA (Str (quadT aq)) r0 (nn (rt (tR ?_)))
  refine fT (Str (quadT aq)) r0 ?_
  have e1:quadT aq=hostT ak aq an:=by simp[hostT,h1]
  exact⟨(congrArg (Str) e1),(hs2.pk [] r0)⟩
 ·refine sk (nN (sr (qt r0 (fa 2 fo43_2 r0) (qt r0 (lD (Str an) hs1 0 r0 one9) (tA (Str an) r0 (nl ?_))))))
  refine nN (rt (fT (Str an) r0 ?_))
  have e2:an=hostT ak aq an:=by simp[hostT,h1]
  exact⟨(congrArg (Str) e2),(hs1.pk [] r0)⟩
theorem iAddressText (ak:Int) {Aaq:Option Addr} {caq:Nat} (aq:List Int) (an:List UInt8) (apt:Int) (w:World) (haq:Sl w [] 1 Aaq aq.length caq (aq.map I)) (han_n:an.length≤1099511627776) (hok:addrOk ak aq an apt=true) (hGp:VarP Tryz.prog w [] "internal/strconv.uint64pow10" isPow):Does Tryz.prog 63 [.agg #[I ak,.slice Aaq aq.length caq,Str an,I apt]] w (fun v w'=>v=Str (hostT ak aq an++[58]++Lib.itoa apt)∧SH w w' [] []):=by
 refine fE (N:=10) Tryz.func63 r0 (by kernel_rfl) r0 ?_
 have hs0:=SH.refl w []
 have haq_m:aq.length≤9223372036854775807:=Nat.le_trans haq.cap haq.capMax
 refine sr (bx (v:=.agg #[I ak,(Z10 Aaq aq caq),Str an,I apt]) (cs:=[I ak,(Z10 Aaq aq caq),Str an,I apt]) hs0 r0 r0 trivial r0 (fun b1 w1 hs1=>?_))
 refine tA (Str []) r0 (nn (sq (rq (fun w'=>SH w w' [] [.blk b1 43 [I ak,(Z10 Aaq aq caq),Str an,I apt]]) mixed (by kernel_rfl) hs1.drew (qB r0 (fun hsq=>lG [I ak,(Z10 Aaq aq caq),Str an,I apt] hsq 0 r0 ag43) (qc (Str (hostT ak aq an)) trivial r0 (fun wq hsq=>(iHostText (ak:=ak) (Aaq:=Aaq) (caq:=caq) (aq:=aq) (an:=an) (apt:=apt) (w:=_) (haq:=(haq.up0 hsq)) (han_n:=(by(omega))) (hok:=(by(first | omega | assumption | (simp; done) | (simp; omega)))) (hGp:=(hGp.up0 hsq))).mono (fun v w' h=>⟨h.1,by simpa using hsq.call0 h.2⟩)) (qA r0 (cat (l:=hostT ak aq an) (m:=[58]) r0 r0 (by have haf:=addrOk_fit hok; have hhl:=hostT_len hok; have hil:=Lib.itoa_length_le apt (by omega) (by omega); simp only[List.length_append,List.length_cons,List.length_nil]; omega)) ?_))))))
 refine qA r0 (fa 3 fo43_3 r0) (qB r0 (fun hsq=>lD (I apt) hsq 0 r0 one3) (qc (Str (Lib.itoa apt)) trivial r0 (fun wq hsq=>(stItoa (n:=apt) (w:=_) (hn:=(by(have haf:=addrOk_fit hok; have hhl:=hostT_len hok; have hil:=Lib.itoa_length_le apt (by omega) (by omega); first | omega | assumption | (simp; done) | (simp; omega)))) (hGp:=(hGp.up0 hsq))).mono (fun v w' h=>⟨h.1,by simpa using hsq.call0 h.2⟩)) (qA r0 (cat (l:=(hostT ak aq an)++[58]) (m:=Lib.itoa apt) r0 r0 (by have haf:=addrOk_fit hok; have hhl:=hostT_len hok; have hil:=Lib.itoa_length_le apt (by omega) (by omega); simp only[List.length_append,List.length_cons,List.length_nil]; omega)) (qA r0 (asg (v:=Str (((hostT ak aq an)++[58])++(Lib.itoa apt))) r0) (qn (fun w2 hs2=>?_))))))
 refine nN (rt (fT (Str (((hostT ak aq an)++[58])++(Lib.itoa apt))) r0 ?_))
 have e1:((hostT ak aq an)++[58])++(Lib.itoa apt)=hostT ak aq an++[58]++Lib.itoa apt:=by rfl
 exact⟨(congrArg (Str) e1),(hs2.pk [] r0)⟩
theorem slEqual {Axs:Option Addr} {cxs:Nat} (xs:List Int) {Abs:Option Addr} {cbs:Nat} (bs:List Int) (w:World) (hxs:Sl w [] 1 Axs xs.length cxs (xs.map I)) (hbs:Sl w [] 1 Abs bs.length cbs (bs.map I)):Does Tryz.prog 152 [.slice Axs xs.length cxs,.slice Abs bs.length cbs] w (fun v w'=>v=.bool (decide (xs=bs))∧SH w w' [] []):=by
 refine fE (N:=26) Tryz.func152 r0 (by kernel_rfl) r0 ?_
 have hs0:=SH.refl w []
 have hxs_m:xs.length≤9223372036854775807:=Nat.le_trans hxs.cap hxs.capMax
 have hbs_m:bs.length≤9223372036854775807:=Nat.le_trans hbs.cap hbs.capMax
 refine sr (tA (.bool false) r0 (nn (sq (sr ?_))))
 refine tm (Z13 Axs xs cxs) r0 (qt r0 (lnA (n:=xs.length) sl22 r0) (tm (Z13 Abs bs cbs) r0 (qt r0 (lnA (n:=bs.length) sl22 r0) (qt r0 (nei (k:=.i64) (a:=(xs.length:Int)) (b:=(bs.length:Int)) r0 r0) (nn ?_)))))
 refine cdd (p:=(xs.length:Int)≠(bs.length:Int)) r0 (fun h1=>?_) (fun h1=>?_)
 ·refine sr (tA (.bool false) r0 (nn (rt (tR ?_))))
  refine fT (.bool false) r0 ?_
  have e1:false=(decide (xs=bs)):=by simp; intro h; subst h; exact h1 r0
  exact⟨(congrArg (Value.bool) e1),hs0⟩
 ·refine sk (nN (sq (sr (tm (Z13 Axs xs cxs) r0 (qt r0 (lnA (n:=xs.length) sl22 r0) (tm (I 0) r0 ?_))))))
  refine nn (bl (lp (σ:=Nat) (fun(k:Nat) f w'=>Hz f [(0,.slice Axs xs.length cxs),(1,.slice Abs bs.length cbs),(12,I (xs.length:Int)),(13,I (k:Int))]∧(xs.length=bs.length)∧(k≤xs.length)∧(xs.take k=bs.take k)∧SH w w' [] []) (fun k=>xs.length-k) 0 ⟨(zR r0),(by omega),(by simp),(by simp),hs0⟩ ?_))
  rintro k f w1 ⟨⟨g1,rfl⟩,hl,hk,ha,hs1⟩
  refine sr (qt r0 (lss (k:=.i64) (a:=(k:Int)) (b:=(xs.length:Int)) r0 r0) (nn (sq ?_)))
  refine cdd (p:=(k:Int)<(xs.length:Int)) r0 (fun h2=>?_) (fun h2=>?_)
  ·refine sk (nN (sq (bl (sr (tm (I (k:Int)) r0 (tA (I (k:Int)) r0 ?_))))))
   refine nn (sq (rq (fun w'=>SH w w' [] []) mixed (by kernel_rfl) hs1.drew (qA r0 (mv (v:=.slice Axs xs.length cxs) r0) (qA r0 (mv (v:=I (k:Int)) r0) (ixq1 k sl22 r0 r0 hxs (by omega) (getm I 0 (by omega)) trivial r0 (fun a1 ha1=>?_))))))
   refine qB r0 (fun hsq=>lda (v:=I (xs.getD k 0)) hsq ha1 (fun _ h=>h) r0 r0 one3) (qA r0 (mv (v:=.slice Abs bs.length cbs) r0) (qA r0 (mv (v:=I (k:Int)) r0) (ixq1 k sl22 r0 r0 hbs (by omega) (getm I 0 (by omega)) trivial r0 (fun a2 ha2=>?_))))
   refine qB r0 (fun hsq=>lda (v:=I (bs.getD k 0)) hsq ha2 (fun _ h=>h) r0 r0 one3) (qA r0 (nei (k:=.i64) (a:=xs.getD k 0) (b:=bs.getD k 0) r0 r0) (qn (fun w2 hs2=>?_)))
   refine nN ?_
   refine cdd (p:=(xs.getD k 0)≠(bs.getD k 0)) r0 (fun h3=>?_) (fun h3=>?_)
   ·refine sr (tA (.bool false) r0 (nn ?_))
    refine rt (bR (tR (tR (bR (tR ?_)))))
    refine fT (.bool false) r0 ?_
    have e2:false=(decide (xs=bs)):=by simp; intro h; subst h; exact h3 r0
    exact⟨(congrArg (Value.bool) e2),hs2⟩
   ·refine sk (bN (nN (rg (qt r0 (add (a:=(k:Int)) (b:=1) r0 r0 (by exact⟨by omega,by omega⟩)) (tm (I ((k:Int)+1)) r0 (nn ?_))))))
    refine⟨(k+1),⟨(zR r0),(hl),(by omega),(take_succ_eq (by omega) (by omega) ha (by simpa using h3)),hs2⟩,?_⟩
    omega
  ·refine ex (tE (tE (bE ?_)))
   refine nN (sr (tA (.bool true) r0 (nn (rt (fT (.bool true) r0 ?_)))))
   have e3:true=(decide (xs=bs)):=by simp; exact take_all_eq hl (by omega) ha
   exact⟨(congrArg (Value.bool) e3),hs1⟩

end Go.Proofs.YtjehmnojfpedjaaGreatDoor
