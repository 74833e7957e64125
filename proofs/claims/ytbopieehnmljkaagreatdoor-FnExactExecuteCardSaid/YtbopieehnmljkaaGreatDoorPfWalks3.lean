/-
  Part of the proofs over this seat: what each function of the program computes, function by function (the text is written by a program of this hand-in's own).
  Conditions: each theorem states its own.
-/
import Derived.Test.YtbopieehnmljkaaGreatDoorPfWalks2
namespace Go.Proofs.YtbopieehnmljkaaGreatDoor
open Go.PF
set_option maxRecDepth 100000
set_option linter.unusedSimpArgs false
set_option linter.unusedVariables false

theorem sPairValid (ka:Int) {Aqa:Option Addr} {cqa:Nat} (qa:List Int) (na:List UInt8) (pa:Int) (kb:Int) {Aqb:Option Addr} {cqb:Nat} (qb:List Int) (nb:List UInt8) (pb:Int) (w:World) (hqa:Sl w [] 1 Aqa qa.length cqa (qa.map I)) (hna_n:na.length≤1099511627776) (hqb:Sl w [] 1 Aqb qb.length cqb (qb.map I)) (hnb_n:nb.length≤1099511627776):Does Tryz.prog 190 [.agg #[I ka,.slice Aqa qa.length cqa,Str na,I pa,I kb,.slice Aqb qb.length cqb,Str nb,I pb]] w (fun v w'=>v=.bool (pairB ka qa na pa kb qb nb pb)∧SH w w' [] []):=by
 refine fE (N:=23) Tryz.func190 r0 (by kernel_rfl) r0 ?_
 have hs0:=SH.refl w []
 have hqa_m:qa.length≤9223372036854775807:=Nat.le_trans hqa.cap hqa.capMax
 have hqb_m:qb.length≤9223372036854775807:=Nat.le_trans hqb.cap hqb.capMax
 refine sr (bx (v:=.agg #[I ka,(Z4 Aqa qa cqa),Str na,I pa,I kb,(Z4 Aqb qb cqb),Str nb,I pb]) (cs:=[I ka,(Z4 Aqa qa cqa),Str na,I pa,I kb,(Z4 Aqb qb cqb),Str nb,I pb]) hs0 r0 r0 trivial r0 (fun b1 w1 hs1=>?_))
 refine tA Z6 r0 (nx (qt r0 (fa 0 fo112_0 r0) (qt r0 (lG [I ka,(Z4 Aqa qa cqa),Str na,I pa] hs1 0 r0 ag54) (cS hs1 r0 (sAddressValid _ _ _ _ _ (hqa.up0 hs1) (by omega)) (fun w2 hs2=>?_)))))
 refine tm (.bool (addrOk ka qa na pa)) r0 (spl 6 r0 (fun h1=>?_) (fun h1=>?_))
 ·refine qh r0 (fa 4 fo112_1 r0) (qh r0 (lG [I kb,(Z4 Aqb qb cqb),Str nb,I pb] hs2 0 r0 ag54) (cl ⟨_,rfl,rfl⟩ r0 (sAddressValid _ _ _ _ _ (hqb.up0 hs2) (by omega)) ?_))
  rintro _ w3 ⟨rfl,hs3⟩
  replace hs3:=hs2.call0 hs3
  refine qt r0 (pt (v:=.bool (addrOk kb qb nb pb)) r0 r0) (tm (.bool (addrOk kb qb nb pb)) r0 (spl 11 r0 (fun h2=>?_) (fun h2=>?_)))
  ·refine qh r0 (fa 0 fo112_0 r0) (qh r0 (fa 0 fo54_0 r0) (qh r0 (lD (I ka) hs3 0 r0 one3) (qh r0 (eqi r0 r0) (qt r0 (pt (v:=.bool (decide (ka=1))) r0 r0) (tm (Z88 ka) r0 (spd 17 r0 (fun h3=>?_) (fun h3=>?_)))))))
   ·refine qh r0 (fa 4 fo112_1 r0) (qh r0 (fa 0 fo54_0 r0) (qh r0 (lD (I kb) hs3 0 r0 one3) (qh r0 (eqi r0 r0) (qt r0 (pt (v:=.bool (decide (kb=1))) r0 r0) (tA (Z88 kb) r0 (nn (rt (fT (Z88 kb) r0 ?_))))))))
    have e1:(decide (kb=1))=pairB ka qa na pa kb qb nb pb:=by(simp[pairB]; intros; simp_all; done)
    exact⟨(congrArg (Value.bool) e1),(hs3.pk [] r0)⟩
   refine gf5 r0 (gf5 r0 (gf5 r0 (gf5 r0 (qt r0 (pf (v:=.bool false) r0 r0) (tA Z6 r0 (nn (rt (fT Z6 r0 ?_))))))))
   have e2:false=pairB ka qa na pa kb qb nb pb:=by(simp[pairB,h1,h2,h3]; done)
   exact⟨(congrArg (Value.bool) e2),(hs3.pk [] r0)⟩
  refine gf5 r0 (gf5 r0 (gf5 r0 (gf5 r0 (qt r0 (pf (v:=.bool false) r0 r0) (tm Z6 r0 (gf5 r0 (gf5 r0 (gf5 r0 (gf5 r0 (qt r0 (pf (v:=.bool false) r0 r0) (tA Z6 r0 (nn (rt (fT Z6 r0 ?_))))))))))))))
  have e3:false=pairB ka qa na pa kb qb nb pb:=by(simp[pairB,h1,h2]; done)
  exact⟨(congrArg (Value.bool) e3),(hs3.pk [] r0)⟩
 refine gf5 r0 (gf5 r0 (gf5 r0 (qt r0 (pf (v:=.bool false) r0 r0) (tm Z6 r0 (gf5 r0 (gf5 r0 (gf5 r0 (gf5 r0 (qt r0 (pf (v:=.bool false) r0 r0) (tm Z6 r0 (gf5 r0 (gf5 r0 (gf5 r0 (gf5 r0 (qt r0 (pf (v:=.bool false) r0 r0) (tA Z6 r0 (nn (rt (fT Z6 r0 ?_)))))))))))))))))))
 have e4:false=pairB ka qa na pa kb qb nb pb:=by(simp[pairB,h1]; done)
 exact⟨(congrArg (Value.bool) e4),(hs2.pk [] r0)⟩
theorem sL16Begin (w:World):Does Tryz.prog 147 [] w (fun v w'=>∃ Ar:Option Addr,∃ cr:Nat,v=.slice Ar headP.length cr∧SH w w' [] [.own Ar headP.length cr 3 1 (headP.map I)]):=by
 refine fE (N:=2) Tryz.func147 r0 (by kernel_rfl) r0 ?_
 have hs0:=SH.refl w []
 refine sr (tA ns r0 (nx (bsk hs0 sl24 Z80 Z80 trivial r0 (fun b1 w1 hs1=>?_))))
 refine tA (sb b1 (Z75.length) 14) r0 (nn (rt (fT (sb b1 (Z75.length) 14) r0 ?_)))
 have e1:Z75=headP:=by rfl
 have e2:=congrArg List.length e1
 exact⟨(Z8 b1),14,(slv r0 e2 r0),(hs1.cast (lc (own_eq (g:=I) r0 e2 r0 e1) r0))⟩
theorem iHeadStart (w:World):Does Tryz.prog 123 [] w (fun v w'=>∃ Ar:Option Addr,∃ cr:Nat,v=.slice Ar headP.length cr∧SH w w' [] [.own Ar headP.length cr 3 1 (headP.map I)]):=by
 refine fE (N:=2) Tryz.func123 r0 (by kernel_rfl) r0 ?_
 have hs0:=SH.refl w []
 refine sr (tA ns r0 (nx (bsk hs0 sl24 Z80 Z80 trivial r0 (fun b1 w1 hs1=>?_))))
 refine tA (sb b1 (Z75.length) 14) r0 (nn (rt (fT (sb b1 (Z75.length) 14) r0 ?_)))
 have e1:Z75=headP:=by rfl
 have e2:=congrArg List.length e1
 exact⟨(Z8 b1),14,(slv r0 e2 r0),(hs1.cast (lc (own_eq (g:=I) r0 e2 r0 e1) r0))⟩
theorem sL21Known (f:Bool) (k:Int) (w:World):Does Tryz.prog 98 [.bool f,I k] w (fun v w'=>v=.int .i64 (if f=true then k else 0)∧SH w w' [] []):=by
 refine fE (N:=7) Tryz.func98 r0 (by kernel_rfl) r0 ?_
 have hs0:=SH.refl w []
 refine sr (tA (I 0) r0 (nn (sq (sr (tm (.bool f) r0 (nn (cd r0 (fun h1=>?_) (fun h1=>?_))))))))
 ·exact sr (tm (I k) r0 (tA (I k) r0 (nn (rt (tR (fI r0 (by simp[h1]) hs0))))))
 exact sk (nN (sr (tA (I 0) r0 (nn (rt (fI r0 (by simp[h1]) hs0))))))
theorem sL16Same {Ab:Option Addr} {cb:Nat} (b:List Int) (w:World) (hb:Sl w [] 1 Ab b.length cb (b.map I)):Does Tryz.prog 99 [.slice Ab b.length cb] w (fun v w'=>v=.bool (alikeB b headP)∧SH w w' [] []):=by
 refine fE (N:=27) Tryz.func99 r0 (by kernel_rfl) r0 ?_
 have hs0:=SH.refl w []
 have hb_m:b.length≤9223372036854775807:=Nat.le_trans hb.cap hb.capMax
 refine sr (tA Z6 r0 (nx (cS2 hs0 r0 (sL16Begin _) (fun A1 c1 w1 hs1=>?_))))
 refine tA (.slice A1 headP.length c1) r0 (nn (sq (sr (tA (I 0) r0 (nl (nN (bl (lp (σ:=Nat) (fun(k:Nat) f w'=>Hz f [(0,.slice Ab b.length cb),(3,.slice A1 headP.length c1),(4,I (k:Int))]∧(k≤b.length∧k≤headP.length)∧(b.take k=headP.take k)∧SH w w' [] [.own A1 headP.length c1 3 1 (headP.map I)]) (fun k=>b.length-k) 0 ⟨(zR r0),(by simp),(by simp),hs1⟩ ?_))))))))
 rintro k f w2 ⟨⟨g1,rfl⟩,hk,hz,hs2⟩
 refine sq (sr (tm (I (k:Int)) r0 (tm (Z14 Ab b cb) r0 (qt r0 (lnA sl24 r0) (qt r0 (lss r0 r0) (tm (.bool (decide ((k:Int)<(b.length:Int)))) r0 (spd 10 r0 (fun h1=>?_) (fun h1=>?_))))))))
 ·refine qh r0 (mv (v:=I (k:Int)) r0) (qh r0 (mv (v:=.slice A1 headP.length c1) r0) (qh r0 (lnA sl24 r0) (qh r0 (lss r0 r0) (qt r0 (pt (v:=.bool (decide ((k:Int)<(headP.length:Int)))) r0 r0) (nn (cdd r0 (fun h2=>?_) (fun h2=>?_)))))))
  ·refine sk (nN (sq (bl (sq ?_))))
   obtain ⟨b1,rfl⟩:=own_form hs2 0 r0 (by(have hhl:headP.length=14:=rfl; omega))
   refine rq (fun w'=>SH w w' [] [oI b1 headP c1 3]) mixed (by kernel_rfl) hs2.drew (qA r0 (mv (v:=.slice Ab b.length cb) r0) (qA r0 (mv (v:=I (k:Int)) r0) (ixq1 k sl24 r0 r0 hb (by omega) (getm I 0 (by omega)) trivial r0 (fun a1 ha1=>?_))))
   refine qB r0 (fun hsq=>lda hsq ha1 (fun _ h=>h) r0 r0 one3) (qA r0 (mv (v:=sb b1 headP.length c1) r0) (qA r0 (mv (v:=I (k:Int)) r0) (qA r0 (ixo k sl24 r0 r0 (by omega)) (qB r0 (fun hsq=>ldo1n (g:=I) (ys:=headP) (o:=k) 0 hsq 0 r0 r0 (by omega) one3) (qA r0 (nei r0 r0) (qn (fun w3 hs3=>?_)))))))
   refine nN (cdd r0 (fun h3=>?_) (fun h3=>?_))
   ·exact sr (tA Z6 r0 (nn (rt (bR (tR (tR (bR (tR (fB r0 (by exact(alike_no (k:=k) (by omega) (by omega) ‹_›).symm) (hs3.pk [] r0))))))))))
   refine sk (bN (nN (rg (tm (I (k:Int)) r0 (qt r0 (add r0 r0 (by(exact⟨by omega,by omega⟩))) (tA (I ((k:Int)+1)) r0 (nl (nN ?_))))))))
   refine⟨(k+1),⟨(zR r0),(by omega),(alike_step (by omega) (by omega) hz (by omega)),hs3⟩,?_⟩
   omega
  refine ex (tE (tE (bE (nN (sr (tA Z35 r0 (nn (rt (fT Z35 r0 ?_)))))))))
  have e2:true=alikeB b headP:=by exact(alike_yes (k:=k) hk.1 hk.2 hz (by omega)).symm
  exact⟨(congrArg (Value.bool) e2),(hs2.pk [] r0)⟩
 refine gf5 r0 (gf5 r0 (gf5 r0 (gf5 r0 (qt r0 (pf (v:=.bool false) r0 r0) (nn (cdf r0 (ex (tE (tE (bE (nN (sr (tA Z35 r0 (nn (rt (fT Z35 r0 ?_))))))))))))))))
 have e3:true=alikeB b headP:=by exact(alike_yes (k:=k) hk.1 hk.2 hz (by omega)).symm
 exact⟨(congrArg (Value.bool) e3),(hs2.pk [] r0)⟩
theorem sL21Alike {Ab:Option Addr} {cb:Nat} (b:List Int) (s:List UInt8) (w:World) (hb:Sl w [] 1 Ab b.length cb (b.map I)) (hs_n:s.length≤2147483648):Does Tryz.prog 97 [.slice Ab b.length cb,Str s] w (fun v w'=>v=.bool (alikeB b (textI s))∧SH w w' [] []):=by
 refine fE (N:=27) Tryz.func97 r0 (by kernel_rfl) r0 ?_
 have hs0:=SH.refl w []
 have hb_m:b.length≤9223372036854775807:=Nat.le_trans hb.cap hb.capMax
 refine sr (tA Z6 r0 (nn (sq (sr (tA (I 0) r0 (nn (bl (lp (σ:=Nat) (fun(k:Nat) f w'=>Hz f [(0,.slice Ab b.length cb),(1,Str s),(5,I (k:Int))]∧(k≤b.length∧k≤s.length)∧(b.take k=(textI s).take k)∧SH w w' [] []) (fun k=>b.length-k) 0 ⟨(zR r0),(by omega),(by simp),hs0⟩ ?_))))))))
 rintro k f w1 ⟨⟨g1,rfl⟩,hk,hz,hs1⟩
 refine sq (sr (tm (I (k:Int)) r0 (tm (Z14 Ab b cb) r0 (qt r0 (lnA sl24 r0) (qt r0 (lss r0 r0) (tm (.bool (decide ((k:Int)<(b.length:Int)))) r0 (spd 10 r0 (fun h1=>?_) (fun h1=>?_))))))))
 ·refine qh r0 (mv (v:=I (k:Int)) r0) (qh r0 (mv (v:=Str s) r0) (qh r0 (lnS st9 r0) (qh r0 (lss r0 r0) (qt r0 (pt (v:=.bool (decide ((k:Int)<(s.length:Int)))) r0 r0) (nn (cdd r0 (fun h2=>?_) (fun h2=>?_)))))))
  ·refine sk (nN (sq (bl (sq (rq (fun w'=>SH w w' [] []) mixed (by kernel_rfl) hs1.drew (qA r0 (mv (v:=.slice Ab b.length cb) r0) (qA r0 (mv (v:=I (k:Int)) r0) (ixq1 k sl24 r0 r0 hb (by omega) (getm I 0 (by omega)) trivial r0 (fun a1 ha1=>?_)))))))))
   refine qB r0 (fun hsq=>lda hsq ha1 (fun _ h=>h) r0 r0 one3) (qA r0 (mv (v:=Str s) r0) (qA r0 (mv (v:=I (k:Int)) r0) (qA r0 (ixs k st9 r0 r0 (by omega)) (qA r0 (cvI (a:=(((s.getD k 0).toNat:Nat):Int)) (s:=.u8) ti5 ti3 r0 (by have:=u8_bd ((s.getD k 0)); exact⟨by omega,by omega⟩)) (qA r0 (nei r0 r0) (qn (fun w2 hs2=>?_)))))))
   refine nN (cdd r0 (fun h3=>?_) (fun h3=>?_))
   ·exact sr (tA Z6 r0 (nn (rt (bR (tR (tR (bR (tR (fB r0 (by exact(alike_no (k:=k) (by omega) (by rw[textI_len]; omega) (by rw[textI_get (by omega)]; omega)).symm) hs2)))))))))
   refine sk (bN (nN (rg (tm (I (k:Int)) r0 (qt r0 (add r0 r0 (by(exact⟨by omega,by omega⟩))) (tA (I ((k:Int)+1)) r0 (nl (nN ?_))))))))
   refine⟨(k+1),⟨(zR r0),(by omega),(alike_step (by omega) (by rw[textI_len]; omega) hz (by rw[textI_get (by omega)]; omega)),hs2⟩,?_⟩
   omega
  refine ex (tE (tE (bE (nN (sr (tA Z35 r0 (nn (rt (fT Z35 r0 ?_)))))))))
  have e2:true=alikeB b (textI s):=by exact(alike_yes (k:=k) hk.1 (by rw[textI_len]; exact hk.2) hz (by rw[textI_len]; omega)).symm
  exact⟨(congrArg (Value.bool) e2),hs1⟩
 refine gf5 r0 (gf5 r0 (gf5 r0 (gf5 r0 (qt r0 (pf (v:=.bool false) r0 r0) (nn (cdf r0 (ex (tE (tE (bE (nN (sr (tA Z35 r0 (nn (rt (fT Z35 r0 ?_))))))))))))))))
 have e3:true=alikeB b (textI s):=by exact(alike_yes (k:=k) hk.1 (by rw[textI_len]; exact hk.2) hz (by rw[textI_len]; omega)).symm
 exact⟨(congrArg (Value.bool) e3),hs1⟩
theorem sSniffKind {Ab:Option Addr} {cb:Nat} (b:List Int) (w:World) (hb:Sl w [] 1 Ab b.length cb (b.map I)):Does Tryz.prog 52 [.slice Ab b.length cb] w (fun v w'=>v=.int .i64 (sniffK b)∧SH w w' [] []):=by
 refine fE (N:=42) Tryz.func52 r0 (by kernel_rfl) r0 ?_
 have hs0:=SH.refl w []
 have hb_m:b.length≤9223372036854775807:=Nat.le_trans hb.cap hb.capMax
 refine sr (tA (I 0) r0 (nn (sq (bl (sq (rg (tm (Z14 Ab b cb) r0 (cS hs0 r0 (sBytesValid _ _ (hb.up0 hs0)) (fun w1 hs1=>?_)))))))))
 refine qt r0 (nt r0) (tA (Z106 b) r0 (nn (cd r0 (fun h1=>?_) (fun h1=>?_))))
 ·have h2:=nbF h1
  exact sr (tA (I 6) r0 (nn (rt (bR (tR (fI r0 (by(have y1:=conn_t; have y2:=prox_t; have y3:connP.length=8:=rfl; have y4:proxP.length=6:=rfl; have y5:headP.length=14:=rfl; grind [sniffK,kindW])) hs1))))))
 have h3:=nbT h1
 refine sr (tm (Z14 Ab b cb) r0 (qt r0 (lnA sl24 r0) (qt r0 (eqi r0 r0) (tA (Z145 b) r0 (nn (cdd r0 (fun h4=>?_) (fun h4=>?_)))))))
 ·exact sr (tA (I 0) r0 (nn (rt (bR (tR (fI r0 (by(have y1:=conn_t; have y2:=prox_t; have y3:connP.length=8:=rfl; have y4:proxP.length=6:=rfl; have y5:headP.length=14:=rfl; grind [sniffK,kindW])) hs1))))))
 refine sr (tm (Z14 Ab b cb) r0 (ixw1 0 sl24 r0 r0 hb (by omega) (getm I 0 (by omega)) trivial r0 (fun a1 ha1=>?_)))
 refine qt r0 (lda hs1 ha1 (fun _ h=>h) r0 r0 one3) (qt r0 (eqi r0 r0) (tA (.bool (decide ((b.getD 0 0)=4))) r0 (nn (cdd r0 (fun h5=>?_) (fun h5=>?_)))))
 ·exact sr (tA (I 1) r0 (nn (rt (bR (tR (fI r0 (by(have y1:=conn_t; have y2:=prox_t; have y3:connP.length=8:=rfl; have y4:proxP.length=6:=rfl; have y5:headP.length=14:=rfl; grind [sniffK,kindW])) hs1))))))
 refine sr (tm (Z14 Ab b cb) r0 (ixw1 0 sl24 r0 r0 hb (by omega) (getm I 0 (by omega)) trivial r0 (fun a2 ha2=>?_)))
 refine qt r0 (lda hs1 ha2 (fun _ h=>h) r0 r0 one3) (qt r0 (eqi r0 r0) (tA (.bool (decide ((b.getD 0 0)=5))) r0 (nn (cdd r0 (fun h6=>?_) (fun h6=>?_)))))
 ·exact sr (tA (I 2) r0 (nn (rt (bR (tR (fI r0 (by(have y1:=conn_t; have y2:=prox_t; have y3:connP.length=8:=rfl; have y4:proxP.length=6:=rfl; have y5:headP.length=14:=rfl; grind [sniffK,kindW])) hs1))))))
 refine sr (tm (Z14 Ab b cb) r0 (cS hs1 r0 (sL21Alike _ [67,79,78,78,69,67,84,32] _ (hb.up0 hs1) (by(simp; done))) (fun w2 hs2=>?_)))
 refine tA (.bool (alikeB b Z159)) r0 (nn (cd r0 (fun h7=>?_) (fun h7=>?_)))
 ·refine sr (tm (Z14 Ab b cb) r0 (qt r0 (lnA sl24 r0) (qt r0 (geq r0 r0) (cS hs2 r0 (sL21Known _ 3 _) (fun w3 hs3=>?_)))))
  exact tA (I (if (decide ((8:Int)≤(b.length:Int)))=true then 3 else 0)) r0 (nn (rt (bR (tR (fI r0 (by(have y1:=conn_t; have y2:=prox_t; have y3:connP.length=8:=rfl; have y4:proxP.length=6:=rfl; have y5:headP.length=14:=rfl; grind [sniffK,kindW])) hs3)))))
 refine sr (tm (Z14 Ab b cb) r0 (cS hs2 r0 (sL21Alike _ [80,82,79,88,89,32] _ (hb.up0 hs2) (by(simp; done))) (fun w4 hs4=>?_)))
 refine tA (.bool (alikeB b (textI [80,82,79,88,89,32]))) r0 (nn (cd r0 (fun h8=>?_) (fun h8=>?_)))
 ·refine sr (tm (Z14 Ab b cb) r0 (qt r0 (lnA sl24 r0) (qt r0 (geq r0 r0) (cS hs4 r0 (sL21Known _ 4 _) (fun w5 hs5=>?_)))))
  exact tA (I (if (decide ((6:Int)≤(b.length:Int)))=true then 4 else 0)) r0 (nn (rt (bR (tR (fI r0 (by(have y1:=conn_t; have y2:=prox_t; have y3:connP.length=8:=rfl; have y4:proxP.length=6:=rfl; have y5:headP.length=14:=rfl; grind [sniffK,kindW])) hs5)))))
 refine sr (tm (Z14 Ab b cb) r0 (cS hs4 r0 (sL16Same _ _ (hb.up0 hs4)) (fun w6 hs6=>?_)))
 refine tA (.bool (alikeB b headP)) r0 (nn (cd r0 (fun h9=>?_) (fun h9=>?_)))
 ·refine sr (tm (Z14 Ab b cb) r0 (qt r0 (lnA sl24 r0) (qt r0 (geq r0 r0) (cS hs6 r0 (sL21Known _ 5 _) (fun w7 hs7=>?_)))))
  exact tA (I (if (decide ((14:Int)≤(b.length:Int)))=true then 5 else 0)) r0 (nn (rt (bR (tR (fI r0 (by(have y1:=conn_t; have y2:=prox_t; have y3:connP.length=8:=rfl; have y4:proxP.length=6:=rfl; have y5:headP.length=14:=rfl; grind [sniffK,kindW])) hs7)))))
 refine sk (bN (nN (sr (tA (I 6) r0 (nn (rt (fT (I 6) r0 ?_)))))))
 have e8:6=sniffK b:=by(have y1:=conn_t; have y2:=prox_t; have y3:connP.length=8:=rfl; have y4:proxP.length=6:=rfl; have y5:headP.length=14:=rfl; grind [sniffK,kindW])
 exact⟨(congrArg (Value.int .i64) e8),hs6⟩
theorem iBegins {Ab:Option Addr} {cb:Nat} (b:List Int) {Af:Option Addr} {cf:Nat} (f:List Int) (w:World) (hb:Sl w [] 1 Ab b.length cb (b.map I)) (hf:Sl w [] 1 Af f.length cf (f.map I)):Does Tryz.prog 124 [.slice Ab b.length cb,.slice Af f.length cf] w (fun v w'=>v=.bool (startsB b f)∧SH w w' [] []):=by
 refine fE (N:=18) Tryz.func124 r0 (by kernel_rfl) r0 ?_
 have hs0:=SH.refl w []
 have hb_m:b.length≤9223372036854775807:=Nat.le_trans hb.cap hb.capMax
 have hf_m:f.length≤9223372036854775807:=Nat.le_trans hf.cap hf.capMax
 refine sr (tA Z6 r0 (nx (tm (Z14 Ab b cb) r0 (qt r0 (lnA sl24 r0) (tm (Z14 Af f cf) r0 (qt r0 (lnA sl24 r0) (qt r0 (geq r0 r0) (tm (.bool (decide ((f.length:Int)≤(b.length:Int)))) r0 (spd 10 r0 (fun h1=>?_) (fun h1=>?_))))))))))
 ·refine qh r0 (mv (v:=.slice Ab b.length cb) r0) (qh r0 (mv (v:=.slice Af f.length cf) r0) (qh r0 (lnA sl24 r0) (qh r0 (cuhm_ (zs:=b) f.length sl24 r0 r0 (by omega) hb.cap) (qh r0 (mv (v:=.slice Af f.length cf) r0) (cl ⟨_,rfl,rfl⟩ r0 (slEqual _ _ _ (Sl.cuthm (hb.up0 hs0) (by omega)) (hf.up0 hs0)) ?_)))))
  rintro _ w1 ⟨rfl,hs1⟩
  replace hs1:=hs0.call0 hs1
  refine qt r0 (pt (v:=.bool (decide ((b.take f.length)=f))) r0 r0) (tA (.bool (decide ((b.take f.length)=f))) r0 (nn (rt (fT (.bool (decide ((b.take f.length)=f))) r0 ?_))))
  have e1:(decide ((b.take f.length)=f))=startsB b f:=by(simp[startsB]; omega)
  exact⟨(congrArg (Value.bool) e1),hs1⟩
 refine gf5 r0 (gf5 r0 (gf5 r0 (gf5 r0 (gf5 r0 (gf5 r0 (qt r0 (pf (v:=.bool false) r0 r0) (tA Z6 r0 (nn (rt (fT Z6 r0 ?_))))))))))
 have e2:false=startsB b f:=by(simp[startsB]; omega)
 exact⟨(congrArg (Value.bool) e2),hs0⟩
theorem sL15Line (ka:Int) {Aqa:Option Addr} {cqa:Nat} (qa:List Int) (na:List UInt8) (pa:Int) (kb:Int) {Aqb:Option Addr} {cqb:Nat} (qb:List Int) (nb:List UInt8) (pb:Int) (w:World) (hqa:Sl w [] 1 Aqa qa.length cqa (qa.map I)) (hna_n:na.length≤1099511627776) (hqb:Sl w [] 1 Aqb qb.length cqb (qb.map I)) (hnb_n:nb.length≤1099511627776) (ho:addrOk ka qa na pa=true∧ka=1∧addrOk kb qb nb pb=true∧kb=1):Does Tryz.prog 191 [.agg #[I ka,.slice Aqa qa.length cqa,Str na,I pa,I kb,.slice Aqb qb.length cqb,Str nb,I pb]] w (fun v w'=>v=Str (lineW ((ka,qa,na,pa),(kb,qb,nb,pb)))∧SH w w' [] []):=by
 refine fE (N:=27) Tryz.func191 r0 (by kernel_rfl) r0 ?_
 have hs0:=SH.refl w []
 have hqa_m:qa.length≤9223372036854775807:=Nat.le_trans hqa.cap hqa.capMax
 have hqb_m:qb.length≤9223372036854775807:=Nat.le_trans hqb.cap hqb.capMax
 refine sr (bx (v:=.agg #[I ka,(Z4 Aqa qa cqa),Str na,I pa,I kb,(Z4 Aqb qb cqb),Str nb,I pb]) (cs:=[I ka,(Z4 Aqa qa cqa),Str na,I pa,I kb,(Z4 Aqb qb cqb),Str nb,I pb]) hs0 r0 r0 trivial r0 (fun b1 w1 hs1=>?_))
 refine tA (Str []) r0 (nn (sq (rq (fun w'=>SH w w' [] [.blk b1 112 [I ka,(Z4 Aqa qa cqa),Str na,I pa,I kb,(Z4 Aqb qb cqb),Str nb,I pb]]) mixed (by kernel_rfl) hs1.drew (qA r0 (fa 0 fo112_0 r0) (qA r0 (fa 1 fo54_1 r0) (qB r0 (fun hsq=>lD (Z14 Aqa qa cqa) hsq 0 r0 one24) (qc (Str (quadT qa)) trivial r0 (fun wq hsq=>(sL2Quad _ _ (hqa.up0 hsq) (by exact(pair_b ho).1)).mono (fun v w' h=>⟨h.1,by simpa using hsq.call0 h.2⟩)) (qA r0 (cat r0 r0 (by(have hpb:=pair_b ho; (try simp only[List.length_append,List.length_cons,List.length_nil]); omega))) (qA r0 (cat r0 r0 (by(have hpb:=pair_b ho; (try simp only[List.length_append,List.length_cons,List.length_nil]); omega))) (qA r0 (fa 4 fo112_1 r0) (qA r0 (fa 1 fo54_1 r0) (qB r0 (fun hsq=>lD (Z14 Aqb qb cqb) hsq 0 r0 one24) (qc (Str (quadT qb)) trivial r0 (fun wq hsq=>(sL2Quad _ _ (hqb.up0 hsq) (by exact(pair_b ho).2.1)).mono (fun v w' h=>⟨h.1,by simpa using hsq.call0 h.2⟩)) (qA r0 (cat r0 r0 (by(have hpb:=pair_b ho; (try simp only[List.length_append,List.length_cons,List.length_nil]); omega))) (qA r0 (cat r0 r0 (by(have hpb:=pair_b ho; (try simp only[List.length_append,List.length_cons,List.length_nil]); omega))) (qA r0 (fa 0 fo112_0 r0) (qA r0 (fa 3 fo54_3 r0) (qB r0 (fun hsq=>lD (I pa) hsq 0 r0 one3) (qc (Str (Lib.itoa pa)) trivial r0 (fun wq hsq=>(l6Dec _ _ (by exact(pair_b ho).2.2.1)).mono (fun v w' h=>⟨h.1,by simpa using hsq.call0 h.2⟩)) (qA r0 (cat r0 r0 (by(have hpb:=pair_b ho; (try simp only[List.length_append,List.length_cons,List.length_nil]); omega))) (qA r0 (cat r0 r0 (by(have hpb:=pair_b ho; (try simp only[List.length_append,List.length_cons,List.length_nil]); omega))) (qA r0 (fa 4 fo112_1 r0) (qA r0 (fa 3 fo54_3 r0) (qB r0 (fun hsq=>lD (I pb) hsq 0 r0 one3) (qc (Str (Lib.itoa pb)) trivial r0 (fun wq hsq=>(l6Dec _ _ (by exact(pair_b ho).2.2.2.1)).mono (fun v w' h=>⟨h.1,by simpa using hsq.call0 h.2⟩)) (qA r0 (cat r0 r0 (by(have hpb:=pair_b ho; (try simp only[List.length_append,List.length_cons,List.length_nil]); omega))) (qA r0 (cat r0 r0 (by(have hpb:=pair_b ho; (try simp only[List.length_append,List.length_cons,List.length_nil]); omega))) (qA r0 (asg (v:=Str (((((((([80,82,79,88,89,32,84,67,80,52,32]++(quadT qa))++[32])++(quadT qb))++[32])++(Lib.itoa pa))++[32])++(Lib.itoa pb))++[13,10])) r0) (qn (fun w2 hs2=>?_))))))))))))))))))))))))))))))
 refine nN (rt (fT (Str (((((((([80,82,79,88,89,32,84,67,80,52,32]++(quadT qa))++[32])++(quadT qb))++[32])++(Lib.itoa pa))++[32])++(Lib.itoa pb))++[13,10])) r0 ?_))
 have e1:((((((([80,82,79,88,89,32,84,67,80,52,32]++(quadT qa))++[32])++(quadT qb))++[32])++(Lib.itoa pa))++[32])++(Lib.itoa pb))++[13,10]=lineW ((ka,qa,na,pa),(kb,qb,nb,pb)):=by simp[lineW]
 exact⟨(congrArg (Str) e1),(hs2.pk [] r0)⟩
theorem iSniffKind {Ab:Option Addr} {cb:Nat} (b:List Int) (w:World) (hb:Sl w [] 1 Ab b.length cb (b.map I)):Does Tryz.prog 75 [.slice Ab b.length cb] w (fun v w'=>v=.int .i64 (sniffK b)∧SH w w' [] []):=by
 refine fE (N:=44) Tryz.func75 r0 (by kernel_rfl) r0 ?_
 have hs0:=SH.refl w []
 have hb_m:b.length≤9223372036854775807:=Nat.le_trans hb.cap hb.capMax
 refine sr (tA (I 0) r0 (nn (sq (bl (sq (rg (tm (Z14 Ab b cb) r0 (cS hs0 r0 (iBytesValid (Azs:=Ab) (czs:=cb) (zs:=b) (w:=_) (hzs:=(hb.up0 hs0))) (fun w1 hs1=>?_)))))))))
 refine qt r0 (nt r0) (tA (Z106 b) r0 (nn (cd r0 (fun h1=>?_) (fun h1=>?_))))
 ·have h2:=nbF h1
  exact sr (tA (I 6) r0 (nn (rt (bR (tR (fI r0 (by(have y1:=conn_t; have y2:=prox_t; have y6:=@starts_alike b; have y7:=@starts_alike2 b; have y8:=@starts_not b; have y9:=@starts_lt b; (try simp only[List.getD_cons_zero,List.getD_cons_succ,Int.zero_add,Nat.zero_add]at*); grind [sniffK,kindW])) hs1))))))
 have h3:=nbT h1
 refine sr (tm (Z14 Ab b cb) r0 (qt r0 (lnA (n:=b.length) sl24 r0) (qt r0 (eqi (k:=.i64) (a:=(b.length:Int)) (b:=0) r0 r0) (tA (Z145 b) r0 (nn (cdd r0 (fun h4=>?_) (fun h4=>?_)))))))
 ·exact sr (tA (I 0) r0 (nn (rt (bR (tR (fI r0 (by(have y1:=conn_t; have y2:=prox_t; have y6:=@starts_alike b; have y7:=@starts_alike2 b; have y8:=@starts_not b; have y9:=@starts_lt b; (try simp only[List.getD_cons_zero,List.getD_cons_succ,Int.zero_add,Nat.zero_add]at*); grind [sniffK,kindW])) hs1))))))
 refine sr (tm (Z14 Ab b cb) r0 (ixw1 0 sl24 r0 r0 hb (by omega) (getm I 0 (by omega)) trivial r0 (fun a1 ha1=>?_)))
 refine qt r0 (lda (v:=I (b.getD 0 0)) hs1 ha1 (fun _ h=>h) r0 r0 one3) (qt r0 (eqi (k:=.i64) (a:=b.getD 0 0) (b:=4) r0 r0) (tA (.bool (decide ((b.getD 0 0)=4))) r0 (nn (cdd r0 (fun h5=>?_) (fun h5=>?_)))))
 ·exact sr (tA (I 1) r0 (nn (rt (bR (tR (fI r0 (by(have y1:=conn_t; have y2:=prox_t; have y6:=@starts_alike b; have y7:=@starts_alike2 b; have y8:=@starts_not b; have y9:=@starts_lt b; (try simp only[List.getD_cons_zero,List.getD_cons_succ,Int.zero_add,Nat.zero_add]at*); grind [sniffK,kindW])) hs1))))))
 refine sr (tm (Z14 Ab b cb) r0 (ixw1 0 sl24 r0 r0 hb (by omega) (getm I 0 (by omega)) trivial r0 (fun a2 ha2=>?_)))
 refine qt r0 (lda (v:=I (b.getD 0 0)) hs1 ha2 (fun _ h=>h) r0 r0 one3) (qt r0 (eqi (k:=.i64) (a:=b.getD 0 0) (b:=5) r0 r0) (tA (.bool (decide ((b.getD 0 0)=5))) r0 (nn (cdd r0 (fun h6=>?_) (fun h6=>?_)))))
 ·exact sr (tA (I 2) r0 (nn (rt (bR (tR (fI r0 (by(have y1:=conn_t; have y2:=prox_t; have y6:=@starts_alike b; have y7:=@starts_alike2 b; have y8:=@starts_not b; have y9:=@starts_lt b; (try simp only[List.getD_cons_zero,List.getD_cons_succ,Int.zero_add,Nat.zero_add]at*); grind [sniffK,kindW])) hs1))))))
 refine sk (bN (nN (sq (sr (cS2 hs1 r0 (iTextBytes (s:=[67,79,78,78,69,67,84,32]) (w:=_) (hs_n:=(by(simp; done)))) (fun A1 c1 w2 hs2=>?_))))))
 refine cS2 hs2 r0 (iTextBytes (s:=[80,82,79,88,89,32]) (w:=_) (hs_n:=(by(simp; done)))) (fun A2 c2 w3 hs3=>?_)
 refine cS2 hs3 r0 (iHeadStart (w:=_)) (fun A3 c3 w4 hs4=>?_)
 refine bsk hs4 sl134 [.slice A1 (Z159.length) c1,.slice A2 ((textI [80,82,79,88,89,32]).length) c2,.slice A3 headP.length c3] [.slice A1 (Z159.length) c1,.slice A2 ((textI [80,82,79,88,89,32]).length) c2,.slice A3 headP.length c3] trivial r0 (fun b1 w5 hs5=>?_)
 refine qt r0 (lnA (n:=([(⟨A1,c1,textI [67,79,78,78,69,67,84,32]⟩:Hd),(⟨A2,c2,textI [80,82,79,88,89,32]⟩:Hd),(⟨A3,c3,headP⟩:Hd)]:List Hd).length) sl134 r0) (tm (I 0) r0 (nn (bl (ul0 (ulS (sr (qt r0 (lss (k:=.i64) (a:=0) (b:=((([(⟨A1,c1,textI [67,79,78,78,69,67,84,32]⟩:Hd),(⟨A2,c2,textI [80,82,79,88,89,32]⟩:Hd),(⟨A3,c3,headP⟩:Hd)]:List Hd).length:Nat):Int)) r0 r0) (nn (sq (cdd r0 (fun h7=>?_) (fun h7=>absurd (by(simp; done)) h7)))))))))))
 refine sk (nN (sq (bl (sr (tm (I 0) r0 (qt r0 (ixo 0 sl134 r0 r0 (by omega)) (qt r0 (ldoHd (L:=Z9) (ys:=([(⟨A1,c1,textI [67,79,78,78,69,67,84,32]⟩:Hd),(⟨A2,c2,textI [80,82,79,88,89,32]⟩:Hd),(⟨A3,c3,headP⟩:Hd)]:List Hd)) (o:=0) r0 hs5 3 r0 r0 (by omega) one24) (tA (I 0) r0 (tA (.slice ((([(⟨A1,c1,textI [67,79,78,78,69,67,84,32]⟩:Hd),(⟨A2,c2,textI [80,82,79,88,89,32]⟩:Hd),(⟨A3,c3,headP⟩:Hd)]:List Hd).getD 0 hd0).A) ((Z9.getD 0 []).length) ((([(⟨A1,c1,textI [67,79,78,78,69,67,84,32]⟩:Hd),(⟨A2,c2,textI [80,82,79,88,89,32]⟩:Hd),(⟨A3,c3,headP⟩:Hd)]:List Hd).getD 0 hd0).c)) r0 (nn (bl (sr (tm (Z14 Ab b cb) r0 (tm (.slice ((([(⟨A1,c1,textI [67,79,78,78,69,67,84,32]⟩:Hd),(⟨A2,c2,textI [80,82,79,88,89,32]⟩:Hd),(⟨A3,c3,headP⟩:Hd)]:List Hd).getD 0 hd0).A) ((Z9.getD 0 []).length) ((([(⟨A1,c1,textI [67,79,78,78,69,67,84,32]⟩:Hd),(⟨A2,c2,textI [80,82,79,88,89,32]⟩:Hd),(⟨A3,c3,headP⟩:Hd)]:List Hd).getD 0 hd0).c)) r0 (cS hs5 r0 (iBegins (Ab:=Ab) (cb:=cb) (b:=b) (Af:=(([(⟨A1,c1,textI [67,79,78,78,69,67,84,32]⟩:Hd),(⟨A2,c2,textI [80,82,79,88,89,32]⟩:Hd),(⟨A3,c3,headP⟩:Hd)]:List Hd).getD 0 hd0).A) (cf:=(([(⟨A1,c1,textI [67,79,78,78,69,67,84,32]⟩:Hd),(⟨A2,c2,textI [80,82,79,88,89,32]⟩:Hd),(⟨A3,c3,headP⟩:Hd)]:List Hd).getD 0 hd0).c) (f:=Z9.getD 0 []) (w:=_) (hb:=(hb.up0 hs5)) (hf:=(hd_at2 (L:=Z9) r0 (fa_cons (hs5.sl0 0 r0) (fa_cons (hs5.sl0 1 r0) (fa_cons (hs5.sl0 2 r0) fa_nil))) (by omega)))) (fun w6 hs6=>?_))))))))))))))))
 refine tA (.bool (startsB b (Z9.getD 0 []))) r0 (nn (cd r0 (fun h8=>?_) (fun h8=>?_)))
 ·refine sr (tm (I 0) r0 (qt r0 (add (a:=3) (b:=0) r0 r0 (by exact⟨by omega,by omega⟩)) (tA (I ((3:Int)+0)) r0 (nn ?_))))
  have hs7:=hs6.pq [] r0
  exact rt (bR (bR (tR (tR (bR (tR (fI r0 (by(have y1:=conn_t; have y2:=prox_t; have y6:=@starts_alike b; have y7:=@starts_alike2 b; have y8:=@starts_not b; have y9:=@starts_lt b; (try simp only[List.getD_cons_zero,List.getD_cons_succ,Int.zero_add,Nat.zero_add]at*); grind [sniffK,kindW])) hs7)))))))
 refine sr (tm (.slice ((([(⟨A1,c1,textI [67,79,78,78,69,67,84,32]⟩:Hd),(⟨A2,c2,textI [80,82,79,88,89,32]⟩:Hd),(⟨A3,c3,headP⟩:Hd)]:List Hd).getD 0 hd0).A) ((Z9.getD 0 []).length) ((([(⟨A1,c1,textI [67,79,78,78,69,67,84,32]⟩:Hd),(⟨A2,c2,textI [80,82,79,88,89,32]⟩:Hd),(⟨A3,c3,headP⟩:Hd)]:List Hd).getD 0 hd0).c)) r0 (tm (Z14 Ab b cb) r0 (cS hs6 r0 (iBegins (Ab:=(([(⟨A1,c1,textI [67,79,78,78,69,67,84,32]⟩:Hd),(⟨A2,c2,textI [80,82,79,88,89,32]⟩:Hd),(⟨A3,c3,headP⟩:Hd)]:List Hd).getD 0 hd0).A) (cb:=(([(⟨A1,c1,textI [67,79,78,78,69,67,84,32]⟩:Hd),(⟨A2,c2,textI [80,82,79,88,89,32]⟩:Hd),(⟨A3,c3,headP⟩:Hd)]:List Hd).getD 0 hd0).c) (b:=Z9.getD 0 []) (Af:=Ab) (cf:=cb) (f:=b) (w:=_) (hb:=(hd_at2 (L:=Z9) r0 (fa_cons (hs6.sl0 0 r0) (fa_cons (hs6.sl0 1 r0) (fa_cons (hs6.sl0 2 r0) fa_nil))) (by omega))) (hf:=(hb.up0 hs6))) (fun w7 hs8=>?_))))
 refine tA (.bool (startsB (Z9.getD 0 []) b)) r0 (nn (cd r0 (fun h9=>?_) (fun h9=>?_)))
 ·refine sr (tA (I 0) r0 (nn ?_))
  have hs9:=hs8.pq [] r0
  exact rt (bR (bR (tR (tR (bR (tR (fI r0 (by(have y1:=conn_t; have y2:=prox_t; have y6:=@starts_alike b; have y7:=@starts_alike2 b; have y8:=@starts_not b; have y9:=@starts_lt b; (try simp only[List.getD_cons_zero,List.getD_cons_succ,Int.zero_add,Nat.zero_add]at*); grind [sniffK,kindW])) hs9)))))))
 refine sk (bN (bN (nN (rg (qt r0 (add (a:=0) (b:=1) r0 r0 (by exact⟨by omega,by omega⟩)) (tm (I ((0:Int)+1)) r0 (nl (nN (ulS (sr (qt r0 (lss (k:=.i64) (a:=(0:Int)+1) (b:=((([(⟨A1,c1,textI [67,79,78,78,69,67,84,32]⟩:Hd),(⟨A2,c2,textI [80,82,79,88,89,32]⟩:Hd),(⟨A3,c3,headP⟩:Hd)]:List Hd).length:Nat):Int)) r0 r0) (nn (sq (cdd r0 (fun h10=>?_) (fun h10=>absurd (by(simp; done)) h10)))))))))))))))
 refine sk (nN (sq (bl (sr (tm (I ((0:Int)+1)) r0 (qt r0 (ixo (0+1) sl134 r0 r0 (by omega)) (qt r0 (ldoHd (L:=Z9) (ys:=([(⟨A1,c1,textI [67,79,78,78,69,67,84,32]⟩:Hd),(⟨A2,c2,textI [80,82,79,88,89,32]⟩:Hd),(⟨A3,c3,headP⟩:Hd)]:List Hd)) (o:=0+1) r0 hs8 3 r0 r0 (by omega) one24) (tA (I ((0:Int)+1)) r0 (tA (.slice ((([(⟨A1,c1,textI [67,79,78,78,69,67,84,32]⟩:Hd),(⟨A2,c2,textI [80,82,79,88,89,32]⟩:Hd),(⟨A3,c3,headP⟩:Hd)]:List Hd).getD (0+1) hd0).A) ((Z9.getD (0+1) []).length) ((([(⟨A1,c1,textI [67,79,78,78,69,67,84,32]⟩:Hd),(⟨A2,c2,textI [80,82,79,88,89,32]⟩:Hd),(⟨A3,c3,headP⟩:Hd)]:List Hd).getD (0+1) hd0).c)) r0 (nn (bl (sr (tm (Z14 Ab b cb) r0 (tm (.slice ((([(⟨A1,c1,textI [67,79,78,78,69,67,84,32]⟩:Hd),(⟨A2,c2,textI [80,82,79,88,89,32]⟩:Hd),(⟨A3,c3,headP⟩:Hd)]:List Hd).getD (0+1) hd0).A) ((Z9.getD (0+1) []).length) ((([(⟨A1,c1,textI [67,79,78,78,69,67,84,32]⟩:Hd),(⟨A2,c2,textI [80,82,79,88,89,32]⟩:Hd),(⟨A3,c3,headP⟩:Hd)]:List Hd).getD (0+1) hd0).c)) r0 (cS hs8 r0 (iBegins (Ab:=Ab) (cb:=cb) (b:=b) (Af:=(([(⟨A1,c1,textI [67,79,78,78,69,67,84,32]⟩:Hd),(⟨A2,c2,textI [80,82,79,88,89,32]⟩:Hd),(⟨A3,c3,headP⟩:Hd)]:List Hd).getD (0+1) hd0).A) (cf:=(([(⟨A1,c1,textI [67,79,78,78,69,67,84,32]⟩:Hd),(⟨A2,c2,textI [80,82,79,88,89,32]⟩:Hd),(⟨A3,c3,headP⟩:Hd)]:List Hd).getD (0+1) hd0).c) (f:=Z9.getD (0+1) []) (w:=_) (hb:=(hb.up0 hs8)) (hf:=(hd_at2 (L:=Z9) r0 (fa_cons (hs8.sl0 0 r0) (fa_cons (hs8.sl0 1 r0) (fa_cons (hs8.sl0 2 r0) fa_nil))) (by omega)))) (fun w8 hs10=>?_))))))))))))))))
 refine tA (.bool (startsB b (Z9.getD (0+1) []))) r0 (nn (cd r0 (fun h11=>?_) (fun h11=>?_)))
 ·refine sr (tm (I ((0:Int)+1)) r0 (qt r0 (add (a:=3) (b:=(0:Int)+1) r0 r0 (by exact⟨by omega,by omega⟩)) (tA (I (3+((0:Int)+1))) r0 (nn ?_))))
  have hs11:=hs10.pq [] r0
  exact rt (bR (bR (tR (tR (bR (tR (fI r0 (by(have y1:=conn_t; have y2:=prox_t; have y6:=@starts_alike b; have y7:=@starts_alike2 b; have y8:=@starts_not b; have y9:=@starts_lt b; (try simp only[List.getD_cons_zero,List.getD_cons_succ,Int.zero_add,Nat.zero_add]at*); grind [sniffK,kindW])) hs11)))))))
 refine sr (tm (.slice ((([(⟨A1,c1,textI [67,79,78,78,69,67,84,32]⟩:Hd),(⟨A2,c2,textI [80,82,79,88,89,32]⟩:Hd),(⟨A3,c3,headP⟩:Hd)]:List Hd).getD (0+1) hd0).A) ((Z9.getD (0+1) []).length) ((([(⟨A1,c1,textI [67,79,78,78,69,67,84,32]⟩:Hd),(⟨A2,c2,textI [80,82,79,88,89,32]⟩:Hd),(⟨A3,c3,headP⟩:Hd)]:List Hd).getD (0+1) hd0).c)) r0 (tm (Z14 Ab b cb) r0 (cS hs10 r0 (iBegins (Ab:=(([(⟨A1,c1,textI [67,79,78,78,69,67,84,32]⟩:Hd),(⟨A2,c2,textI [80,82,79,88,89,32]⟩:Hd),(⟨A3,c3,headP⟩:Hd)]:List Hd).getD (0+1) hd0).A) (cb:=(([(⟨A1,c1,textI [67,79,78,78,69,67,84,32]⟩:Hd),(⟨A2,c2,textI [80,82,79,88,89,32]⟩:Hd),(⟨A3,c3,headP⟩:Hd)]:List Hd).getD (0+1) hd0).c) (b:=Z9.getD (0+1) []) (Af:=Ab) (cf:=cb) (f:=b) (w:=_) (hb:=(hd_at2 (L:=Z9) r0 (fa_cons (hs10.sl0 0 r0) (fa_cons (hs10.sl0 1 r0) (fa_cons (hs10.sl0 2 r0) fa_nil))) (by omega))) (hf:=(hb.up0 hs10))) (fun w9 hs12=>?_))))
 refine tA (.bool (startsB (Z9.getD (0+1) []) b)) r0 (nn (cd r0 (fun h12=>?_) (fun h12=>?_)))
 ·refine sr (tA (I 0) r0 (nn ?_))
  have hs13:=hs12.pq [] r0
  exact rt (bR (bR (tR (tR (bR (tR (fI r0 (by(have y1:=conn_t; have y2:=prox_t; have y6:=@starts_alike b; have y7:=@starts_alike2 b; have y8:=@starts_not b; have y9:=@starts_lt b; (try simp only[List.getD_cons_zero,List.getD_cons_succ,Int.zero_add,Nat.zero_add]at*); grind [sniffK,kindW])) hs13)))))))
 refine sk (bN (bN (nN (rg (qt r0 (add (a:=(0:Int)+1) (b:=1) r0 r0 (by exact⟨by omega,by omega⟩)) (tm (I (((0:Int)+1)+1)) r0 (nl (nN (ulS (sr (qt r0 (lss (k:=.i64) (a:=((0:Int)+1)+1) (b:=((([(⟨A1,c1,textI [67,79,78,78,69,67,84,32]⟩:Hd),(⟨A2,c2,textI [80,82,79,88,89,32]⟩:Hd),(⟨A3,c3,headP⟩:Hd)]:List Hd).length:Nat):Int)) r0 r0) (nn (sq (cdd r0 (fun h13=>?_) (fun h13=>absurd (by(simp; done)) h13)))))))))))))))
 refine sk (nN (sq (bl (sr (tm (I (((0:Int)+1)+1)) r0 (qt r0 (ixo ((0+1)+1) sl134 r0 r0 (by omega)) (qt r0 (ldoHd (L:=Z9) (ys:=([(⟨A1,c1,textI [67,79,78,78,69,67,84,32]⟩:Hd),(⟨A2,c2,textI [80,82,79,88,89,32]⟩:Hd),(⟨A3,c3,headP⟩:Hd)]:List Hd)) (o:=(0+1)+1) r0 hs12 3 r0 r0 (by omega) one24) (tA (I (((0:Int)+1)+1)) r0 (tA (.slice ((([(⟨A1,c1,textI [67,79,78,78,69,67,84,32]⟩:Hd),(⟨A2,c2,textI [80,82,79,88,89,32]⟩:Hd),(⟨A3,c3,headP⟩:Hd)]:List Hd).getD ((0+1)+1) hd0).A) ((Z9.getD ((0+1)+1) []).length) ((([(⟨A1,c1,textI [67,79,78,78,69,67,84,32]⟩:Hd),(⟨A2,c2,textI [80,82,79,88,89,32]⟩:Hd),(⟨A3,c3,headP⟩:Hd)]:List Hd).getD ((0+1)+1) hd0).c)) r0 (nn (bl (sr (tm (Z14 Ab b cb) r0 (tm (.slice ((([(⟨A1,c1,textI [67,79,78,78,69,67,84,32]⟩:Hd),(⟨A2,c2,textI [80,82,79,88,89,32]⟩:Hd),(⟨A3,c3,headP⟩:Hd)]:List Hd).getD ((0+1)+1) hd0).A) ((Z9.getD ((0+1)+1) []).length) ((([(⟨A1,c1,textI [67,79,78,78,69,67,84,32]⟩:Hd),(⟨A2,c2,textI [80,82,79,88,89,32]⟩:Hd),(⟨A3,c3,headP⟩:Hd)]:List Hd).getD ((0+1)+1) hd0).c)) r0 (cS hs12 r0 (iBegins (Ab:=Ab) (cb:=cb) (b:=b) (Af:=(([(⟨A1,c1,textI [67,79,78,78,69,67,84,32]⟩:Hd),(⟨A2,c2,textI [80,82,79,88,89,32]⟩:Hd),(⟨A3,c3,headP⟩:Hd)]:List Hd).getD ((0+1)+1) hd0).A) (cf:=(([(⟨A1,c1,textI [67,79,78,78,69,67,84,32]⟩:Hd),(⟨A2,c2,textI [80,82,79,88,89,32]⟩:Hd),(⟨A3,c3,headP⟩:Hd)]:List Hd).getD ((0+1)+1) hd0).c) (f:=Z9.getD ((0+1)+1) []) (w:=_) (hb:=(hb.up0 hs12)) (hf:=(hd_at2 (L:=Z9) r0 (fa_cons (hs12.sl0 0 r0) (fa_cons (hs12.sl0 1 r0) (fa_cons (hs12.sl0 2 r0) fa_nil))) (by omega)))) (fun w10 hs14=>?_))))))))))))))))
 refine tA (.bool (startsB b (Z9.getD ((0+1)+1) []))) r0 (nn (cd r0 (fun h14=>?_) (fun h14=>?_)))
 ·refine sr (tm (I (((0:Int)+1)+1)) r0 (qt r0 (add (a:=3) (b:=((0:Int)+1)+1) r0 r0 (by exact⟨by omega,by omega⟩)) (tA (I (3+(((0:Int)+1)+1))) r0 (nn ?_))))
  have hs15:=hs14.pq [] r0
  exact rt (bR (bR (tR (tR (bR (tR (fI r0 (by(have y1:=conn_t; have y2:=prox_t; have y6:=@starts_alike b; have y7:=@starts_alike2 b; have y8:=@starts_not b; have y9:=@starts_lt b; (try simp only[List.getD_cons_zero,List.getD_cons_succ,Int.zero_add,Nat.zero_add]at*); grind [sniffK,kindW])) hs15)))))))
 refine sr (tm (.slice ((([(⟨A1,c1,textI [67,79,78,78,69,67,84,32]⟩:Hd),(⟨A2,c2,textI [80,82,79,88,89,32]⟩:Hd),(⟨A3,c3,headP⟩:Hd)]:List Hd).getD ((0+1)+1) hd0).A) ((Z9.getD ((0+1)+1) []).length) ((([(⟨A1,c1,textI [67,79,78,78,69,67,84,32]⟩:Hd),(⟨A2,c2,textI [80,82,79,88,89,32]⟩:Hd),(⟨A3,c3,headP⟩:Hd)]:List Hd).getD ((0+1)+1) hd0).c)) r0 (tm (Z14 Ab b cb) r0 (cS hs14 r0 (iBegins (Ab:=(([(⟨A1,c1,textI [67,79,78,78,69,67,84,32]⟩:Hd),(⟨A2,c2,textI [80,82,79,88,89,32]⟩:Hd),(⟨A3,c3,headP⟩:Hd)]:List Hd).getD ((0+1)+1) hd0).A) (cb:=(([(⟨A1,c1,textI [67,79,78,78,69,67,84,32]⟩:Hd),(⟨A2,c2,textI [80,82,79,88,89,32]⟩:Hd),(⟨A3,c3,headP⟩:Hd)]:List Hd).getD ((0+1)+1) hd0).c) (b:=Z9.getD ((0+1)+1) []) (Af:=Ab) (cf:=cb) (f:=b) (w:=_) (hb:=(hd_at2 (L:=Z9) r0 (fa_cons (hs14.sl0 0 r0) (fa_cons (hs14.sl0 1 r0) (fa_cons (hs14.sl0 2 r0) fa_nil))) (by omega))) (hf:=(hb.up0 hs14))) (fun w11 hs16=>?_))))
 refine tA (.bool (startsB (Z9.getD ((0+1)+1) []) b)) r0 (nn (cd r0 (fun h15=>?_) (fun h15=>?_)))
 ·refine sr (tA (I 0) r0 (nn ?_))
  have hs17:=hs16.pq [] r0
  exact rt (bR (bR (tR (tR (bR (tR (fI r0 (by(have y1:=conn_t; have y2:=prox_t; have y6:=@starts_alike b; have y7:=@starts_alike2 b; have y8:=@starts_not b; have y9:=@starts_lt b; (try simp only[List.getD_cons_zero,List.getD_cons_succ,Int.zero_add,Nat.zero_add]at*); grind [sniffK,kindW])) hs17)))))))
 refine sk (bN (bN (nN (rg (qt r0 (add (a:=((0:Int)+1)+1) (b:=1) r0 r0 (by exact⟨by omega,by omega⟩)) (tm (I ((((0:Int)+1)+1)+1)) r0 (nl (nN (ulS (sr (qt r0 (lss (k:=.i64) (a:=(((0:Int)+1)+1)+1) (b:=((([(⟨A1,c1,textI [67,79,78,78,69,67,84,32]⟩:Hd),(⟨A2,c2,textI [80,82,79,88,89,32]⟩:Hd),(⟨A3,c3,headP⟩:Hd)]:List Hd).length:Nat):Int)) r0 r0) (nn (sq (cdd r0 (fun h16=>absurd h16 (by(simp; done))) (fun h16=>?_)))))))))))))))
 refine ex (tE (tE (bE (nN ?_))))
 have hs18:=hs16.pq [] r0
 refine sr (tA (I 6) r0 (nn (rt (fT (I 6) r0 ?_))))
 have e11:6=sniffK b:=by(have y1:=conn_t; have y2:=prox_t; have y6:=@starts_alike b; have y7:=@starts_alike2 b; have y8:=@starts_not b; have y9:=@starts_lt b; (try simp only[List.getD_cons_zero,List.getD_cons_succ,Int.zero_add,Nat.zero_add]at*); grind [sniffK,kindW])
 exact⟨(congrArg (Value.int .i64) e11),hs18⟩
theorem sL16Ok {Atg:Option Addr} {ctg:Nat} (tg:List TgE) (w:World) (htg:Sl w [] 2 Atg tg.length ctg (tg.flatMap gTgE)) (htg_in: ∀ u∈tg,HdOk w [] u.2):Does Tryz.prog 192 [.slice Atg tg.length ctg] w (fun v w'=>v=.bool (tagsOk (tgX tg))∧SH w w' [] []):=by
 refine fE (N:=38) Tryz.func192 r0 (by kernel_rfl) r0 ?_
 have hs0:=SH.refl w []
 have htg_m:tg.length≤9223372036854775807:=Nat.le_trans htg.cap htg.capMax
 refine sr (tA Z6 r0 (nn (sq (sr (tA (I 0) r0 (nn (bl (lp (σ:=Nat) (fun(k:Nat) f w'=>Hz f [(0,.slice Atg tg.length ctg),(3,I (k:Int))]∧(k≤tg.length)∧((tg.take k).all tgB=true)∧SH w w' [] []) (fun k=>tg.length-k) 0 ⟨(zR r0),(by simp),(by simp),hs0⟩ ?_))))))))
 rintro k f w1 ⟨⟨g1,rfl⟩,hk,ha,hs1⟩
 refine sq (sr (tm (I (k:Int)) r0 (tm (.slice Atg tg.length ctg) r0 (qt r0 (lnA sl115 r0) (qt r0 (lss r0 r0) (nl (nN (cdd r0 (fun h1=>?_) (fun h1=>?_)))))))))
 ·refine sk (nN (sq (bl (sr (tm (.slice Atg tg.length ctg) r0 (tm (I (k:Int)) r0 (ixwf (g:=gTgE) (zs:=tg) (fun _=>rfl) tgE0 k sl115 r0 r0 htg (by omega) (by omega) trivial r0 (fun a1 ha1=>?_))))))))
  refine qt r0 (fap 0 fo166_0 r0) (qt r0 (ldf (v:=I ((tg.getD k tgE0).1)) 0 hs1 ha1 (fun _ h=>h) r0 r0 one3) (cS hs1 r0 (sIn _ 0 255 _) (fun w2 hs2=>?_)))
  refine qt r0 (nd r0) (tm (.bool (decide (¬ (0≤((tg.getD k tgE0).1)∧((tg.getD k tgE0).1)≤255)))) r0 (spd 17 r0 (fun h2=>?_) (fun h2=>?_)))
  ·exact gt5 r0 (gt5 r0 (gt5 r0 (gt5 r0 (gt5 r0 (gt5 r0 (gt5 r0 (qt r0 (pt (v:=.bool true) r0 r0) (tm Z35 r0 (gt5 r0 (gt5 r0 (gt5 r0 (gt5 r0 (gt5 r0 (gt5 r0 (gt5 r0 (qt r0 (pt (v:=.bool true) r0 r0) (nn (cdt r0 (sr (tA Z6 r0 (nl (nN (rt (bR (tR (tR (bR (tR (fB r0 (by exact(tgs_no (k:=k) (by omega) (tgB_no (.inl ‹_›))).symm) hs2)))))))))))))))))))))))))))))
  refine qh r0 (mv (v:=.slice Atg tg.length ctg) r0) (qh r0 (mv (v:=I (k:Int)) r0) (ixwf (g:=gTgE) (zs:=tg) (fun _=>rfl) tgE0 k sl115 r0 r0 htg (by omega) (by omega) ⟨_,rfl,rfl⟩ r0 (fun a2 ha2=>?_)))
  refine qh r0 (fap 1 fo166_1 r0) (qh r0 (ldf (v:=.slice (((tg.getD k tgE0).2).A) ((((tg.getD k tgE0).2).xs).length) (((tg.getD k tgE0).2).c)) 1 hs2 ha2 (fun _ h=>h) r0 r0 one24) (cl ⟨_,rfl,rfl⟩ r0 (sBytesValid _ _ (Sl.up0 (htg_in _ (getD_mem' (by omega))) hs2)) ?_))
  rintro _ w3 ⟨rfl,hs3⟩
  replace hs3:=hs2.call0 hs3
  refine qh r0 (nt r0) (qt r0 (pf (v:=.bool (!(isBytes (((tg.getD k tgE0).2).xs)))) r0 r0) (tm (.bool (!(isBytes (((tg.getD k tgE0).2).xs)))) r0 (spl 26 r0 (fun h3=>?_) (fun h3=>?_))))
  ·have h4:=nbF h3
   exact gt5 r0 (gt5 r0 (gt5 r0 (gt5 r0 (gt5 r0 (gt5 r0 (gt5 r0 (qt r0 (pt (v:=.bool true) r0 r0) (nn (cdt r0 (sr (tA Z6 r0 (nn (rt (bR (tR (tR (bR (tR (fB r0 (by exact(tgs_no (k:=k) (by omega) (tgB_no (.inr (.inl ‹_›)))).symm) hs3)))))))))))))))))))
  have h5:=nbT h3
  refine qh r0 (mv (v:=.slice Atg tg.length ctg) r0) (qh r0 (mv (v:=I (k:Int)) r0) (ixwf (g:=gTgE) (zs:=tg) (fun _=>rfl) tgE0 k sl115 r0 r0 htg (by omega) (by omega) ⟨_,rfl,rfl⟩ r0 (fun a3 ha3=>?_)))
  refine qh r0 (fap 1 fo166_1 r0) (qh r0 (ldf (v:=.slice (((tg.getD k tgE0).2).A) ((((tg.getD k tgE0).2).xs).length) (((tg.getD k tgE0).2).c)) 1 hs3 ha3 (fun _ h=>h) r0 r0 one24) (qh r0 (lnA sl24 r0) (qh r0 (gtr r0 r0) (qt r0 (pf (v:=.bool (decide ((16:Int)<(((((tg.getD k tgE0).2).xs).length:Nat):Int)))) r0 r0) (nn (cdd r0 (fun h6=>?_) (fun h6=>?_)))))))
  ·exact sr (tA Z6 r0 (nn (rt (bR (tR (tR (bR (tR (fB r0 (by exact(tgs_no (k:=k) (by omega) (tgB_no (.inr (.inr (by omega))))).symm) hs3)))))))))
  refine sk (bN (nN (rg (tm (I (k:Int)) r0 (qt r0 (add r0 r0 (by exact⟨by omega,by omega⟩)) (tA (I ((k:Int)+1)) r0 (nl (nN ?_))))))))
  refine⟨(k+1),⟨(zR r0),(by omega),(all_step (d:=tgE0) (by omega) ha (tgB_yes (by omega) ‹_› (by omega))),hs3⟩,?_⟩
  omega
 refine ex (tE (tE (bE (nN (sr (tm (.slice Atg tg.length ctg) r0 (qt r0 (lnA sl115 r0) (qt r0 (leq r0 r0) (tA (.bool (decide ((tg.length:Int)≤4))) r0 (nl (nN (rt (fT (.bool (decide ((tg.length:Int)≤4))) r0 ?_)))))))))))))
 have e4:(decide ((tg.length:Int)≤4))=tagsOk (tgX tg):=by(rw[tgs_all (k:=k) (by omega) ha]; exact decide_eq_decide.2 (by omega))
 exact⟨(congrArg (Value.bool) e4),hs1⟩
theorem sLineText (ka:Int) {Aqa:Option Addr} {cqa:Nat} (qa:List Int) (na:List UInt8) (pa:Int) (kb:Int) {Aqb:Option Addr} {cqb:Nat} (qb:List Int) (nb:List UInt8) (pb:Int) (w:World) (hqa:Sl w [] 1 Aqa qa.length cqa (qa.map I)) (hna_n:na.length≤1099511627776) (hqb:Sl w [] 1 Aqb qb.length cqb (qb.map I)) (hnb_n:nb.length≤1099511627776):Does Tryz.prog 145 [.agg #[I ka,.slice Aqa qa.length cqa,Str na,I pa,I kb,.slice Aqb qb.length cqb,Str nb,I pb]] w (fun v w'=>v=Str (lineT ((ka,qa,na,pa),(kb,qb,nb,pb)))∧SH w w' [] []):=by
 refine fE (N:=8) Tryz.func145 r0 (by kernel_rfl) r0 ?_
 have hs0:=SH.refl w []
 have hqa_m:qa.length≤9223372036854775807:=Nat.le_trans hqa.cap hqa.capMax
 have hqb_m:qb.length≤9223372036854775807:=Nat.le_trans hqb.cap hqb.capMax
 refine sr (bx (v:=.agg #[I ka,(Z4 Aqa qa cqa),Str na,I pa,I kb,(Z4 Aqb qb cqb),Str nb,I pb]) (cs:=[I ka,(Z4 Aqa qa cqa),Str na,I pa,I kb,(Z4 Aqb qb cqb),Str nb,I pb]) hs0 r0 r0 trivial r0 (fun b1 w1 hs1=>?_))
 refine tA (Str []) r0 (nn (sq (sr (qt r0 (lG [I ka,(Z4 Aqa qa cqa),Str na,I pa,I kb,(Z4 Aqb qb cqb),Str nb,I pb] hs1 0 r0 ag112) (cS hs1 r0 (sPairValid _ _ _ _ _ _ _ _ _ (hqa.up0 hs1) (by omega) (hqb.up0 hs1) (by omega)) (fun w2 hs2=>?_))))))
 refine qt r0 (nt r0) (nn (cd r0 (fun h1=>?_) (fun h1=>?_)))
 ·have h2:=nbF h1
  exact sr (tA (Str []) r0 (nn (rt (tR (fS r0 (by exact(lineT_n ‹_›).symm) (hs2.pk [] r0))))))
 have h3:=nbT h1
 refine sk (nN (sr (qt r0 (lG [I ka,(Z4 Aqa qa cqa),Str na,I pa,I kb,(Z4 Aqb qb cqb),Str nb,I pb] hs2 0 r0 ag112) (cS hs2 r0 (sL15Line _ _ _ _ _ _ _ _ _ (hqa.up0 hs2) (by omega) (hqb.up0 hs2) (by omega) (by exact pairB_y ‹_›)) (fun w3 hs3=>?_)))))
 refine tA (Str (lineW ((ka,qa,na,pa),(kb,qb,nb,pb)))) r0 (nn (rt (fT (Str (lineW ((ka,qa,na,pa),(kb,qb,nb,pb)))) r0 ?_)))
 have e2:lineW ((ka,qa,na,pa),(kb,qb,nb,pb))=lineT ((ka,qa,na,pa),(kb,qb,nb,pb)):=by exact(lineT_y ‹_›).symm
 exact⟨(congrArg (Str) e2),(hs3.pk [] r0)⟩
theorem sKindText (z:Int) (w:World):Does Tryz.prog 51 [I z] w (fun v w'=>v=Str (kindText z)∧SH w w' [] []):=by
 refine fE (N:=18) Tryz.func51 r0 (by kernel_rfl) r0 ?_
 have hs0:=SH.refl w []
 refine sr (tA (Str []) r0 (nn (sq (sr (tm (I z) r0 (nn (bl (sr (qt r0 (eqi r0 r0) (tA (.bool (decide (z=0))) r0 (nn (cdd r0 (fun h1=>?_) (fun h1=>?_)))))))))))))
 ·exact sr (tA (Str [109,111,114,101]) r0 (nn (rt (bR (tR (fS r0 (by(try subst_vars); rfl) hs0))))))
 refine sr (qt r0 (eqi r0 r0) (tA (Z88 z) r0 (nn (cdd r0 (fun h2=>?_) (fun h2=>?_)))))
 ·exact sr (tA (Str [111,108,100]) r0 (nn (rt (bR (tR (fS r0 (by(try subst_vars); rfl) hs0))))))
 refine sr (qt r0 (eqi r0 r0) (tA (.bool (decide (z=2))) r0 (nn (cdd r0 (fun h3=>?_) (fun h3=>?_)))))
 ·exact sr (tA (Str [104,101,108,108,111]) r0 (nn (rt (bR (tR (fS r0 (by(try subst_vars); rfl) hs0))))))
 refine sr (qt r0 (eqi r0 r0) (tA (.bool (decide (z=3))) r0 (nn (cdd r0 (fun h4=>?_) (fun h4=>?_)))))
 ·exact sr (tA (Str [116,117,110,110,101,108]) r0 (nn (rt (bR (tR (fS r0 (by(try subst_vars); rfl) hs0))))))
 refine sr (qt r0 (eqi r0 r0) (tA (.bool (decide (z=4))) r0 (nn (cdd r0 (fun h5=>?_) (fun h5=>?_)))))
 ·exact sr (tA (Str [108,105,110,101]) r0 (nn (rt (bR (tR (fS r0 (by(try subst_vars); rfl) hs0))))))
 refine sr (qt r0 (eqi r0 r0) (tA (.bool (decide (z=5))) r0 (nn (cdd r0 (fun h6=>?_) (fun h6=>?_)))))
 ·exact sr (tA (Str [104,101,97,100]) r0 (nn (rt (bR (tR (fS r0 (by(try subst_vars); rfl) hs0))))))
 refine sr (qt r0 (eqi r0 r0) (tA (.bool (decide (z=6))) r0 (nn (cdd r0 (fun h7=>?_) (fun h7=>?_)))))
 ·exact sr (tA (Str [111,116,104,101,114]) r0 (nn (rt (bR (tR (fS r0 (by(try subst_vars); rfl) hs0))))))
 refine sk (bN (nN (sr (tA (Str []) r0 (nn (rt (fT (Str []) r0 ?_)))))))
 have e8:[]=kindText z:=by(try subst_vars); exact(kindText_no (by omega)).symm
 exact⟨(congrArg (Str) e8),hs0⟩
theorem iKindText (z:Int) (w:World) (hGk:PA w [] ⟨1,0,none⟩ (kindTs.map Str)):Does Tryz.prog 74 [I z] w (fun v w'=>v=Str (kindText z)∧SH w w' [] []):=by
 refine fE (N:=9) Tryz.func74 r0 (by kernel_rfl) r0 ?_
 have hs0:=SH.refl w []
 refine sr (tA (Str []) r0 (nn (sq (sr (tm (I z) r0 (cS hs0 r0 (iWithin _ 0 6 _) (fun w1 hs1=>?_)))))))
 refine qt r0 (nd r0) (nn (cdd r0 (fun h1=>?_) (fun h1=>?_)))
 ·exact sr (tA (Str []) r0 (nn (rt (tR (fS r0 (by exact(kindText_no (by omega)).symm) hs1)))))
 refine sk (nN (sr (tm (I z) r0 (ixg1 (n:=7) z.toNat ar132 r0 (ieq (x:=z) (by omega)) hGk (by omega) (getm Str [] (by rw[kindTs_len]; omega)) trivial r0 (fun a1 ha1=>?_)))))
 refine qt r0 (lda hs1 ha1 (fun _ h=>h) r0 r0 one9) (tA (Str (kindTs.getD z.toNat [])) r0 (nn (rt (fT (Str (kindTs.getD z.toNat [])) r0 ?_))))
 have e2:kindTs.getD z.toNat []=kindText z:=by exact(kindText_yes (by omega)).symm
 exact⟨(congrArg (Str) e2),hs1⟩
theorem sL51State (k:Int) (w:World):Does Tryz.prog 8 [I k] w (fun v w'=>v=Str (stateT k)∧SH w w' [] []):=by
 refine fE (N:=12) Tryz.func8 r0 (by kernel_rfl) r0 ?_
 have hs0:=SH.refl w []
 refine sr (tA (Str []) r0 (nn (sq (sr (tm (I k) r0 (nn (bl (sr (qt r0 (eqi r0 r0) (tA (.bool (decide (k=0))) r0 (nn (cdd r0 (fun h1=>?_) (fun h1=>?_)))))))))))))
 ·exact sr (tA (Str [104,101,108,108,111]) r0 (nn (rt (bR (tR (fS r0 (by simp[stateT,h1]) hs0))))))
 refine sr (qt r0 (eqi r0 r0) (tA (Z88 k) r0 (nn (cdd r0 (fun h2=>?_) (fun h2=>?_)))))
 ·exact sr (tA (Str [108,111,103,105,110]) r0 (nn (rt (bR (tR (fS r0 (by simp[stateT,h1,h2]) hs0))))))
 refine sr (qt r0 (eqi r0 r0) (tA (.bool (decide (k=2))) r0 (nn (cdd r0 (fun h3=>?_) (fun h3=>?_)))))
 ·exact sr (tA (Str [114,101,113,117,101,115,116]) r0 (nn (rt (bR (tR (fS r0 (by simp[stateT,h1,h2,h3]) hs0))))))
 refine sr (qt r0 (eqi r0 r0) (tA (.bool (decide (k=3))) r0 (nn (cdd r0 (fun h4=>?_) (fun h4=>?_)))))
 ·exact sr (tA (Str [111,112,101,110]) r0 (nn (rt (bR (tR (fS r0 (by simp[stateT,h1,h2,h3,h4]) hs0))))))
 refine sk (bN (nN (sr (tA (Str [115,104,117,116]) r0 (nn (rt (fT (Str [115,104,117,116]) r0 ?_)))))))
 have e5:[115,104,117,116]=stateT k:=by simp[stateT,h1,h2,h3,h4]
 exact⟨(congrArg (Str) e5),hs0⟩
theorem sL51Bytes {Ab:Option Addr} {cb:Nat} (b:List Int) (f:Bool) (w:World) (hb:Sl w [] 1 Ab b.length cb (b.map I)):Does Tryz.prog 19 [.slice Ab b.length cb,.bool f] w (fun v w'=>v=Str (hexOrT b f++[10])∧SH w w' [] []):=by
 refine fE (N:=10) Tryz.func19 r0 (by kernel_rfl) r0 ?_
 have hs0:=SH.refl w []
 have hb_m:b.length≤9223372036854775807:=Nat.le_trans hb.cap hb.capMax
 refine sr (tA (Str []) r0 (nn (sq (sr (tm (.bool f) r0 (qt r0 (nt r0) (nn (cd r0 (fun h1=>?_) (fun h1=>?_)))))))))
 ·have h2:=nbF h1
  exact sr (tA (Str [110,111,10]) r0 (nn (rt (tR (fS r0 (by simp[hexOrT,h2]) hs0)))))
 have h3:=nbT h1
 refine sk (nN (sr (tm (Z14 Ab b cb) r0 (cS hs0 r0 (sHexText _ _ (hb.up0 hs0)) (fun w1 hs1=>?_)))))
 refine qt r0 (cat r0 r0 (by(have hxl:=hexText_len b; simp; omega))) (tA (Str ((hexText b)++[10])) r0 (nn (rt (fT (Str ((hexText b)++[10])) r0 ?_))))
 have e2:(hexText b)++[10]=(hexOrT b f++[10]):=by simp[hexOrT,h3]
 exact⟨(congrArg (Str) e2),hs1⟩
theorem iHexOr {Ab:Option Addr} {cb:Nat} (b:List Int) (f:Bool) (w:World) (hb:Sl w [] 1 Ab b.length cb (b.map I)):Does Tryz.prog 70 [.slice Ab b.length cb,.bool f] w (fun v w'=>v=Str (hexOrT b f)∧SH w w' [] []):=by
 refine fE (N:=9) Tryz.func70 r0 (by kernel_rfl) r0 ?_
 have hs0:=SH.refl w []
 have hb_m:b.length≤9223372036854775807:=Nat.le_trans hb.cap hb.capMax
 refine sr (tA (Str []) r0 (nn (sq (sr (tm (.bool f) r0 (qt r0 (nt r0) (nn (cd r0 (fun h1=>?_) (fun h1=>?_)))))))))
 ·have h2:=nbF h1
  exact sr (tA (Str [110,111]) r0 (nn (rt (tR (fS r0 (by simp[hexOrT,h2]) hs0)))))
 have h3:=nbT h1
 refine sk (nN (sr (tm (Z14 Ab b cb) r0 (cS hs0 r0 (iHexText _ _ (hb.up0 hs0)) (fun w1 hs1=>?_)))))
 refine tA (Str (hexText b)) r0 (nn (rt (fT (Str (hexText b)) r0 ?_)))
 have e2:hexText b=hexOrT b f:=by simp[hexOrT,h3]
 exact⟨(congrArg (Str) e2),hs1⟩
set_option maxHeartbeats 8000000 in
theorem sL51Login (s:List UInt8) (w:World) (hs_n:s.length≤1099511627776):Does Tryz.prog 22 [Str s] w (fun v w'=>v=.agg #[Str ((loginT s).1),Str ((loginT s).2)]∧SH w w' [] []):=by
 refine fE (N:=17) Tryz.func22 r0 (by kernel_rfl) r0 ?_
 have hs0:=SH.refl w []
 refine sr (al (cs:=Z65) hs0 tz31 r0 trivial r0 (fun b1 w1 hs1=>?_))
 refine nx (tm (Str s) r0 (cS2 hs1 r0 (l2Cut _ (47:UInt8) _ (by omega)) (fun A1 c1 w2 hs2=>?_)))
 refine tA (.slice A1 ((splitB (47:UInt8) s).length) c1) r0 (nn (sq (sr (tm (.slice A1 ((splitB (47:UInt8) s).length) c1) r0 (qt r0 (lnA sl51 r0) (qt r0 (nei r0 r0) (nn (cdd r0 (fun h1=>?_) (fun h1=>?_)))))))))
 ·refine sr (qt r0 (bdv (v:=.agg #[Str [],Str []]) [] r0 (fun _=>by kernel_rfl)) (sG Z65 hs2 0 r0 ag31 (fun w3 hs3=>?_)))
  refine nn (rt (tR (fret (resC hs3 1 r0 r0 ag31 r0 .nil) r0 ?_)))
  have e1:[]=(loginT s).1:=by(have hw2: ¬ (splitB 47 s).length=2:=(by omega); simp only[loginT,if_neg hw2])
  have e2:[]=(loginT s).2:=by(have hw2: ¬ (splitB 47 s).length=2:=(by omega); simp only[loginT,if_neg hw2])
  exact⟨(aggv (lc (congrArg (Str) e1) (lc (congrArg (Str) e2) r0))),(hs3.pk [] r0)⟩
 refine sk (nN (sq ?_))
 obtain ⟨b2,rfl⟩:=own_form hs2 1 r0 (by(have hw2:(splitB 47 s).length=2:=(by omega); omega))
 refine raJ (fun w'=>∃ L,SH w w' [] L∧(.own (Z8 b2) ((splitB (47:UInt8) s).length) c1 9 1 ((splitB (47:UInt8) s).map Str))∈L∧True) (fun f w'=>Hz f [(2,pB b1)]∧SH w w' [] [.blk b1 31 [(Z134 s),(Z133 s)],.own (Z8 b2) ((splitB (47:UInt8) s).length) c1 9 1 ((splitB (47:UInt8) s).map Str)]) mixed ?_ ?_
 ·refine dG 1 8 127 (fun f w'=>Hz f [(2,pB b1),(16,.agg #[(Z134 s),(Z133 s)])]∧SH w w' [] [.blk b1 31 Z65,.own (Z8 b2) ((splitB (47:UInt8) s).length) c1 9 1 ((splitB (47:UInt8) s).map Str)]) ?_ (fun D_4_0=>?_)
  ·rintro f w4 ⟨⟨g1,rfl⟩,hs4⟩
   refine aO 7 r0 (sG [(Z134 s),(Z133 s)] hs4 0 r0 ag31 (fun w5 hs5=>?_))
   refine nk (m1 hs5 0 r0) (ad (by kernel_rfl) ?_)
   exact⟨(zR r0),(hs5.pk [1,0] r0)⟩
  have hs6:=hs2.drew
  exact tk (fuel:=1) (is:=[0,1,2,3,4,5,6]) (.cons r0 (.cons r0 (.cons r0 (.cons r0 (.cons r0 (.cons r0 (.cons r0 (.nil)))))))) (by kernel_rfl) (by kernel_rfl) (m1 hs6 1 r0) (yA r0 (mv (v:=sb b2 ((splitB (47:UInt8) s).length) c1) r0) (yA r0 (ixo 0 sl51 r0 r0 (by omega)) (yB r0 (fun ⟨Lq,hsq,mh0,_⟩=>ldo1m (g:=Str) (ys:=splitB (47:UInt8) s) (o:=0) [] hsq mh0 r0 (by omega) one9) (yA r0 (mv (v:=sb b2 ((splitB (47:UInt8) s).length) c1) r0) (yA r0 (ixo 1 sl51 r0 r0 (by omega)) (yB r0 (fun ⟨Lq,hsq,mh0,_⟩=>ldo1m (g:=Str) (ys:=splitB (47:UInt8) s) (o:=1) [] hsq mh0 r0 (by omega) one9) (yA r0 (bdv (v:=.agg #[(Z134 s),(Z133 s)]) [(0,Str ((splitB (47:UInt8) s).getD 0 [])),(1,Str ((splitB (47:UInt8) s).getD 1 []))] r0 (fun _=>by kernel_rfl)) (.nil (alc D_4_0 ⟨(zR r0),hs6⟩)))))))))
 rintro f w6 ⟨⟨g2,rfl⟩,hs7⟩
 refine nN (rt (fret (resC hs7 0 r0 r0 ag31 r0 .nil) r0 ?_))
 have e3:(splitB (47:UInt8) s).getD 0 []=(loginT s).1:=by(have hw2:(splitB 47 s).length=2:=(by omega); simp only[loginT,if_pos hw2])
 have e4:(splitB (47:UInt8) s).getD 1 []=(loginT s).2:=by(have hw2:(splitB 47 s).length=2:=(by omega); simp only[loginT,if_pos hw2])
 exact⟨(aggv (lc (congrArg (Str) e3) (lc (congrArg (Str) e4) r0))),(hs7.pk [] r0)⟩
theorem sL14Begins (s:List UInt8) (t:List UInt8) (w:World) (hs_n:s.length≤1099511627776) (ht_n:t.length≤1099511627776):Does Tryz.prog 141 [Str s,Str t] w (fun v w'=>v=.bool (decide (preP s t))∧SH w w' [] []):=by
 refine fE (N:=18) Tryz.func141 r0 (by kernel_rfl) r0 ?_
 have hs0:=SH.refl w []
 refine sr (tA Z6 r0 (nx (tm (Str s) r0 (qt r0 (lnS st9 r0) (tm (Str t) r0 (qt r0 (lnS st9 r0) (qt r0 (geq r0 r0) (tm (Z154 t s) r0 (spd 10 r0 (fun h1=>?_) (fun h1=>?_))))))))))
 ·refine qh r0 (mv (v:=Str s) r0) (qh r0 (mv (v:=Str t) r0) (qh r0 (lnS st9 r0) (qh r0 (cuhs (l:=s) t.length st9 r0 r0 (by omega)) (qh r0 (mv (v:=Str t) r0) (qh r0 (eqs r0 r0) (qt r0 (pt (v:=.bool (decide (s.take t.length=t))) r0 r0) (tA (Z157 s t) r0 (nn (rt (fT (Z157 s t) r0 ?_))))))))))
  have e1:(decide (s.take t.length=t))=decide (preP s t):=by(have hx:t.length≤s.length:=(by omega); simp[preP,hx]; done)
  exact⟨(congrArg (Value.bool) e1),hs0⟩
 refine gf5 r0 (gf5 r0 (gf5 r0 (gf5 r0 (gf5 r0 (gf5 r0 (qt r0 (pf (v:=.bool false) r0 r0) (tA Z6 r0 (nn (rt (fT Z6 r0 ?_))))))))))
 have e2:false=decide (preP s t):=by(have hx: ¬ t.length≤s.length:=(by omega); simp[preP,hx]; done)
 exact⟨(congrArg (Value.bool) e2),hs0⟩
theorem sL4End {Ab:Option Addr} {cb:Nat} (b:List Int) (k0:Int) (w:World) (hb:Sl w [] 1 Ab b.length cb (b.map I)) (hk0:0≤k0):Does Tryz.prog 139 [.slice Ab b.length cb,I k0] w (fun v w'=>v=.int .i64 (zE b (Int.toNat k0))∧SH w w' [] []):=by
 refine fE (N:=19) Tryz.func139 r0 (by kernel_rfl) r0 ?_
 have hs0:=SH.refl w []
 have hb_m:b.length≤9223372036854775807:=Nat.le_trans hb.cap hb.capMax
 refine sr (tA (I 0) r0 (nn (sq (sr (tm (I k0) r0 (tA (I k0) r0 (nn (bl (lp (σ:=Nat) (fun(k:Nat) f w'=>Hz f [(0,.slice Ab b.length cb),(5,I (k:Int))]∧(k0.toNat≤k)∧(k≤b.length∨k=k0.toNat)∧(∀ j,k0.toNat≤j→j<k→b.getD j 0≠0)∧SH w w' [] []) (fun k=>b.length-k) k0.toNat ⟨(zH ⟨rfl,(show (I k0:Value)=I (k0.toNat:Int) from congrArg (Value.int .i64) (by omega)),trivial⟩),(by omega),(by omega),(by intros; omega),hs0⟩ ?_)))))))))
 rintro k f w1 ⟨⟨g1,rfl⟩,hk,hz,ha,hs1⟩
 refine sq (sr (tm (I (k:Int)) r0 (tm (Z14 Ab b cb) r0 (qt r0 (lnA sl24 r0) (qt r0 (lss r0 r0) (nl (nN (cdd r0 (fun h1=>?_) (fun h1=>?_)))))))))
 ·refine sk (nN (sq (bl (sr (tm (Z14 Ab b cb) r0 (tm (I (k:Int)) r0 (ixw1 k sl24 r0 r0 hb (by omega) (getm I 0 (by omega)) trivial r0 (fun a1 ha1=>?_))))))))
  refine qt r0 (lda hs1 ha1 (fun _ h=>h) r0 r0 one3) (qt r0 (eqi r0 r0) (nn (cdd r0 (fun h2=>?_) (fun h2=>?_))))
  ·exact sr (tm (I (k:Int)) r0 (tA (I (k:Int)) r0 (nn (rt (bR (tR (tR (bR (tR (fI r0 (by exact(zE_at (by omega) (by omega) ha ‹_›).symm) hs1))))))))))
  refine sk (bN (nN (rg (tm (I (k:Int)) r0 (qt r0 (add r0 r0 (by exact⟨by omega,by omega⟩)) (tA (I ((k:Int)+1)) r0 (nl (nN ?_))))))))
  refine⟨(k+1),⟨(zH ⟨rfl,(show (I ((k:Int)+1):Value)=I (((k+1):Nat):Int) from congrArg (Value.int .i64) (by omega)),trivial⟩),(by omega),(by omega),(fun j h1 h2=>by rcases Nat.lt_or_ge j k with h | h; exact ha j h1 h; rw[show j=k by omega]; assumption),hs1⟩,?_⟩
  omega
 refine ex (tE (tE (bE (nN (sr (tA (I (-1)) r0 (nn (rt (fT (I (-1)) r0 ?_)))))))))
 have e2:(-1)=zE b (Int.toNat k0):=by exact(zE_none (k:=k) (by omega) ha).symm
 exact⟨(congrArg (Value.int .i64) e2),hs1⟩
theorem sL14Word (s:List UInt8) (k0:Int) (w:World) (hs_n:s.length≤1099511627776) (hk0:0≤k0∧k0≤1099511627776):Does Tryz.prog 142 [Str s,I k0] w (fun v w'=>v=Str (wordN s (Int.toNat k0))∧SH w w' [] []):=by
 refine fE (N:=21) Tryz.func142 r0 (by kernel_rfl) r0 ?_
 have hs0:=SH.refl w []
 refine sr (tA (Str []) r0 (nn (sq (sr (tm (I k0) r0 (tA (I k0) r0 (nn (bl (lp (σ:=Nat) (fun(k:Nat) f w'=>Hz f [(0,Str s),(1,I k0),(5,I (k:Int))]∧(k0.toNat≤k)∧(k≤s.length∨k=k0.toNat)∧(∀ j,k0.toNat≤j→j<k→s.getD j 0≠32)∧SH w w' [] []) (fun k=>s.length-k) k0.toNat ⟨(zH ⟨rfl,rfl,(show (I k0:Value)=I (k0.toNat:Int) from congrArg (Value.int .i64) (by omega)),trivial⟩),(by omega),(by omega),(by intros; omega),hs0⟩ ?_)))))))))
 rintro k f w1 ⟨⟨g1,rfl⟩,hk,hz,ha,hs1⟩
 refine sq (sr (tm (I (k:Int)) r0 (tm (Str s) r0 (qt r0 (lnS st9 r0) (qt r0 (lss r0 r0) (nl (nN (cdd r0 (fun h1=>?_) (fun h1=>?_)))))))))
 ·refine sk (nN (sq (bl (sr (tm (Str s) r0 (tm (I (k:Int)) r0 (qt r0 (ixs k st9 r0 r0 (by omega)) (qt r0 (eqi r0 r0) (nn (cdd r0 (fun h2=>?_) (fun h2=>?_)))))))))))
  ·exact sr (tm (Str s) r0 (tm (I k0) r0 (tm (I (k:Int)) r0 (qt r0 (cus (l:=s) k0.toNat k st9 r0 (ieq (x:=k0) (by omega)) r0 (by omega) (by omega)) (tA (Str ((s.take k).drop k0.toNat)) r0 (nl (nN (rt (bR (tR (tR (bR (tR (fS r0 (by exact(wordN_at (by omega) (by omega) ha (c32.1 ‹_›)).symm) hs1))))))))))))))
  refine sk (bN (nN (rg (tm (I (k:Int)) r0 (qt r0 (add r0 r0 (by exact⟨by omega,by omega⟩)) (tA (I ((k:Int)+1)) r0 (nl (nN ?_))))))))
  refine⟨(k+1),⟨(zH ⟨rfl,rfl,(show (I ((k:Int)+1):Value)=I (((k+1):Nat):Int) from congrArg (Value.int .i64) (by omega)),trivial⟩),(by omega),(by omega),(fun j h1 h2=>by rcases Nat.lt_or_ge j k with h | h; exact ha j h1 h; rw[show j=k by omega]; exact fun hh=>absurd (c32.2 hh) ‹_›),hs1⟩,?_⟩
  omega
 refine ex (tE (tE (bE (nN (sr (tA (Str []) r0 (nn (rt (fT (Str []) r0 ?_)))))))))
 have e2:[]=wordN s (Int.toNat k0):=by exact(wordN_none (k:=k) (by omega) ha).symm
 exact⟨(congrArg (Str) e2),hs1⟩
theorem sL15End (s:List UInt8) (w:World) (hs_n:s.length≤1099511627776):Does Tryz.prog 144 [Str s] w (fun v w'=>v=.int .i64 (endL s)∧SH w w' [] []):=by
 refine fE (N:=23) Tryz.func144 r0 (by kernel_rfl) r0 ?_
 have hs0:=SH.refl w []
 refine sr (tA (I 0) r0 (nn (sq (sr (tA (I 1) r0 (nn (bl (lp (σ:=Nat) (fun(k:Nat) f w'=>Hz f [(0,Str s),(3,I (k:Int))]∧(1≤k)∧(k≤s.length∨k=1)∧(∀ j,1≤j→j<k→ ¬ (s.getD (j-1) 0=13∧s.getD j 0=10))∧SH w w' [] []) (fun k=>s.length-k) 1 ⟨(zR r0),(by omega),(by omega),(by intros; omega),hs0⟩ ?_))))))))
 rintro k f w1 ⟨⟨g1,rfl⟩,hk,hz,ha,hs1⟩
 refine sq (sr (tm (I (k:Int)) r0 (tm (Str s) r0 (qt r0 (lnS st9 r0) (qt r0 (lss r0 r0) (nl (nN (cdd r0 (fun h1=>?_) (fun h1=>?_)))))))))
 ·refine sk (nN (sq (bl (sr (tm (Str s) r0 (tm (I (k:Int)) r0 (qt r0 (sub r0 r0 (by exact⟨by omega,by omega⟩)) (qt r0 (ixs (((k:Int)-1).toNat) st9 r0 (ieq (x:=(k:Int)-1) (by omega)) (by omega)) (qt r0 (eqi r0 r0) (tm (.bool (decide ((((s.getD (((k:Int)-1).toNat) 0).toNat:Nat):Int)=13))) r0 (spd 15 r0 (fun h2=>?_) (fun h2=>?_))))))))))))
  ·refine qh r0 (mv (v:=Str s) r0) (qh r0 (mv (v:=I (k:Int)) r0) (qh r0 (ixs k st9 r0 r0 (by omega)) (qh r0 (eqi r0 r0) (qt r0 (pt (v:=.bool (decide ((((s.getD k 0).toNat:Nat):Int)=10))) r0 r0) (nn (cdd r0 (fun h3=>?_) (fun h3=>?_)))))))
   ·exact sr (tm (I (k:Int)) r0 (qt r0 (add r0 r0 (by exact⟨by omega,by omega⟩)) (tA (I ((k:Int)+1)) r0 (nn (rt (bR (tR (tR (bR (tR (fI r0 (by(have e0_:((k:Int)-1).toNat=k-1:=(by omega); simp only[e0_]at*; exact(endL_yes (k:=k) (by omega) (by omega) ha ⟨c13.1 ‹_›,c10.1 ‹_›⟩).symm)) hs1)))))))))))
   refine sk (bN (nN (rg (tm (I (k:Int)) r0 (qt r0 (add r0 r0 (by exact⟨by omega,by omega⟩)) (tA (I ((k:Int)+1)) r0 (nl (nN ?_))))))))
   refine⟨(k+1),⟨(zR r0),(by omega),(by omega),(fun j h1 h2=>by rcases Nat.lt_or_ge j k with h | h; exact ha j h1 h; rw[show j=k by omega]; intro hh; have q1:=c13.2 hh.1; have q2:=c10.2 hh.2; omega),hs1⟩,?_⟩
   omega
  refine gf5 r0 (gf5 r0 (gf5 r0 (gf5 r0 (qt r0 (pf (v:=.bool false) r0 r0) (nn (cdf r0 (sk (bN (nN (rg (tm (I (k:Int)) r0 (qt r0 (add r0 r0 (by exact⟨by omega,by omega⟩)) (tA (I ((k:Int)+1)) r0 (nl (nN ?_)))))))))))))))
  refine⟨(k+1),⟨(zR r0),(by omega),(by omega),(fun j h1 h2=>by rcases Nat.lt_or_ge j k with h | h; exact ha j h1 h; rw[show j=k by omega]; intro hh; have q1:=c13.2 hh.1; have q2:=c10.2 hh.2; (simp_all; done)),hs1⟩,?_⟩
  omega
 refine ex (tE (tE (bE (nN (sr (tA (I (-1)) r0 (nn (rt (fT (I (-1)) r0 ?_)))))))))
 have e2:(-1)=endL s:=by exact(endL_no (k:=k) (by omega) ha).symm
 exact⟨(congrArg (Value.int .i64) e2),hs1⟩
set_option maxHeartbeats 8000000 in
theorem sOldFrom {Abs:Option Addr} {cbs:Nat} (bs:List Int) (w:World) (hbs:Sl w [] 1 Abs bs.length cbs (bs.map I)):Does Tryz.prog 91 [.slice Abs bs.length cbs] w (fun v w'=>∃ Aqr:Option Addr,∃ cqr:Nat,∃ c:Int,∃ ak:Int,∃ aq:List Int,∃ an:List UInt8,∃ apt:Int,∃ us:List UInt8,v=.tuple #[.agg #[.int .i64 c,.int .i64 ak,.slice Aqr aq.length cqr,Str an,.int .i64 apt,Str us],.int .i64 ((oldZ bs).1),.bool ((oldZ bs).2)]∧SH w w' [] [.own Aqr aq.length cqr 3 1 (aq.map I)]):=by
 refine fE (N:=94) Tryz.func91 r0 (by kernel_rfl) r0 ?_
 have hs0:=SH.refl w []
 have hbs_m:bs.length≤9223372036854775807:=Nat.le_trans hbs.cap hbs.capMax
 refine sr (al (cs:=Z23) hs0 tz60 r0 trivial r0 (fun b1 w1 hs1=>?_))
 refine tA (I 0) r0 (tA Z6 r0 (nn (sq (sr (tm (Z14 Abs bs cbs) r0 (cS hs1 r0 (sBytesValid _ _ (hbs.up0 hs1)) (fun w2 hs2=>?_)))))))
 refine qt r0 (nt r0) (tm (Z106 bs) r0 (spl 11 r0 (fun h1=>?_) (fun h1=>?_)))
 ·have h2:=nbF h1
  refine gt5 r0 (gt5 r0 (gt5 r0 (qt r0 (pt (v:=.bool true) r0 r0) (tm Z35 r0 (gt5 r0 (gt5 r0 (gt5 r0 (gt5 r0 (qt r0 (pt (v:=.bool true) r0 r0) (nn (cdt r0 (sr (qt r0 (bdv (v:=.agg #[I 0,I 0,ns,Str [],I 0,Str []]) [] r0 (fun _=>by kernel_rfl)) (sG Z23 hs2 0 r0 ag60 (fun w3 hs3=>?_)))))))))))))))
  refine tA (I 0) r0 (tA Z6 r0 (nn (rt (tR (fret (resC hs3 0 r0 r0 ag60 r0 (.tmp (.tmp .nil))) r0 ?_)))))
  have hs4:=hs3.nl [Z0] r0
  have e1:oldZ bs=(0,false):=by(have t8:Int.toNat 8=8:=rfl; (try simp only[t8]at*); exact oldZ_no (by exact .inl ‹_›))
  rw[e1]
  exact⟨none,0,0,0,([]:List Int),[],0,[],rfl,(hs4.pk [1] r0)⟩
 have h3:=nbT h1
 refine qh r0 (mv (v:=.slice Abs bs.length cbs) r0) (qh r0 (lnA sl24 r0) (qh r0 (lss r0 r0) (qt r0 (pf (v:=.bool (decide ((bs.length:Int)<9))) r0 r0) (tm (.bool (decide ((bs.length:Int)<9))) r0 (spd 16 r0 (fun h4=>?_) (fun h4=>?_))))))
 ·refine gt5 r0 (gt5 r0 (gt5 r0 (gt5 r0 (qt r0 (pt (v:=.bool true) r0 r0) (nn (cdt r0 (sr (qt r0 (bdv (v:=.agg #[I 0,I 0,ns,Str [],I 0,Str []]) [] r0 (fun _=>by kernel_rfl)) (sG Z23 hs2 0 r0 ag60 (fun w4 hs5=>?_))))))))))
  refine tA (I 0) r0 (tA Z6 r0 (nn (rt (tR (fret (resC hs5 0 r0 r0 ag60 r0 (.tmp (.tmp .nil))) r0 ?_)))))
  have hs6:=hs5.nl [Z0] r0
  have e2:oldZ bs=(0,false):=by(have t8:Int.toNat 8=8:=rfl; (try simp only[t8]at*); exact oldZ_no (by exact .inr (.inl (by omega))))
  rw[e2]
  exact⟨none,0,0,0,([]:List Int),[],0,[],rfl,(hs6.pk [1] r0)⟩
 refine qh r0 (mv (v:=.slice Abs bs.length cbs) r0) (ixw1 0 sl24 r0 r0 hbs (by omega) (getm I 0 (by omega)) ⟨_,rfl,rfl⟩ r0 (fun a1 ha1=>?_))
 refine qh r0 (lda hs2 ha1 (fun _ h=>h) r0 r0 one3) (qh r0 (nei r0 r0) (qt r0 (pf (v:=.bool (decide ((bs.getD 0 0)≠4))) r0 r0) (nn (cdd r0 (fun h5=>?_) (fun h5=>?_)))))
 ·refine sr (qt r0 (bdv (v:=.agg #[I 0,I 0,ns,Str [],I 0,Str []]) [] r0 (fun _=>by kernel_rfl)) (sG Z23 hs2 0 r0 ag60 (fun w5 hs7=>?_)))
  refine tA (I 0) r0 (tA Z6 r0 (nn (rt (tR (fret (resC hs7 0 r0 r0 ag60 r0 (.tmp (.tmp .nil))) r0 ?_)))))
  have hs8:=hs7.nl [Z0] r0
  have e3:oldZ bs=(0,false):=by(have t8:Int.toNat 8=8:=rfl; (try simp only[t8]at*); exact oldZ_no (by exact .inr (.inr (.inl ‹_›))))
  rw[e3]
  exact⟨none,0,0,0,([]:List Int),[],0,[],rfl,(hs8.pk [1] r0)⟩
 refine sk (nN (sr (tm (Z14 Abs bs cbs) r0 (cS hs2 r0 (sL4End _ 8 _ (hbs.up0 hs2) (by omega)) (fun w6 hs9=>?_)))))
 refine tA (I (zE bs (Int.toNat 8))) r0 (nn (sq (sr (tm (I (zE bs (Int.toNat 8))) r0 (qt r0 (lss r0 r0) (nn (cdd r0 (fun h6=>?_) (fun h6=>?_))))))))
 ·refine sr (qt r0 (bdv (v:=.agg #[I 0,I 0,ns,Str [],I 0,Str []]) [] r0 (fun _=>by kernel_rfl)) (sG Z23 hs9 0 r0 ag60 (fun w7 hs10=>?_)))
  refine tA (I 0) r0 (tA Z6 r0 (nn (rt (tR (fret (resC hs10 0 r0 r0 ag60 r0 (.tmp (.tmp .nil))) r0 ?_)))))
  have hs11:=hs10.nl [Z0] r0
  have e4:oldZ bs=(0,false):=by(have t8:Int.toNat 8=8:=rfl; (try simp only[t8]at*); exact oldZ_no (by exact .inr (.inr (.inr (.inl ‹_›)))))
  rw[e4]
  exact⟨none,0,0,0,([]:List Int),[],0,[],rfl,(hs11.pk [1] r0)⟩
 refine sk (nN (sq ?_))
 refine raJ (fun w'=>∃ L,SH w w' [] L∧(.blk b1 60 Z23)∈L∧True) (fun f w'=>∃ (b8':Nat),Hz f [(0,.slice Abs bs.length cbs),(2,pB b1),(5,I (zE bs (Int.toNat 8))),(6,pB b8')]∧SH w w' [] [.blk b1 60 Z23,.blk b8' 60 [(Z135 bs),I 0,ns,Str [],I 0,Str (Z48 bs)]]) mixed ?_ ?_
 ·refine dG 1 10 511 (fun f w'=>∃ (b8':Nat),Hz f [(0,.slice Abs bs.length cbs),(2,pB b1),(5,I (zE bs (Int.toNat 8))),(6,pB b8'),(35,.agg #[(Z135 bs),I 0,ns,Str [],I 0,Str (Z48 bs)])]∧SH w w' [] [.blk b1 60 Z23,.blk b8' 60 Z23]) ?_ (fun D_6_0=>?_)
  ·rintro f w8 ⟨b8',⟨g1,rfl⟩,hs12⟩
   refine aO 9 r0 (sG [(Z135 bs),I 0,ns,Str [],I 0,Str (Z48 bs)] hs12 1 r0 ag60 (fun w9 hs13=>?_))
   refine nk (m1 hs13 0 r0) (ad (by kernel_rfl) ?_)
   exact⟨b8',(zR r0),hs13⟩
  refine dG 2 10 255 (fun f w'=>Hz f [(0,.slice Abs bs.length cbs),(2,pB b1),(5,I (zE bs (Int.toNat 8))),(35,.agg #[(Z135 bs),I 0,ns,Str [],I 0,Str (Z48 bs)])]∧SH w w' [] [.blk b1 60 Z23]) ?_ (fun D_6_1=>?_)
  ·rintro f w10 ⟨⟨g2,rfl⟩,hs14⟩
   refine aO 8 r0 (al (cs:=Z23) hs14 tz60 r0 trivial r0 (fun b8' w11 hs15=>?_))
   exact nk (m1 hs15 0 r0) (alc D_6_0 ⟨b8',(zR r0),hs15⟩)
  refine dG 3 10 319 (fun f w'=>∃ (b8':Nat),Hz f [(0,.slice Abs bs.length cbs),(2,pB b1),(5,I (zE bs (Int.toNat 8))),(6,pB b8'),(30,I (bs.getD 1 0)),(33,.slice (if cbs=8 then Abs else Abs.map (·.add (8*1))) (((bs.take ((zE bs (Int.toNat 8)).toNat)).drop 8).length) (cbs-8))]∧SH w w' [] [.blk b1 60 Z23,.blk b8' 60 Z23]) ?_ (fun D_6_2=>?_)
  ·rintro f w12 ⟨b8',⟨g3,rfl⟩,hs16⟩
   have hbl:=isBytes_len (by assumption:isBytes bs=true)
   have hz1:=zE_bd bs (Int.toNat 8)
   have hz2:=zE_bd bs (Int.toNat (zE bs (Int.toNat 8)+1))
   refine aO 6 r0 (cS hs16 r0 (sL1Bytes _ _ (Sl.cutm (hbs.up0 hs16) (by((try simp only[List.length_drop,List.length_take,List.length_nil,List.length_append]); omega)) (by((try simp only[List.length_drop,List.length_take,List.length_nil,List.length_append]); omega))) (by exact sub_byte ‹_›) (by((try simp only[List.length_drop,List.length_take,List.length_nil,List.length_append]); omega))) (fun w13 hs17=>?_))
   exact nk (m1 hs17 0 r0) (tk (fuel:=1) (is:=[7]) (.cons r0 (.nil)) (by kernel_rfl) (by kernel_rfl) (m1 hs17 0 r0) (yA r0 (bdv (v:=.agg #[(Z135 bs),I 0,ns,Str [],I 0,Str (Z48 bs)]) [(0,I (bs.getD 1 0)),(2,Str (Z48 bs))] r0 (fun _=>by kernel_rfl)) (.nil (alc D_6_0 ⟨b8',(zR r0),hs17⟩))))
  refine dG 4 10 63 (fun f w'=>Hz f [(0,.slice Abs bs.length cbs),(2,pB b1),(5,I (zE bs (Int.toNat 8))),(30,I (bs.getD 1 0)),(33,.slice (if cbs=8 then Abs else Abs.map (·.add (8*1))) (((bs.take ((zE bs (Int.toNat 8)).toNat)).drop 8).length) (cbs-8))]∧SH w w' [] [.blk b1 60 Z23]) ?_ (fun D_6_3=>?_)
  ·rintro f w14 ⟨⟨g4,rfl⟩,hs18⟩
   refine aaL [6,8] (fa_cons ?_ (fa_one ?_))
   ·have hbl:=isBytes_len (by assumption:isBytes bs=true)
    have hz1:=zE_bd bs (Int.toNat 8)
    have hz2:=zE_bd bs (Int.toNat (zE bs (Int.toNat 8)+1))
    refine one_ r0 (cS hs18 r0 (sL1Bytes _ _ (Sl.cutm (hbs.up0 hs18) (by((try simp only[List.length_drop,List.length_take,List.length_nil,List.length_append]); omega)) (by((try simp only[List.length_drop,List.length_take,List.length_nil,List.length_append]); omega))) (by exact sub_byte ‹_›) (by((try simp only[List.length_drop,List.length_take,List.length_nil,List.length_append]); omega))) (fun w15 hs19=>?_))
    exact nk (m1 hs19 0 r0) (tk (fuel:=2) (is:=[7]) (.cons r0 (.nil)) (by kernel_rfl) (by kernel_rfl) (m1 hs19 0 r0) (yA r0 (bdv (v:=.agg #[(Z135 bs),I 0,ns,Str [],I 0,Str (Z48 bs)]) [(0,I (bs.getD 1 0)),(2,Str (Z48 bs))] r0 (fun _=>by kernel_rfl)) (.nil (alc D_6_1 ⟨(zR r0),hs19⟩))))
   refine one_ r0 (al (cs:=Z23) hs18 tz60 r0 trivial r0 (fun b8' w16 hs20=>?_))
   exact nk (m1 hs20 0 r0) (alc D_6_2 ⟨b8',(zR r0),hs20⟩)
  have hs21:=hs9.drew
  refine tk (fuel:=4) (is:=[0,1,2,3,4,5]) (.cons r0 (.cons r0 (.cons r0 (.cons r0 (.cons r0 (.cons r0 (.nil))))))) (by kernel_rfl) (by kernel_rfl) (m1 hs21 0 r0) (yA r0 (mv (v:=.slice Abs bs.length cbs) r0) (ixy1 1 sl24 r0 r0 hbs (by omega) (getm I 0 (by omega)) trivial r0 (fun a2 ha2=>?_)))
  have hbl:=isBytes_len (by assumption:isBytes bs=true)
  have hz1:=zE_bd bs (Int.toNat 8)
  have hz2:=zE_bd bs (Int.toNat (zE bs (Int.toNat 8)+1))
  exact yB r0 (fun ⟨Lq,hsq,mh0,_⟩=>lda hsq ha2 (fun _ h=>h) r0 r0 one3) (yA r0 (mv (v:=.slice Abs bs.length cbs) r0) (yA r0 (mv (v:=I (zE bs (Int.toNat 8))) r0) (yA r0 (cum (zs:=bs) 8 ((zE bs (Int.toNat 8)).toNat) sl24 r0 r0 (ieq (x:=zE bs (Int.toNat 8)) (by omega)) (by((try simp only[List.length_drop,List.length_take,List.length_nil,List.length_append]); omega)) (by((try simp only[List.length_drop,List.length_take,List.length_nil,List.length_append]); omega)) hbs.cap) (.nil (alc D_6_3 ⟨(zR r0),hs21⟩)))))
 rintro f w17 ⟨b8',⟨g5,rfl⟩,hs22⟩
 refine nN (sq ?_)
 refine raJ (fun w'=>∃ L,SH w w' [] L∧(.blk b1 60 Z23)∈L∧True) (fun f w'=>∃ (A3'':Option Addr) (c3'':Nat),Hz f [(0,.slice Abs bs.length cbs),(2,pB b1),(5,I (zE bs (Int.toNat 8))),(6,pB b8')]∧SH w w' [] [.blk b1 60 Z23,.blk b8' 60 (Z12 bs A3'' c3''),(Z55 A3'' bs c3'')]) mixed ?_ ?_
 ·refine dG 1 10 511 (fun f w'=>∃ (A3'':Option Addr) (c3'':Nat),Hz f [(0,.slice Abs bs.length cbs),(2,pB b1),(5,I (zE bs (Int.toNat 8))),(6,pB b8'),(43,.agg #[I 1,.slice A3'' (((bs.take 8).drop 4).length) c3'',Str [],(Z83 bs)]),(44,.pointer (Z128 b8'))]∧SH w w' [] [.blk b1 60 Z23,.blk b8' 60 [(Z135 bs),I 0,ns,Str [],I 0,Str (Z48 bs)],(Z55 A3'' bs c3'')]) ?_ (fun D_7_0=>?_)
  ·rintro f w18 ⟨A3'',c3'',⟨g6,rfl⟩,hs23⟩
   refine aO 9 r0 (sG [I 1,.slice A3'' (((bs.take 8).drop 4).length) c3'',Str [],(Z83 bs)] hs23 1 r0 ag54 (fun w19 hs24=>?_))
   refine nk (m1 hs24 0 r0) (ad (by kernel_rfl) ?_)
   exact⟨A3'',c3'',(zR r0),(hs24.pk [0,2,1] r0)⟩
  refine dG 4 10 63 (fun f w'=>∃ (A3'':Option Addr) (c3'':Nat),Hz f [(0,.slice Abs bs.length cbs),(2,pB b1),(5,I (zE bs (Int.toNat 8))),(6,pB b8'),(39,.slice A3'' (((bs.take 8).drop 4).length) c3''),(41,.slice (if cbs=2 then Abs else Abs.map (·.add (2*1))) (((bs.take 4).drop 2).length) (cbs-2))]∧SH w w' [] [.blk b1 60 Z23,.blk b8' 60 [(Z135 bs),I 0,ns,Str [],I 0,Str (Z48 bs)],(Z55 A3'' bs c3'')]) ?_ (fun D_7_1=>?_)
  ·rintro f w20 ⟨A3'',c3'',⟨g7,rfl⟩,hs25⟩
   refine aO 6 r0 (cS hs25 r0 (sL1Of _ _ (Sl.cutm (hbs.up0 hs25) (by omega) (by omega)) (by exact sub_byte ‹_›) (by((simp; omega)))) (fun w21 hs26=>?_))
   exact nk (m1 hs26 0 r0) (tk (fuel:=1) (is:=[7,8]) (.cons r0 (.cons r0 (.nil))) (by kernel_rfl) (by kernel_rfl) (m1 hs26 0 r0) (yA r0 (bdv (v:=.agg #[I 1,.slice A3'' (((bs.take 8).drop 4).length) c3'',Str [],(Z83 bs)]) [(0,I 1),(1,.slice A3'' (((bs.take 8).drop 4).length) c3''),(3,I (ofB ((bs.take 4).drop 2)))] r0 (fun _=>by kernel_rfl)) (yA r0 (fa 1 fo60_1 r0) (.nil (alc D_7_0 ⟨A3'',c3'',(zR r0),hs26⟩)))))
  refine dG 5 10 55 (fun f w'=>∃ (b0'':Nat),Hz f [(0,.slice Abs bs.length cbs),(2,pB b1),(5,I (zE bs (Int.toNat 8))),(6,pB b8'),(36,sb b0'' (([]:List Int).length) 0),(38,.slice (if cbs=4 then Abs else Abs.map (·.add (4*1))) (((bs.take 8).drop 4).length) (cbs-4)),(41,.slice (if cbs=2 then Abs else Abs.map (·.add (2*1))) (((bs.take 4).drop 2).length) (cbs-2))]∧SH w w' [] [.blk b1 60 Z23,.blk b8' 60 [(Z135 bs),I 0,ns,Str [],I 0,Str (Z48 bs)],(Z72 b0'')]) ?_ (fun D_7_2=>?_)
  ·rintro f w22 ⟨b0'',⟨g8,rfl⟩,hs27⟩
   refine aO 3 r0 (apm (g:=I) (ys:=([]:List Int)) (zs:=(bs.take 8).drop 4) hs27 2 r0 sl24 r0 r0 r0 (Sl.cutm (hbs.up0 hs27) (by omega) (by omega)) (fun _=>rfl) (by unfold maxLen; ((simp; omega))) (by((simp; omega))) trivial r0 (fun A3'' c3'' w23 hs28=>?_))
   exact nk (m1 hs28 0 r0) (alc D_7_1 ⟨A3'',c3'',(zR r0),hs28⟩)
  refine dG 6 10 54 (fun f w'=>Hz f [(0,.slice Abs bs.length cbs),(2,pB b1),(5,I (zE bs (Int.toNat 8))),(6,pB b8'),(38,.slice (if cbs=4 then Abs else Abs.map (·.add (4*1))) (((bs.take 8).drop 4).length) (cbs-4)),(41,.slice (if cbs=2 then Abs else Abs.map (·.add (2*1))) (((bs.take 4).drop 2).length) (cbs-2))]∧SH w w' [] [.blk b1 60 Z23,.blk b8' 60 [(Z135 bs),I 0,ns,Str [],I 0,Str (Z48 bs)]]) ?_ (fun D_7_3=>?_)
  ·rintro f w24 ⟨⟨g9,rfl⟩,hs29⟩
   refine aO 0 r0 (bsk hs29 sl24 [] [] trivial r0 (fun b0'' w25 hs30=>?_))
   exact nk (m1 hs30 0 r0) (alc D_7_2 ⟨b0'',(zR r0),hs30⟩)
  have hs31:=hs22.drew
  exact tk (fuel:=6) (is:=[1,2,4,5]) (.cons r0 (.cons r0 (.cons r0 (.cons r0 (.nil))))) (by kernel_rfl) (by kernel_rfl) (m1 hs31 0 r0) (yA r0 (mv (v:=.slice Abs bs.length cbs) r0) (yA r0 (cum (zs:=bs) 4 8 sl24 r0 r0 r0 (by omega) (by omega) hbs.cap) (yA r0 (mv (v:=.slice Abs bs.length cbs) r0) (yA r0 (cum (zs:=bs) 2 4 sl24 r0 r0 r0 (by omega) (by omega) hbs.cap) (.nil (alc D_7_3 ⟨(zR r0),hs31⟩))))))
 rintro f w26 ⟨A3'',c3'',⟨g10,rfl⟩,hs32⟩
 refine nN (sq (sr (tm (Z14 Abs bs cbs) r0 (ixw1 4 sl24 r0 r0 hbs (by omega) (getm I 0 (by omega)) trivial r0 (fun a3 ha3=>?_)))))
 refine qt r0 (lda hs32 ha3 (fun _ h=>h) r0 r0 one3) (qt r0 (eqi r0 r0) (tm (.bool (decide ((bs.getD 4 0)=0))) r0 (spd 49 r0 (fun h7=>?_) (fun h7=>?_))))
 ·refine qh r0 (mv (v:=.slice Abs bs.length cbs) r0) (ixw1 5 sl24 r0 r0 hbs (by omega) (getm I 0 (by omega)) ⟨_,rfl,rfl⟩ r0 (fun a4 ha4=>?_))
  refine qh r0 (lda hs32 ha4 (fun _ h=>h) r0 r0 one3) (qh r0 (eqi r0 r0) (qt r0 (pt (v:=.bool (decide ((bs.getD 5 0)=0))) r0 r0) (tm (.bool (decide ((bs.getD 5 0)=0))) r0 (spd 55 r0 (fun h8=>?_) (fun h8=>?_)))))
  ·refine qh r0 (mv (v:=.slice Abs bs.length cbs) r0) (ixw1 6 sl24 r0 r0 hbs (by omega) (getm I 0 (by omega)) ⟨_,rfl,rfl⟩ r0 (fun a5 ha5=>?_))
   refine qh r0 (lda hs32 ha5 (fun _ h=>h) r0 r0 one3) (qh r0 (eqi r0 r0) (qt r0 (pt (v:=.bool (decide ((bs.getD 6 0)=0))) r0 r0) (nn (cdd r0 (fun h9=>?_) (fun h9=>?_)))))
   ·have hbl:=isBytes_len (by assumption:isBytes bs=true)
    have hz1:=zE_bd bs (Int.toNat 8)
    have hz2:=zE_bd bs (Int.toNat (zE bs (Int.toNat 8)+1))
    refine sr (tm (Z14 Abs bs cbs) r0 (tm (I (zE bs (Int.toNat 8))) r0 (qt r0 (add r0 r0 (by((try simp only[List.length_drop,List.length_take,List.length_nil,List.length_append]); exact⟨by omega,by omega⟩))) (cS hs32 r0 (sL4End _ _ _ (hbs.up0 hs32) (by omega)) (fun w27 hs33=>?_)))))
    refine tA (I (zE bs (Int.toNat ((zE bs (Int.toNat 8))+1)))) r0 (nn (sq (sr (tm (I (zE bs (Int.toNat ((zE bs (Int.toNat 8))+1)))) r0 (qt r0 (lss r0 r0) (tm (.bool (decide ((zE bs (Int.toNat ((zE bs (Int.toNat 8))+1)))<0))) r0 (spd 67 r0 (fun h10=>?_) (fun h10=>?_))))))))
    ·refine gt5 r0 (gt5 r0 (gt5 r0 (gt5 r0 (qt r0 (pt (v:=.bool true) r0 r0) (nn (cdt r0 (sr (qt r0 (bdv (v:=.agg #[I 0,I 0,ns,Str [],I 0,Str []]) [] r0 (fun _=>by kernel_rfl)) (sG Z23 hs33 0 r0 ag60 (fun w28 hs34=>?_))))))))))
     refine tA (I 0) r0 (tA Z6 r0 (nn (rt (tR (tR (fret (resC hs34 2 r0 r0 ag60 r0 (.tmp (.tmp .nil))) r0 ?_))))))
     have hs35:=hs34.nl [Z0] r0
     have e5:oldZ bs=(0,false):=by(have t8:Int.toNat 8=8:=rfl; (try simp only[t8]at*); exact oldZ_no (by exact .inr (.inr (.inr (.inr ⟨⟨by assumption,by assumption,by assumption⟩,.inl ‹_›⟩)))))
     rw[e5]
     exact⟨none,0,0,0,([]:List Int),[],0,[],rfl,(hs35.pk [3] r0)⟩
    refine qh r0 (mv (v:=.slice Abs bs.length cbs) r0) (ixw1 7 sl24 r0 r0 hbs (by omega) (getm I 0 (by omega)) ⟨_,rfl,rfl⟩ r0 (fun a6 ha6=>?_))
    refine qh r0 (lda hs33 ha6 (fun _ h=>h) r0 r0 one3) (qh r0 (nei r0 r0) (qt r0 (pf (v:=.bool (decide ((bs.getD 7 0)≠1))) r0 r0) (nn (cdd r0 (fun h11=>?_) (fun h11=>?_)))))
    ·refine sr (qt r0 (bdv (v:=.agg #[I 0,I 0,ns,Str [],I 0,Str []]) [] r0 (fun _=>by kernel_rfl)) (sG Z23 hs33 0 r0 ag60 (fun w29 hs36=>?_)))
     refine tA (I 0) r0 (tA Z6 r0 (nn (rt (tR (tR (fret (resC hs36 2 r0 r0 ag60 r0 (.tmp (.tmp .nil))) r0 ?_))))))
     have hs37:=hs36.nl [Z0] r0
     have e6:oldZ bs=(0,false):=by(have t8:Int.toNat 8=8:=rfl; (try simp only[t8]at*); exact oldZ_no (by exact .inr (.inr (.inr (.inr ⟨⟨by assumption,by assumption,by assumption⟩,.inr ‹_›⟩)))))
     rw[e6]
     exact⟨none,0,0,0,([]:List Int),[],0,[],rfl,(hs37.pk [3] r0)⟩
    refine sk (nN (sq ?_))
    refine raJ (fun w'=>∃ L,SH w w' [] L∧(.blk b1 60 Z23)∈L∧True) (fun f w'=>∃ (b0''':Nat),Hz f [(2,pB b1),(6,pB b8'),(7,I (zE bs (Int.toNat ((zE bs (Int.toNat 8))+1))))]∧SH w w' [] [.blk b1 60 Z23,.blk b8' 60 [(Z135 bs),I 3,(Z56 b0'''),Str (Z28 bs),(Z83 bs),Str (Z48 bs)],(Z55 A3'' bs c3''),(Z72 b0''')]) mixed ?_ ?_
    ·refine dG 1 13 4095 (fun f w'=>∃ (b0''':Nat),Hz f [(2,pB b1),(6,pB b8'),(7,I (zE bs (Int.toNat ((zE bs (Int.toNat 8))+1)))),(84,.agg #[I 3,(Z56 b0'''),Str (Z28 bs),(Z83 bs)]),(85,.pointer (Z128 b8'))]∧SH w w' [] [.blk b1 60 Z23,.blk b8' 60 (Z12 bs A3'' c3''),(Z55 A3'' bs c3''),(Z72 b0''')]) ?_ (fun D_12_0=>?_)
     ·rintro f w30 ⟨b0''',⟨g11,rfl⟩,hs38⟩
      refine aO 12 r0 (sG [I 3,(Z56 b0'''),Str (Z28 bs),(Z83 bs)] hs38 1 r0 ag54 (fun w31 hs39=>?_))
      refine nk (m1 hs39 0 r0) (ad (by kernel_rfl) ?_)
      exact⟨b0''',(zR r0),(hs39.pk [0,3,1,2] r0)⟩
     refine dG 4 13 511 (fun f w'=>∃ (b0''':Nat),Hz f [(2,pB b1),(6,pB b8'),(7,I (zE bs (Int.toNat ((zE bs (Int.toNat 8))+1)))),(74,sb b0''' (([]:List Int).length) 0),(80,Str (Z28 bs)),(82,.slice (if cbs=2 then Abs else Abs.map (·.add (2*1))) (((bs.take 4).drop 2).length) (cbs-2))]∧SH w w' [] [.blk b1 60 Z23,.blk b8' 60 (Z12 bs A3'' c3''),(Z55 A3'' bs c3''),(Z72 b0''')]) ?_ (fun D_12_1=>?_)
     ·rintro f w32 ⟨b0''',⟨g12,rfl⟩,hs40⟩
      refine aO 9 r0 (cS hs40 r0 (sL1Of _ _ (Sl.cutm (hbs.up0 hs40) (by omega) (by omega)) (by exact sub_byte ‹_›) (by((simp; omega)))) (fun w33 hs41=>?_))
      exact nk (m1 hs41 0 r0) (tk (fuel:=1) (is:=[10,11]) (.cons r0 (.cons r0 (.nil))) (by kernel_rfl) (by kernel_rfl) (m1 hs41 0 r0) (yA r0 (bdv (v:=.agg #[I 3,(Z56 b0'''),Str (Z28 bs),(Z83 bs)]) [(0,I 3),(1,sb b0''' (([]:List Int).length) 0),(2,Str (Z28 bs)),(3,I (ofB ((bs.take 4).drop 2)))] r0 (fun _=>by kernel_rfl)) (yA r0 (fa 1 fo60_1 r0) (.nil (alc D_12_0 ⟨b0''',(zR r0),hs41⟩)))))
     refine dG 4 13 1022 (fun f w'=>Hz f [(2,pB b1),(6,pB b8'),(7,I (zE bs (Int.toNat ((zE bs (Int.toNat 8))+1)))),(80,Str (Z28 bs)),(83,I (ofB ((bs.take 4).drop 2)))]∧SH w w' [] [.blk b1 60 Z23,.blk b8' 60 (Z12 bs A3'' c3''),(Z55 A3'' bs c3'')]) ?_ (fun D_12_2=>?_)
     ·rintro f w34 ⟨⟨g13,rfl⟩,hs42⟩
      refine aO 0 r0 (bsk hs42 sl24 [] [] trivial r0 (fun b0''' w35 hs43=>?_))
      exact nk (m1 hs43 0 r0) (tk (fuel:=1) (is:=[10,11]) (.cons r0 (.cons r0 (.nil))) (by kernel_rfl) (by kernel_rfl) (m1 hs43 0 r0) (yA r0 (bdv (v:=.agg #[I 3,(Z56 b0'''),Str (Z28 bs),(Z83 bs)]) [(0,I 3),(1,sb b0''' (([]:List Int).length) 0),(2,Str (Z28 bs)),(3,I (ofB ((bs.take 4).drop 2)))] r0 (fun _=>by kernel_rfl)) (yA r0 (fa 1 fo60_1 r0) (.nil (alc D_12_0 ⟨b0''',(zR r0),hs43⟩)))))
     refine dG 5 13 447 (fun f w'=>∃ (b0''':Nat),Hz f [(2,pB b1),(6,pB b8'),(7,I (zE bs (Int.toNat ((zE bs (Int.toNat 8))+1)))),(74,sb b0''' (([]:List Int).length) 0),(79,.slice (if cbs=((zE bs (Int.toNat 8))+1).toNat then Abs else Abs.map (·.add ((((zE bs (Int.toNat 8))+1).toNat)*1))) (((bs.take ((zE bs (Int.toNat ((zE bs (Int.toNat 8))+1))).toNat)).drop (((zE bs (Int.toNat 8))+1).toNat)).length) (cbs-(((zE bs (Int.toNat 8))+1).toNat))),(82,.slice (if cbs=2 then Abs else Abs.map (·.add (2*1))) (((bs.take 4).drop 2).length) (cbs-2))]∧SH w w' [] [.blk b1 60 Z23,.blk b8' 60 (Z12 bs A3'' c3''),(Z55 A3'' bs c3''),(Z72 b0''')]) ?_ (fun D_12_3=>?_)
     ·rintro f w36 ⟨b0''',⟨g14,rfl⟩,hs44⟩
      refine aO 6 r0 (cS hs44 r0 (sL1Bytes _ _ (Sl.cutm (hbs.up0 hs44) (by((try simp only[List.length_drop,List.length_take,List.length_nil,List.length_append]); omega)) (by((try simp only[List.length_drop,List.length_take,List.length_nil,List.length_append]); omega))) (by exact sub_byte ‹_›) (by((try simp only[List.length_drop,List.length_take,List.length_nil,List.length_append]); omega))) (fun w37 hs45=>?_))
      exact nk (m1 hs45 0 r0) (alc D_12_1 ⟨b0''',(zR r0),hs45⟩)
     refine dG 5 13 510 (fun f w'=>Hz f [(2,pB b1),(6,pB b8'),(7,I (zE bs (Int.toNat ((zE bs (Int.toNat 8))+1)))),(80,Str (Z28 bs)),(82,.slice (if cbs=2 then Abs else Abs.map (·.add (2*1))) (((bs.take 4).drop 2).length) (cbs-2))]∧SH w w' [] [.blk b1 60 Z23,.blk b8' 60 (Z12 bs A3'' c3''),(Z55 A3'' bs c3'')]) ?_ (fun D_12_4=>?_)
     ·rintro f w38 ⟨⟨g15,rfl⟩,hs46⟩
      refine aaL [0,9] (fa_cons ?_ (fa_one ?_))
      ·refine one_ r0 (bsk hs46 sl24 [] [] trivial r0 (fun b0''' w39 hs47=>?_))
       exact nk (m1 hs47 0 r0) (alc D_12_1 ⟨b0''',(zR r0),hs47⟩)
      refine one_ r0 (cS hs46 r0 (sL1Of _ _ (Sl.cutm (hbs.up0 hs46) (by omega) (by omega)) (by exact sub_byte ‹_›) (by((simp; omega)))) (fun w40 hs48=>?_))
      exact nk (m1 hs48 0 r0) (alc D_12_2 ⟨(zR r0),hs48⟩)
     refine dG 6 13 446 (fun f w'=>Hz f [(2,pB b1),(6,pB b8'),(7,I (zE bs (Int.toNat ((zE bs (Int.toNat 8))+1)))),(79,.slice (if cbs=((zE bs (Int.toNat 8))+1).toNat then Abs else Abs.map (·.add ((((zE bs (Int.toNat 8))+1).toNat)*1))) (((bs.take ((zE bs (Int.toNat ((zE bs (Int.toNat 8))+1))).toNat)).drop (((zE bs (Int.toNat 8))+1).toNat)).length) (cbs-(((zE bs (Int.toNat 8))+1).toNat))),(82,.slice (if cbs=2 then Abs else Abs.map (·.add (2*1))) (((bs.take 4).drop 2).length) (cbs-2))]∧SH w w' [] [.blk b1 60 Z23,.blk b8' 60 (Z12 bs A3'' c3''),(Z55 A3'' bs c3'')]) ?_ (fun D_12_5=>?_)
     ·rintro f w41 ⟨⟨g16,rfl⟩,hs49⟩
      refine aaL [0,6] (fa_cons ?_ (fa_one ?_))
      ·refine one_ r0 (bsk hs49 sl24 [] [] trivial r0 (fun b0''' w42 hs50=>?_))
       exact nk (m1 hs50 0 r0) (alc D_12_3 ⟨b0''',(zR r0),hs50⟩)
      refine one_ r0 (cS hs49 r0 (sL1Bytes _ _ (Sl.cutm (hbs.up0 hs49) (by((try simp only[List.length_drop,List.length_take,List.length_nil,List.length_append]); omega)) (by((try simp only[List.length_drop,List.length_take,List.length_nil,List.length_append]); omega))) (by exact sub_byte ‹_›) (by((try simp only[List.length_drop,List.length_take,List.length_nil,List.length_append]); omega))) (fun w43 hs51=>?_))
      exact nk (m1 hs51 0 r0) (alc D_12_4 ⟨(zR r0),hs51⟩)
     have hs52:=hs33.drew
     exact tk (fuel:=6) (is:=[1,2,3,4,5,7,8]) (.cons r0 (.cons r0 (.cons r0 (.cons r0 (.cons r0 (.cons r0 (.cons r0 (.nil)))))))) (by kernel_rfl) (by kernel_rfl) (m1 hs52 0 r0) (yA r0 (mv (v:=.slice Abs bs.length cbs) r0) (yA r0 (mv (v:=I (zE bs (Int.toNat 8))) r0) (yA r0 (add r0 r0 (by((try simp only[List.length_drop,List.length_take,List.length_nil,List.length_append]); exact⟨by omega,by omega⟩))) (yA r0 (mv (v:=I (zE bs (Int.toNat ((zE bs (Int.toNat 8))+1)))) r0) (yA r0 (cum (zs:=bs) (((zE bs (Int.toNat 8))+1).toNat) ((zE bs (Int.toNat ((zE bs (Int.toNat 8))+1))).toNat) sl24 r0 (ieq (x:=(zE bs (Int.toNat 8))+1) (by omega)) (ieq (x:=zE bs (Int.toNat ((zE bs (Int.toNat 8))+1))) (by omega)) (by((try simp only[List.length_drop,List.length_take,List.length_nil,List.length_append]); omega)) (by((try simp only[List.length_drop,List.length_take,List.length_nil,List.length_append]); omega)) hbs.cap) (yA r0 (mv (v:=.slice Abs bs.length cbs) r0) (yA r0 (cum (zs:=bs) 2 4 sl24 r0 r0 r0 (by omega) (by omega) hbs.cap) (.nil (alc D_12_5 ⟨(zR r0),hs52⟩)))))))))
    rintro f w44 ⟨b0''',⟨g17,rfl⟩,hs53⟩
    refine nN (rg (tm (I (zE bs (Int.toNat ((zE bs (Int.toNat 8))+1)))) r0 (tA (I (zE bs (Int.toNat ((zE bs (Int.toNat 8))+1)))) r0 (nn (sq (sq (rg (qt r0 (lG [(Z135 bs),I 3,(Z56 b0'''),Str (Z28 bs),(Z83 bs),Str (Z48 bs)] hs53 1 r0 ag60) (cS hs53 r0 (sL4Ok (c:=bs.getD 1 0) (ak:=3) (Aaq:=(Z8 b0''')) (caq:=0) (aq:=([]:List Int)) (an:=bT ((bs.take ((zE bs (Int.toNat ((zE bs (Int.toNat 8))+1))).toNat)).drop (((zE bs (Int.toNat 8))+1).toNat))) (apt:=ofB ((bs.take 4).drop 2)) (us:=bT ((bs.take ((zE bs (Int.toNat 8)).toNat)).drop 8)) (w:=_) (haq:=(hs53.sl0 3 r0)) (han_n:=(by((try simp only[List.length_drop,List.length_take,List.length_nil,List.length_append]); (simp; omega)))) (hus_n:=(by((try simp only[List.length_drop,List.length_take,List.length_nil,List.length_append]); (simp; omega))))) (fun w45 hs54=>?_))))))))))
    refine qt r0 (nt r0) (nn (cd r0 (fun h12=>?_) (fun h12=>?_)))
    ·have h13:=nbF h12
     refine sr (qt r0 (bdv (v:=.agg #[I 0,I 0,ns,Str [],I 0,Str []]) [] r0 (fun _=>by kernel_rfl)) (sG Z23 hs54 0 r0 ag60 (fun w46 hs55=>?_)))
     refine tA (I 0) r0 (tA Z6 r0 (nn ?_))
     have hs56:=hs55.pq [3] r0
     refine rt (tR (fret (resC hs56 0 r0 r0 ag60 r0 (.tmp (.tmp .nil))) r0 ?_))
     have hs57:=hs56.nl [Z0] r0
     have e7:oldZ bs=(0,false):=by(have t8:Int.toNat 8=8:=rfl; (try simp only[t8]at*); exact oldZ_2 (b:=bs) (f:=false) ‹_› (by omega) (by omega) (by omega) ⟨by assumption,by assumption,by assumption⟩ (by omega) (by omega) ‹_›)
     rw[e7]
     exact⟨none,0,0,0,([]:List Int),[],0,[],rfl,(hs57.pk [1] r0)⟩
    have h14:=nbT h12
    refine sk (nN (sr (qt r0 (lG [(Z135 bs),I 3,(Z56 b0'''),Str (Z28 bs),(Z83 bs),Str (Z48 bs)] hs54 1 r0 ag60) (tm (I (zE bs (Int.toNat ((zE bs (Int.toNat 8))+1)))) r0 (qt r0 (add r0 r0 (by((try simp only[List.length_drop,List.length_take,List.length_nil,List.length_append]); exact⟨by omega,by omega⟩))) (sG [(Z135 bs),I 3,(Z56 b0'''),Str (Z28 bs),(Z83 bs),Str (Z48 bs)] hs54 0 r0 ag60 (fun w47 hs58=>?_)))))))
    refine tA (I ((zE bs (Int.toNat ((zE bs (Int.toNat 8))+1)))+1)) r0 (tA Z35 r0 (nn ?_))
    have hs59:=hs58.pq [2,3] r0
    refine rt (fret (resC hs59 1 r0 r0 ag60 r0 (.tmp (.tmp .nil))) r0 ?_)
    have e8:oldZ bs=((zE bs (Int.toNat ((zE bs (Int.toNat 8))+1)))+1,true):=by(have t8:Int.toNat 8=8:=rfl; (try simp only[t8]at*); exact oldZ_2 (b:=bs) (f:=true) ‹_› (by omega) (by omega) (by omega) ⟨by assumption,by assumption,by assumption⟩ (by omega) (by omega) ‹_›)
    rw[e8]
    exact⟨(Z8 b0'''),0,bs.getD 1 0,3,([]:List Int),bT ((bs.take ((zE bs (Int.toNat ((zE bs (Int.toNat 8))+1))).toNat)).drop (((zE bs (Int.toNat 8))+1).toNat)),ofB ((bs.take 4).drop 2),bT ((bs.take ((zE bs (Int.toNat 8)).toNat)).drop 8),rfl,(hs59.pk [0] r0)⟩
   refine sk (nN (sq (sr (qt r0 (lG (Z12 bs A3'' c3'') hs32 1 r0 ag60) (cS hs32 r0 (sL4Ok _ 1 _ [] _ _ _ (hs32.sl0 2 r0) (by((simp; done))) (by(have hbl:=isBytes_len (by assumption:isBytes bs=true); have hz1:=zE_bd bs (Int.toNat 8); have hz2:=zE_bd bs (Int.toNat (zE bs (Int.toNat 8)+1)); (try simp only[List.length_drop,List.length_take,List.length_nil,List.length_append]); (simp; omega)))) (fun w48 hs60=>?_))))))
   refine qt r0 (nt r0) (nn (cd r0 (fun h15=>?_) (fun h15=>?_)))
   ·have h16:=nbF h15
    refine sr (qt r0 (bdv (v:=.agg #[I 0,I 0,ns,Str [],I 0,Str []]) [] r0 (fun _=>by kernel_rfl)) (sG Z23 hs60 0 r0 ag60 (fun w49 hs61=>?_)))
    refine tA (I 0) r0 (tA Z6 r0 (nn (rt (tR (fret (resC hs61 2 r0 r0 ag60 r0 (.tmp (.tmp .nil))) r0 ?_)))))
    have hs62:=hs61.nl [Z0] r0
    have e9:oldZ bs=(0,false):=by(have t8:Int.toNat 8=8:=rfl; (try simp only[t8]at*); exact oldZ_1 (b:=bs) (f:=false) ‹_› (by omega) (by omega) (by omega) (fun hh=>by exact absurd hh.2.2 ‹_›) ‹_›)
    rw[e9]
    exact⟨none,0,0,0,([]:List Int),[],0,[],rfl,(hs62.pk [3] r0)⟩
   have h17:=nbT h15
   refine sk (nN (sr (qt r0 (lG (Z12 bs A3'' c3'') hs60 1 r0 ag60) (tm (I (zE bs (Int.toNat 8))) r0 (qt r0 (add r0 r0 (by(have hbl:=isBytes_len (by assumption:isBytes bs=true); have hz1:=zE_bd bs (Int.toNat 8); have hz2:=zE_bd bs (Int.toNat (zE bs (Int.toNat 8)+1)); (try simp only[List.length_drop,List.length_take,List.length_nil,List.length_append]); exact⟨by omega,by omega⟩))) (sG (Z12 bs A3'' c3'') hs60 0 r0 ag60 (fun w50 hs63=>?_)))))))
   refine tA (I ((zE bs (Int.toNat 8))+1)) r0 (tA Z35 r0 (nn (rt (fret (resC hs63 2 r0 r0 ag60 r0 (.tmp (.tmp .nil))) r0 ?_))))
   have e10:oldZ bs=((zE bs (Int.toNat 8))+1,true):=by(have t8:Int.toNat 8=8:=rfl; (try simp only[t8]at*); exact oldZ_1 (b:=bs) (f:=true) ‹_› (by omega) (by omega) (by omega) (fun hh=>by exact absurd hh.2.2 ‹_›) ‹_›)
   rw[e10]
   exact⟨A3'',c3'',bs.getD 1 0,1,(bs.take 8).drop 4,[],ofB ((bs.take 4).drop 2),bT ((bs.take ((zE bs (Int.toNat 8)).toNat)).drop 8),rfl,(hs63.pk [1] r0)⟩
  refine gf5 r0 (gf5 r0 (gf5 r0 (gf5 r0 (qt r0 (pf (v:=.bool false) r0 r0) (nn (cdf r0 (sk (nN (sq (sr (qt r0 (lG (Z12 bs A3'' c3'') hs32 1 r0 ag60) (cS hs32 r0 (sL4Ok _ 1 _ [] _ _ _ (hs32.sl0 2 r0) (by((simp; done))) (by(have hbl:=isBytes_len (by assumption:isBytes bs=true); have hz1:=zE_bd bs (Int.toNat 8); have hz2:=zE_bd bs (Int.toNat (zE bs (Int.toNat 8)+1)); (try simp only[List.length_drop,List.length_take,List.length_nil,List.length_append]); (simp; omega)))) (fun w51 hs64=>?_)))))))))))))
  refine qt r0 (nt r0) (nn (cd r0 (fun h18=>?_) (fun h18=>?_)))
  ·have h19:=nbF h18
   refine sr (qt r0 (bdv (v:=.agg #[I 0,I 0,ns,Str [],I 0,Str []]) [] r0 (fun _=>by kernel_rfl)) (sG Z23 hs64 0 r0 ag60 (fun w52 hs65=>?_)))
   refine tA (I 0) r0 (tA Z6 r0 (nn (rt (tR (fret (resC hs65 2 r0 r0 ag60 r0 (.tmp (.tmp .nil))) r0 ?_)))))
   have hs66:=hs65.nl [Z0] r0
   have e11:oldZ bs=(0,false):=by(have t8:Int.toNat 8=8:=rfl; (try simp only[t8]at*); exact oldZ_1 (b:=bs) (f:=false) ‹_› (by omega) (by omega) (by omega) (fun hh=>by exact absurd hh.2.1 ‹_›) ‹_›)
   rw[e11]
   exact⟨none,0,0,0,([]:List Int),[],0,[],rfl,(hs66.pk [3] r0)⟩
  have h20:=nbT h18
  refine sk (nN (sr (qt r0 (lG (Z12 bs A3'' c3'') hs64 1 r0 ag60) (tm (I (zE bs (Int.toNat 8))) r0 (qt r0 (add r0 r0 (by(have hbl:=isBytes_len (by assumption:isBytes bs=true); have hz1:=zE_bd bs (Int.toNat 8); have hz2:=zE_bd bs (Int.toNat (zE bs (Int.toNat 8)+1)); (try simp only[List.length_drop,List.length_take,List.length_nil,List.length_append]); exact⟨by omega,by omega⟩))) (sG (Z12 bs A3'' c3'') hs64 0 r0 ag60 (fun w53 hs67=>?_)))))))
  refine tA (I ((zE bs (Int.toNat 8))+1)) r0 (tA Z35 r0 (nn (rt (fret (resC hs67 2 r0 r0 ag60 r0 (.tmp (.tmp .nil))) r0 ?_))))
  have e12:oldZ bs=((zE bs (Int.toNat 8))+1,true):=by(have t8:Int.toNat 8=8:=rfl; (try simp only[t8]at*); exact oldZ_1 (b:=bs) (f:=true) ‹_› (by omega) (by omega) (by omega) (fun hh=>by exact absurd hh.2.1 ‹_›) ‹_›)
  rw[e12]
  exact⟨A3'',c3'',bs.getD 1 0,1,(bs.take 8).drop 4,[],ofB ((bs.take 4).drop 2),bT ((bs.take ((zE bs (Int.toNat 8)).toNat)).drop 8),rfl,(hs67.pk [1] r0)⟩
 refine gf5 r0 (gf5 r0 (gf5 r0 (gf5 r0 (qt r0 (pf (v:=.bool false) r0 r0) (tm Z6 r0 (gf5 r0 (gf5 r0 (gf5 r0 (gf5 r0 (qt r0 (pf (v:=.bool false) r0 r0) (nn (cdf r0 (sk (nN (sq (sr (qt r0 (lG (Z12 bs A3'' c3'') hs32 1 r0 ag60) (cS hs32 r0 (sL4Ok _ 1 _ [] _ _ _ (hs32.sl0 2 r0) (by((simp; done))) (by(have hbl:=isBytes_len (by assumption:isBytes bs=true); have hz1:=zE_bd bs (Int.toNat 8); have hz2:=zE_bd bs (Int.toNat (zE bs (Int.toNat 8)+1)); (try simp only[List.length_drop,List.length_take,List.length_nil,List.length_append]); (simp; omega)))) (fun w54 hs68=>?_)))))))))))))))))))
 refine qt r0 (nt r0) (nn (cd r0 (fun h21=>?_) (fun h21=>?_)))
 ·have h22:=nbF h21
  refine sr (qt r0 (bdv (v:=.agg #[I 0,I 0,ns,Str [],I 0,Str []]) [] r0 (fun _=>by kernel_rfl)) (sG Z23 hs68 0 r0 ag60 (fun w55 hs69=>?_)))
  refine tA (I 0) r0 (tA Z6 r0 (nn (rt (tR (fret (resC hs69 2 r0 r0 ag60 r0 (.tmp (.tmp .nil))) r0 ?_)))))
  have hs70:=hs69.nl [Z0] r0
  have e13:oldZ bs=(0,false):=by(have t8:Int.toNat 8=8:=rfl; (try simp only[t8]at*); exact oldZ_1 (b:=bs) (f:=false) ‹_› (by omega) (by omega) (by omega) (fun hh=>by exact absurd hh.1 ‹_›) ‹_›)
  rw[e13]
  exact⟨none,0,0,0,([]:List Int),[],0,[],rfl,(hs70.pk [3] r0)⟩
 have h23:=nbT h21
 refine sk (nN (sr (qt r0 (lG (Z12 bs A3'' c3'') hs68 1 r0 ag60) (tm (I (zE bs (Int.toNat 8))) r0 (qt r0 (add r0 r0 (by(have hbl:=isBytes_len (by assumption:isBytes bs=true); have hz1:=zE_bd bs (Int.toNat 8); have hz2:=zE_bd bs (Int.toNat (zE bs (Int.toNat 8)+1)); (try simp only[List.length_drop,List.length_take,List.length_nil,List.length_append]); exact⟨by omega,by omega⟩))) (sG (Z12 bs A3'' c3'') hs68 0 r0 ag60 (fun w56 hs71=>?_)))))))
 refine tA (I ((zE bs (Int.toNat 8))+1)) r0 (tA Z35 r0 (nn (rt (fret (resC hs71 2 r0 r0 ag60 r0 (.tmp (.tmp .nil))) r0 ?_))))
 have e14:oldZ bs=((zE bs (Int.toNat 8))+1,true):=by(have t8:Int.toNat 8=8:=rfl; (try simp only[t8]at*); exact oldZ_1 (b:=bs) (f:=true) ‹_› (by omega) (by omega) (by omega) (fun hh=>by exact absurd hh.1 ‹_›) ‹_›)
 rw[e14]
 exact⟨A3'',c3'',bs.getD 1 0,1,(bs.take 8).drop 4,[],ofB ((bs.take 4).drop 2),bT ((bs.take ((zE bs (Int.toNat 8)).toNat)).drop 8),rfl,(hs71.pk [1] r0)⟩
set_option maxHeartbeats 8000000 in
theorem sConnectFrom (s:List UInt8) (w:World) (hs_n:s.length≤2147483648):Does Tryz.prog 93 [Str s] w (fun v w'=>∃ Aqr:Option Addr,∃ cqr:Nat,∃ ak:Int,∃ aq:List Int,∃ an:List UInt8,∃ apt:Int,v=.tuple #[.agg #[.int .i64 ak,.slice Aqr aq.length cqr,Str an,.int .i64 apt],.int .i64 ((connZ s).1),.bool ((connZ s).2)]∧SH w w' [] [.own Aqr aq.length cqr 3 1 (aq.map I)]):=by
 refine fE (N:=31) Tryz.func93 r0 (by kernel_rfl) r0 ?_
 have hs0:=SH.refl w []
 refine sr (al (cs:=Z17) hs0 tz54 r0 trivial r0 (fun b1 w1 hs1=>?_))
 refine tA (I 0) r0 (tA Z6 r0 (nn (sq (sr (tm (Str s) r0 (cS hs1 r0 (sL14Begins _ [67,79,78,78,69,67,84,32] _ (by omega) (by((simp; done)))) (fun w2 hs2=>?_)))))))
 refine qt r0 (nt r0) (nn (cd r0 (fun h1=>?_) (fun h1=>?_)))
 ·have h2:=nbF h1
  refine sr (qt r0 (bdv (v:=.agg #[I 0,ns,Str [],I 0]) [] r0 (fun _=>by kernel_rfl)) (sG Z17 hs2 0 r0 ag54 (fun w3 hs3=>?_)))
  refine tA (I 0) r0 (tA Z6 r0 (nn (rt (tR (fret (resC hs3 0 r0 r0 ag54 r0 (.tmp (.tmp .nil))) r0 ?_)))))
  have hs4:=hs3.nl [Z0] r0
  have e1:connZ s=(0,false):=by(have t8:Int.toNat 8=8:=rfl; (try simp only[t8]at*); exact connZ_no (.inl (of_decide_eq_false ‹_›)))
  rw[e1]
  exact⟨none,0,0,([]:List Int),[],0,rfl,(hs4.pk [1] r0)⟩
 have h3:=nbT h1
 refine sk (nN (sr (tm (Str s) r0 (cS hs2 r0 (sL14Word _ 8 _ (by omega) (by omega)) (fun w4 hs5=>?_)))))
 have hwl:=wordN_len s (Int.toNat 8)
 have hnl:=addrFrom_nm (wordN s (Int.toNat 8))
 have hcl:=connT_len (addrFrom (wordN s (Int.toNat 8))).1.1 (addrFrom (wordN s (Int.toNat 8))).1.2.1 (addrFrom (wordN s (Int.toNat 8))).1.2.2.1 (addrFrom (wordN s (Int.toNat 8))).1.2.2.2
 refine cS2 hs5 r0 (sAddressFrom _ _ (by omega)) (fun Aq1 cq1 w5 hs6=>?_)
 refine tm (.tuple #[.agg #[(Z124 s),(Z112 Aq1 s cq1),(Z116 s),(Z121 s)],.bool ((addrFrom (wordN s (Int.toNat 8))).2)]) r0 (qt r0 (xt 0 r0 r0) (qt r0 (xt 1 r0 r0) (al (cs:=Z17) hs6 tz54 r0 trivial r0 (fun b2 w6 hs7=>?_))))
 refine sG (Z16 s Aq1 cq1) hs7 2 r0 ag54 (fun w7 hs8=>?_)
 refine tA (.bool ((addrFrom (wordN s (Int.toNat 8))).2)) r0 (nn (sq (sr (tm (.bool ((addrFrom (wordN s (Int.toNat 8))).2)) r0 (qt r0 (nt r0) (tm (.bool (!((addrFrom (wordN s (Int.toNat 8))).2))) r0 (spl 19 r0 (fun h4=>?_) (fun h4=>?_))))))))
 ·have h5:=nbF h4
  refine gt5 r0 (gt5 r0 (gt5 r0 (gt5 r0 (gt5 r0 (qt r0 (pt (v:=.bool true) r0 r0) (nn (cdt r0 (sr (qt r0 (bdv (v:=.agg #[I 0,ns,Str [],I 0]) [] r0 (fun _=>by kernel_rfl)) (sG Z17 hs8 0 r0 ag54 (fun w8 hs9=>?_)))))))))))
  refine tA (I 0) r0 (tA Z6 r0 (nn (rt (tR (fret (resC hs9 2 r0 r0 ag54 r0 (.tmp (.tmp .nil))) r0 ?_)))))
  have hs10:=hs9.nl [Z0] r0
  have e2:connZ s=(0,false):=by(have t8:Int.toNat 8=8:=rfl; (try simp only[t8]at*); exact connZ_no (.inr (.inl ‹_›)))
  rw[e2]
  exact⟨none,0,0,([]:List Int),[],0,rfl,(hs10.pk [3] r0)⟩
 have h6:=nbT h4
 refine qh r0 (mv (v:=Str s) r0) (qh r0 (lG (Z16 s Aq1 cq1) hs8 2 r0 ag54) (cl ⟨_,rfl,rfl⟩ r0 (sConnectText _ _ _ _ _ (hs8.sl0 1 r0) (by omega)) ?_))
 rintro _ w9 ⟨rfl,hs11⟩
 replace hs11:=hs8.call0 hs11
 refine cl ⟨_,rfl,rfl⟩ r0 (sL14Begins _ _ _ (by omega) (by omega)) ?_
 rintro _ w10 ⟨rfl,hs12⟩
 replace hs12:=hs11.call0 hs12
 refine qh r0 (nt r0) (qt r0 (pf (v:=.bool (!(decide (preP s (Z45 s))))) r0 r0) (nn (cd r0 (fun h7=>?_) (fun h7=>?_))))
 ·have h8:=nbF h7
  refine sr (qt r0 (bdv (v:=.agg #[I 0,ns,Str [],I 0]) [] r0 (fun _=>by kernel_rfl)) (sG Z17 hs12 0 r0 ag54 (fun w11 hs13=>?_)))
  refine tA (I 0) r0 (tA Z6 r0 (nn (rt (tR (fret (resC hs13 2 r0 r0 ag54 r0 (.tmp (.tmp .nil))) r0 ?_)))))
  have hs14:=hs13.nl [Z0] r0
  have e3:connZ s=(0,false):=by(have t8:Int.toNat 8=8:=rfl; (try simp only[t8]at*); exact connZ_no (.inr (.inr (of_decide_eq_false ‹_›))))
  rw[e3]
  exact⟨none,0,0,([]:List Int),[],0,rfl,(hs14.pk [3] r0)⟩
 have h9:=nbT h7
 refine sk (nN (sq ?_))
 refine raJ (fun w'=>∃ L,SH w w' [] L∧(.blk b2 54 (Z16 s Aq1 cq1))∈L∧True) (fun f w'=>Hz f [(2,pB b1),(3,I (((Z45 s).length:Nat):Int)),(4,.bool true)]∧SH w w' [] [.blk b1 54 (Z16 s Aq1 cq1),(Z92 Aq1 s cq1),.blk b2 54 (Z16 s Aq1 cq1)]) mixed ?_ ?_
 ·refine dG 3 7 15 (fun f w'=>Hz f [(2,pB b1),(3,I 0),(4,.bool false),(27,.agg #[(Z124 s),(Z112 Aq1 s cq1),(Z116 s),(Z121 s)]),(30,I (((Z45 s).length:Nat):Int))]∧SH w w' [] [.blk b1 54 Z17,(Z92 Aq1 s cq1),.blk b2 54 (Z16 s Aq1 cq1)]) ?_ (fun D_6_0=>?_)
  ·rintro f w12 ⟨⟨g1,rfl⟩,hs15⟩
   refine aO 4 r0 (sG (Z16 s Aq1 cq1) hs15 0 r0 ag54 (fun w13 hs16=>?_))
   refine nk (m1 hs16 1 r0) (tk (fuel:=0) (is:=[5,6]) (.cons r0 (.cons r0 (.nil))) (by kernel_rfl) (by kernel_rfl) (m1 hs16 1 r0) (yA r0 (asg (v:=I (((Z45 s).length:Nat):Int)) r0) (yA r0 (asg (v:=.bool true) r0) (.nil (ad (by kernel_rfl) ?_)))))
   exact⟨(zR r0),(hs16.pk [2,0,1] r0)⟩
  refine dG 5 7 3 (fun f w'=>Hz f [(2,pB b1),(3,I 0),(4,.bool false),(27,.agg #[(Z124 s),(Z112 Aq1 s cq1),(Z116 s),(Z121 s)]),(28,.agg #[(Z124 s),(Z112 Aq1 s cq1),(Z116 s),(Z121 s)])]∧SH w w' [] [.blk b1 54 Z17,(Z92 Aq1 s cq1),.blk b2 54 (Z16 s Aq1 cq1)]) ?_ (fun D_6_1=>?_)
  ·rintro f w14 ⟨⟨g2,rfl⟩,hs17⟩
   refine aO 2 r0 (cS hs17 r0 (sConnectText _ _ _ _ _ (hs17.sl0 1 r0) (by omega)) (fun w15 hs18=>?_))
   exact nk (m1 hs18 2 r0) (tk (fuel:=3) (is:=[3]) (.cons r0 (.nil)) (by kernel_rfl) (by kernel_rfl) (m1 hs18 2 r0) (yA r0 (lnS st9 r0) (.nil (alc D_6_0 ⟨(zR r0),hs18⟩))))
  have hs19:=hs12.drew
  exact tk (fuel:=5) (is:=[0,1]) (.cons r0 (.cons r0 (.nil))) (by kernel_rfl) (by kernel_rfl) (m1 hs19 2 r0) (yB r0 (fun ⟨Lq,hsq,mh0,_⟩=>ldgm (vs:=(Z16 s Aq1 cq1)) hsq mh0 r0 r0 r0 ag54) (yB r0 (fun ⟨Lq,hsq,mh0,_⟩=>ldgm (vs:=(Z16 s Aq1 cq1)) hsq mh0 r0 r0 r0 ag54) (.nil (alc D_6_1 ⟨(zR r0),hs19⟩))))
 rintro f w16 ⟨⟨g3,rfl⟩,hs20⟩
 refine nN (rt (fret (resC hs20 0 r0 r0 ag54 r0 (.tmp (.tmp .nil))) r0 ?_))
 have e4:connZ s=((((Z45 s).length:Nat):Int),true):=by(have t8:Int.toNat 8=8:=rfl; (try simp only[t8]at*); exact connZ_yes (of_decide_eq_true ‹_›) ‹_› (of_decide_eq_true ‹_›))
 rw[e4]
 exact⟨Aq1,cq1,(addrFrom (wordN s (Int.toNat 8))).1.1,(addrFrom (wordN s (Int.toNat 8))).1.2.1,(addrFrom (wordN s (Int.toNat 8))).1.2.2.1,(addrFrom (wordN s (Int.toNat 8))).1.2.2.2,rfl,(hs20.pk [1] r0)⟩
set_option maxHeartbeats 8000000 in
theorem sLineFrom (s:List UInt8) (w:World) (hs_n:s.length≤2147483648):Does Tryz.prog 95 [Str s] w (fun v w'=>∃ Aqar:Option Addr,∃ cqar:Nat,∃ Aqbr:Option Addr,∃ cqbr:Nat,∃ ka:Int,∃ qa:List Int,∃ na:List UInt8,∃ pa:Int,∃ kb:Int,∃ qb:List Int,∃ nb:List UInt8,∃ pb:Int,v=.tuple #[.agg #[.int .i64 ka,.slice Aqar qa.length cqar,Str na,.int .i64 pa,.int .i64 kb,.slice Aqbr qb.length cqbr,Str nb,.int .i64 pb],.int .i64 ((lineZ s).1),.bool ((lineZ s).2)]∧SH w w' [] [.own Aqar qa.length cqar 3 1 (qa.map I),.own Aqbr qb.length cqbr 3 1 (qb.map I)]):=by
 refine fE (N:=48) Tryz.func95 r0 (by kernel_rfl) r0 ?_
 have hs0:=SH.refl w []
 refine sr (al (cs:=Z5) hs0 tz112 r0 trivial r0 (fun b1 w1 hs1=>?_))
 refine tA (I 0) r0 (tA Z6 r0 (nx (tm (Str s) r0 (cS hs1 r0 (sL15End _ _ (by omega)) (fun w2 hs2=>?_)))))
 refine tA (I (endL s)) r0 (nn (sq (sr (tm (I (endL s)) r0 (qt r0 (lss r0 r0) (nn (cdd r0 (fun h1=>?_) (fun h1=>?_))))))))
 ·refine sr (qt r0 (bdv (v:=.agg #[I 0,ns,Str [],I 0,I 0,ns,Str [],I 0]) [] r0 (fun _=>by kernel_rfl)) (sG Z5 hs2 0 r0 ag112 (fun w3 hs3=>?_)))
  refine tA (I 0) r0 (tA Z6 r0 (nn (rt (tR (fret (resC hs3 0 r0 r0 ag112 r0 (.tmp (.tmp .nil))) r0 ?_)))))
  have hs4:=hs3.nl [Z0] r0
  have hs5:=hs4.nl [Z0] r0
  have e1:lineZ s=(0,false):=by(have hel:=endL_le s; exact lineZ_no (.inl ‹_›))
  rw[e1]
  exact⟨none,0,none,0,0,([]:List Int),[],0,0,([]:List Int),[],0,rfl,(hs5.pk [1,2] r0)⟩
 have hlf:=line_f s
 have w2:=hlf.2.1 2
 have w3:=hlf.2.1 3
 have w4:=hlf.2.1 4
 have w5:=hlf.2.1 5
 refine sk (nN (sr (tm (Str s) r0 (tm (I (endL s)) r0 (qt r0 (sub r0 r0 (by(exact⟨by omega,by omega⟩))) (qt r0 (cuhs (l:=s) (((endL s)-2).toNat) st9 r0 (ieq (x:=(endL s)-2) (by omega)) (by omega)) (cS2 hs2 r0 (l2Cut _ (32:UInt8) _ (by((simp; omega)))) (fun A1 c1 w4 hs6=>?_))))))))
 refine tA (.slice A1 ((splitB (32:UInt8) (s.take (((endL s)-2).toNat))).length) c1) r0 (nn (sq (sr (tm (.slice A1 ((splitB (32:UInt8) (s.take (((endL s)-2).toNat))).length) c1) r0 (qt r0 (lnA sl51 r0) (qt r0 (nei r0 r0) (nn (cdd r0 (fun h2=>?_) (fun h2=>?_)))))))))
 ·refine sr (qt r0 (bdv (v:=.agg #[I 0,ns,Str [],I 0,I 0,ns,Str [],I 0]) [] r0 (fun _=>by kernel_rfl)) (sG Z5 hs6 0 r0 ag112 (fun w5 hs7=>?_)))
  refine tA (I 0) r0 (tA Z6 r0 (nn (rt (tR (fret (resC hs7 1 r0 r0 ag112 r0 (.tmp (.tmp .nil))) r0 ?_)))))
  have hs8:=hs7.nl [Z0] r0
  have hs9:=hs8.nl [Z0] r0
  have e2:lineZ s=(0,false):=by(have hel:=endL_le s; exact lineZ_n2 (by omega) ‹_›)
  rw[e2]
  exact⟨none,0,none,0,0,([]:List Int),[],0,0,([]:List Int),[],0,rfl,(hs9.pk [2,3] r0)⟩
 refine sk (nN (sq ?_))
 obtain ⟨b2,rfl⟩:=own_form hs6 1 r0 (by omega)
 refine raJ (fun w'=>∃ L,SH w w' [] L∧(.blk b1 112 Z5)∈L∧(.own (Z8 b2) ((splitB (32:UInt8) (s.take (((endL s)-2).toNat))).length) c1 9 1 ((splitB (32:UInt8) (s.take (((endL s)-2).toNat))).map Str))∈L∧True) (fun f w'=>∃ (b17':Nat) (Aq7':Option Addr) (cq7':Nat) (Aq15':Option Addr) (cq15':Nat),Hz f [(0,Str s),(2,pB b1),(5,I (endL s)),(7,pB b17')]∧SH w w' [] [.blk b1 112 Z5,.own (Z8 b2) ((splitB (32:UInt8) (s.take (((endL s)-2).toNat))).length) c1 9 1 ((splitB (32:UInt8) (s.take (((endL s)-2).toNat))).map Str),(Z36 Aq15' s cq15'),.blk b17' 112 (Z1 s Aq7' cq7' Aq15' cq15'),(Z11 Aq7' s cq7')]) mixed ?_ ?_
 ·refine dG 1 19 262143 (fun f w'=>∃ (b17':Nat) (Aq7':Option Addr) (cq7':Nat) (Aq15':Option Addr) (cq15':Nat),Hz f [(0,Str s),(2,pB b1),(5,I (endL s)),(7,pB b17'),(38,.agg #[(Z27 s),(Z21 Aq7' s cq7'),(Z22 s),(Z25 s),(Z46 s),(Z41 Aq15' s cq15'),(Z42 s),(Z43 s)])]∧SH w w' [] [.blk b1 112 Z5,.own (Z8 b2) ((splitB (32:UInt8) (s.take (((endL s)-2).toNat))).length) c1 9 1 ((splitB (32:UInt8) (s.take (((endL s)-2).toNat))).map Str),(Z36 Aq15' s cq15'),.blk b17' 112 Z5,(Z11 Aq7' s cq7')]) ?_ (fun D_7_0=>?_)
  ·rintro f w6 ⟨b17',Aq7',cq7',Aq15',cq15',⟨g1,rfl⟩,hs10⟩
   refine aO 18 r0 (sG (Z1 s Aq7' cq7' Aq15' cq15') hs10 3 r0 ag112 (fun w7 hs11=>?_))
   refine nk ⟨_,hs11,memi 0 r0,memi 1 r0,trivial⟩ (ad (by kernel_rfl) ?_)
   exact⟨b17',Aq7',cq7',Aq15',cq15',(zR r0),(hs11.pk [0,1,2,4,3] r0)⟩
  refine dG 2 19 131071 (fun f w'=>∃ (Aq7':Option Addr) (cq7':Nat) (Aq15':Option Addr) (cq15':Nat),Hz f [(0,Str s),(2,pB b1),(5,I (endL s)),(38,.agg #[(Z27 s),(Z21 Aq7' s cq7'),(Z22 s),(Z25 s),(Z46 s),(Z41 Aq15' s cq15'),(Z42 s),(Z43 s)])]∧SH w w' [] [.blk b1 112 Z5,.own (Z8 b2) ((splitB (32:UInt8) (s.take (((endL s)-2).toNat))).length) c1 9 1 ((splitB (32:UInt8) (s.take (((endL s)-2).toNat))).map Str),(Z36 Aq15' s cq15'),(Z11 Aq7' s cq7')]) ?_ (fun D_7_1=>?_)
  ·rintro f w8 ⟨Aq7',cq7',Aq15',cq15',⟨g2,rfl⟩,hs12⟩
   refine aO 17 r0 (al (cs:=Z5) hs12 tz112 r0 trivial r0 (fun b17' w9 hs13=>?_))
   exact nk ⟨_,hs13,memi 0 r0,memi 1 r0,trivial⟩ (alc D_7_0 ⟨b17',Aq7',cq7',Aq15',cq15',(zR r0),(hs13.pk [0,1,2,4,3] r0)⟩)
  refine dG 3 19 163839 (fun f w'=>∃ (b17':Nat) (Aq7':Option Addr) (cq7':Nat),Hz f [(0,Str s),(2,pB b1),(5,I (endL s)),(7,pB b17'),(29,.agg #[(Z27 s),(Z21 Aq7' s cq7'),(Z22 s),(Z25 s)]),(32,Str ((splitB (32:UInt8) (s.take (((endL s)-2).toNat))).getD 3 [])),(36,I (numD ((splitB (32:UInt8) (s.take (((endL s)-2).toNat))).getD 5 [])))]∧SH w w' [] [.blk b1 112 Z5,.own (Z8 b2) ((splitB (32:UInt8) (s.take (((endL s)-2).toNat))).length) c1 9 1 ((splitB (32:UInt8) (s.take (((endL s)-2).toNat))).map Str),.blk b17' 112 Z5,(Z11 Aq7' s cq7')]) ?_ (fun D_7_2=>?_)
  ·rintro f w10 ⟨b17',Aq7',cq7',⟨g3,rfl⟩,hs14⟩
   refine aO 15 r0 (cL r0 (sL3Of ((splitB (32:UInt8) (s.take (((endL s)-2).toNat))).getD 3 []) (numD ((splitB (32:UInt8) (s.take (((endL s)-2).toNat))).getD 5 [])) _ (by omega)) ?_)
   rintro _ w11 ⟨Aq15',cq15',rfl,hs15⟩
   replace hs15:=hs14.call0 hs15
   refine nk ⟨_,hs15,memi 0 r0,memi 1 r0,trivial⟩ (tk (fuel:=1) (is:=[16]) (.cons r0 (.nil)) (by kernel_rfl) (by kernel_rfl) ⟨_,hs15,memi 0 r0,memi 1 r0,trivial⟩ (yA r0 (bdv (v:=.agg #[(Z27 s),(Z21 Aq7' s cq7'),(Z22 s),(Z25 s),(Z46 s),(Z41 Aq15' s cq15'),(Z42 s),(Z43 s)]) [(0,.agg #[(Z27 s),(Z21 Aq7' s cq7'),(Z22 s),(Z25 s)]),(1,.agg #[(Z46 s),(Z41 Aq15' s cq15'),(Z42 s),(Z43 s)])] r0 (fun _=>by kernel_rfl)) (.nil ?_)))
   exact alc D_7_0 ⟨b17',Aq7',cq7',Aq15',cq15',(zR r0),(hs15.pk [0,1,4,2,3] r0)⟩
  refine dG 4 19 32767 (fun f w'=>∃ (Aq7':Option Addr) (cq7':Nat),Hz f [(0,Str s),(2,pB b1),(5,I (endL s)),(29,.agg #[(Z27 s),(Z21 Aq7' s cq7'),(Z22 s),(Z25 s)]),(32,Str ((splitB (32:UInt8) (s.take (((endL s)-2).toNat))).getD 3 [])),(36,I (numD ((splitB (32:UInt8) (s.take (((endL s)-2).toNat))).getD 5 [])))]∧SH w w' [] [.blk b1 112 Z5,.own (Z8 b2) ((splitB (32:UInt8) (s.take (((endL s)-2).toNat))).length) c1 9 1 ((splitB (32:UInt8) (s.take (((endL s)-2).toNat))).map Str),(Z11 Aq7' s cq7')]) ?_ (fun D_7_3=>?_)
  ·rintro f w12 ⟨Aq7',cq7',⟨g4,rfl⟩,hs16⟩
   refine aaL [15,17] (fa_cons ?_ (fa_one ?_))
   ·refine one_ r0 (cL r0 (sL3Of ((splitB (32:UInt8) (s.take (((endL s)-2).toNat))).getD 3 []) (numD ((splitB (32:UInt8) (s.take (((endL s)-2).toNat))).getD 5 [])) _ (by omega)) ?_)
    rintro _ w13 ⟨Aq15',cq15',rfl,hs17⟩
    replace hs17:=hs16.call0 hs17
    refine nk ⟨_,hs17,memi 0 r0,memi 1 r0,trivial⟩ (tk (fuel:=2) (is:=[16]) (.cons r0 (.nil)) (by kernel_rfl) (by kernel_rfl) ⟨_,hs17,memi 0 r0,memi 1 r0,trivial⟩ (yA r0 (bdv (v:=.agg #[(Z27 s),(Z21 Aq7' s cq7'),(Z22 s),(Z25 s),(Z46 s),(Z41 Aq15' s cq15'),(Z42 s),(Z43 s)]) [(0,.agg #[(Z27 s),(Z21 Aq7' s cq7'),(Z22 s),(Z25 s)]),(1,.agg #[(Z46 s),(Z41 Aq15' s cq15'),(Z42 s),(Z43 s)])] r0 (fun _=>by kernel_rfl)) (.nil ?_)))
    exact alc D_7_1 ⟨Aq7',cq7',Aq15',cq15',(zR r0),(hs17.pk [0,1,3,2] r0)⟩
   refine one_ r0 (al (cs:=Z5) hs16 tz112 r0 trivial r0 (fun b17' w14 hs18=>?_))
   exact nk ⟨_,hs18,memi 0 r0,memi 1 r0,trivial⟩ (alc D_7_2 ⟨b17',Aq7',cq7',(zR r0),(hs18.pk [0,1,3,2] r0)⟩)
  refine dG 4 19 147455 (fun f w'=>∃ (b17':Nat) (Aq7':Option Addr) (cq7':Nat),Hz f [(0,Str s),(2,pB b1),(5,I (endL s)),(7,pB b17'),(29,.agg #[(Z27 s),(Z21 Aq7' s cq7'),(Z22 s),(Z25 s)]),(32,Str ((splitB (32:UInt8) (s.take (((endL s)-2).toNat))).getD 3 [])),(35,Str ((splitB (32:UInt8) (s.take (((endL s)-2).toNat))).getD 5 []))]∧SH w w' [] [.blk b1 112 Z5,.own (Z8 b2) ((splitB (32:UInt8) (s.take (((endL s)-2).toNat))).length) c1 9 1 ((splitB (32:UInt8) (s.take (((endL s)-2).toNat))).map Str),.blk b17' 112 Z5,(Z11 Aq7' s cq7')]) ?_ (fun D_7_4=>?_)
  ·rintro f w15 ⟨b17',Aq7',cq7',⟨g5,rfl⟩,hs19⟩
   refine aO 14 r0 (cS hs19 r0 (sL2Number ((splitB (32:UInt8) (s.take (((endL s)-2).toNat))).getD 5 []) _ (by omega)) (fun w16 hs20=>?_))
   exact nk ⟨_,hs20,memi 0 r0,memi 1 r0,trivial⟩ (alc D_7_2 ⟨b17',Aq7',cq7',(zR r0),hs20⟩)
  refine dG 5 19 16383 (fun f w'=>∃ (Aq7':Option Addr) (cq7':Nat),Hz f [(0,Str s),(2,pB b1),(5,I (endL s)),(29,.agg #[(Z27 s),(Z21 Aq7' s cq7'),(Z22 s),(Z25 s)]),(32,Str ((splitB (32:UInt8) (s.take (((endL s)-2).toNat))).getD 3 [])),(35,Str ((splitB (32:UInt8) (s.take (((endL s)-2).toNat))).getD 5 []))]∧SH w w' [] [.blk b1 112 Z5,.own (Z8 b2) ((splitB (32:UInt8) (s.take (((endL s)-2).toNat))).length) c1 9 1 ((splitB (32:UInt8) (s.take (((endL s)-2).toNat))).map Str),(Z11 Aq7' s cq7')]) ?_ (fun D_7_5=>?_)
  ·rintro f w17 ⟨Aq7',cq7',⟨g6,rfl⟩,hs21⟩
   refine aaL [14,17] (fa_cons ?_ (fa_one ?_))
   ·refine one_ r0 (cS hs21 r0 (sL2Number ((splitB (32:UInt8) (s.take (((endL s)-2).toNat))).getD 5 []) _ (by omega)) (fun w18 hs22=>?_))
    exact nk ⟨_,hs22,memi 0 r0,memi 1 r0,trivial⟩ (alc D_7_3 ⟨Aq7',cq7',(zR r0),hs22⟩)
   refine one_ r0 (al (cs:=Z5) hs21 tz112 r0 trivial r0 (fun b17' w19 hs23=>?_))
   exact nk ⟨_,hs23,memi 0 r0,memi 1 r0,trivial⟩ (alc D_7_4 ⟨b17',Aq7',cq7',(zR r0),(hs23.pk [0,1,3,2] r0)⟩)
  refine dG 5 19 147327 (fun f w'=>∃ (b17':Nat),Hz f [(0,Str s),(2,pB b1),(5,I (endL s)),(7,pB b17'),(24,Str ((splitB (32:UInt8) (s.take (((endL s)-2).toNat))).getD 2 [])),(28,I (numD ((splitB (32:UInt8) (s.take (((endL s)-2).toNat))).getD 4 []))),(32,Str ((splitB (32:UInt8) (s.take (((endL s)-2).toNat))).getD 3 [])),(35,Str ((splitB (32:UInt8) (s.take (((endL s)-2).toNat))).getD 5 []))]∧SH w w' [] [.blk b1 112 Z5,.own (Z8 b2) ((splitB (32:UInt8) (s.take (((endL s)-2).toNat))).length) c1 9 1 ((splitB (32:UInt8) (s.take (((endL s)-2).toNat))).map Str),.blk b17' 112 Z5]) ?_ (fun D_7_6=>?_)
  ·rintro f w20 ⟨b17',⟨g7,rfl⟩,hs24⟩
   refine aO 7 r0 (cL r0 (sL3Of ((splitB (32:UInt8) (s.take (((endL s)-2).toNat))).getD 2 []) (numD ((splitB (32:UInt8) (s.take (((endL s)-2).toNat))).getD 4 [])) _ (by omega)) ?_)
   rintro _ w21 ⟨Aq7',cq7',rfl,hs25⟩
   replace hs25:=hs24.call0 hs25
   exact nk ⟨_,hs25,memi 0 r0,memi 1 r0,trivial⟩ (alc D_7_4 ⟨b17',Aq7',cq7',(zR r0),hs25⟩)
  refine dG 6 19 16255 (fun f w'=>Hz f [(0,Str s),(2,pB b1),(5,I (endL s)),(24,Str ((splitB (32:UInt8) (s.take (((endL s)-2).toNat))).getD 2 [])),(28,I (numD ((splitB (32:UInt8) (s.take (((endL s)-2).toNat))).getD 4 []))),(32,Str ((splitB (32:UInt8) (s.take (((endL s)-2).toNat))).getD 3 [])),(35,Str ((splitB (32:UInt8) (s.take (((endL s)-2).toNat))).getD 5 []))]∧SH w w' [] [.blk b1 112 Z5,.own (Z8 b2) ((splitB (32:UInt8) (s.take (((endL s)-2).toNat))).length) c1 9 1 ((splitB (32:UInt8) (s.take (((endL s)-2).toNat))).map Str)]) ?_ (fun D_7_7=>?_)
  ·rintro f w22 ⟨⟨g8,rfl⟩,hs26⟩
   refine aaL [7,17] (fa_cons ?_ (fa_one ?_))
   ·refine one_ r0 (cL r0 (sL3Of ((splitB (32:UInt8) (s.take (((endL s)-2).toNat))).getD 2 []) (numD ((splitB (32:UInt8) (s.take (((endL s)-2).toNat))).getD 4 [])) _ (by omega)) ?_)
    rintro _ w23 ⟨Aq7',cq7',rfl,hs27⟩
    replace hs27:=hs26.call0 hs27
    exact nk ⟨_,hs27,memi 0 r0,memi 1 r0,trivial⟩ (alc D_7_5 ⟨Aq7',cq7',(zR r0),hs27⟩)
   refine one_ r0 (al (cs:=Z5) hs26 tz112 r0 trivial r0 (fun b17' w24 hs28=>?_))
   exact nk ⟨_,hs28,memi 0 r0,memi 1 r0,trivial⟩ (alc D_7_6 ⟨b17',(zR r0),hs28⟩)
  refine dG 6 19 147263 (fun f w'=>∃ (b17':Nat),Hz f [(0,Str s),(2,pB b1),(5,I (endL s)),(7,pB b17'),(24,Str ((splitB (32:UInt8) (s.take (((endL s)-2).toNat))).getD 2 [])),(27,Str ((splitB (32:UInt8) (s.take (((endL s)-2).toNat))).getD 4 [])),(32,Str ((splitB (32:UInt8) (s.take (((endL s)-2).toNat))).getD 3 [])),(35,Str ((splitB (32:UInt8) (s.take (((endL s)-2).toNat))).getD 5 []))]∧SH w w' [] [.blk b1 112 Z5,.own (Z8 b2) ((splitB (32:UInt8) (s.take (((endL s)-2).toNat))).length) c1 9 1 ((splitB (32:UInt8) (s.take (((endL s)-2).toNat))).map Str),.blk b17' 112 Z5]) ?_ (fun D_7_8=>?_)
  ·rintro f w25 ⟨b17',⟨g9,rfl⟩,hs29⟩
   refine aO 6 r0 (cS hs29 r0 (sL2Number ((splitB (32:UInt8) (s.take (((endL s)-2).toNat))).getD 4 []) _ (by omega)) (fun w26 hs30=>?_))
   exact nk ⟨_,hs30,memi 0 r0,memi 1 r0,trivial⟩ (alc D_7_6 ⟨b17',(zR r0),hs30⟩)
  refine dG 7 19 16191 (fun f w'=>Hz f [(0,Str s),(2,pB b1),(5,I (endL s)),(24,Str ((splitB (32:UInt8) (s.take (((endL s)-2).toNat))).getD 2 [])),(27,Str ((splitB (32:UInt8) (s.take (((endL s)-2).toNat))).getD 4 [])),(32,Str ((splitB (32:UInt8) (s.take (((endL s)-2).toNat))).getD 3 [])),(35,Str ((splitB (32:UInt8) (s.take (((endL s)-2).toNat))).getD 5 []))]∧SH w w' [] [.blk b1 112 Z5,.own (Z8 b2) ((splitB (32:UInt8) (s.take (((endL s)-2).toNat))).length) c1 9 1 ((splitB (32:UInt8) (s.take (((endL s)-2).toNat))).map Str)]) ?_ (fun D_7_9=>?_)
  ·rintro f w27 ⟨⟨g10,rfl⟩,hs31⟩
   refine aaL [6,17] (fa_cons ?_ (fa_one ?_))
   ·refine one_ r0 (cS hs31 r0 (sL2Number ((splitB (32:UInt8) (s.take (((endL s)-2).toNat))).getD 4 []) _ (by omega)) (fun w28 hs32=>?_))
    exact nk ⟨_,hs32,memi 0 r0,memi 1 r0,trivial⟩ (alc D_7_7 ⟨(zR r0),hs32⟩)
   refine one_ r0 (al (cs:=Z5) hs31 tz112 r0 trivial r0 (fun b17' w29 hs33=>?_))
   exact nk ⟨_,hs33,memi 0 r0,memi 1 r0,trivial⟩ (alc D_7_8 ⟨b17',(zR r0),hs33⟩)
  have hs34:=hs6.drew
  exact tk (fuel:=7) (is:=[0,1,2,3,4,5,8,9,10,11,12,13]) (.cons r0 (.cons r0 (.cons r0 (.cons r0 (.cons r0 (.cons r0 (.cons r0 (.cons r0 (.cons r0 (.cons r0 (.cons r0 (.cons r0 (.nil))))))))))))) (by kernel_rfl) (by kernel_rfl) ⟨_,hs34,memi 0 r0,memi 1 r0,trivial⟩ (yA r0 (mv (v:=sb b2 ((splitB (32:UInt8) (s.take (((endL s)-2).toNat))).length) c1) r0) (yA r0 (ixo 2 sl51 r0 r0 (by omega)) (yB r0 (fun ⟨Lq,hsq,mh0,mh1,_⟩=>ldo1m (g:=Str) (ys:=splitB (32:UInt8) (s.take (((endL s)-2).toNat))) (o:=2) [] hsq mh1 r0 (by omega) one9) (yA r0 (mv (v:=sb b2 ((splitB (32:UInt8) (s.take (((endL s)-2).toNat))).length) c1) r0) (yA r0 (ixo 4 sl51 r0 r0 (by omega)) (yB r0 (fun ⟨Lq,hsq,mh0,mh1,_⟩=>ldo1m (g:=Str) (ys:=splitB (32:UInt8) (s.take (((endL s)-2).toNat))) (o:=4) [] hsq mh1 r0 (by omega) one9) (yA r0 (mv (v:=sb b2 ((splitB (32:UInt8) (s.take (((endL s)-2).toNat))).length) c1) r0) (yA r0 (ixo 3 sl51 r0 r0 (by omega)) (yB r0 (fun ⟨Lq,hsq,mh0,mh1,_⟩=>ldo1m (g:=Str) (ys:=splitB (32:UInt8) (s.take (((endL s)-2).toNat))) (o:=3) [] hsq mh1 r0 (by omega) one9) (yA r0 (mv (v:=sb b2 ((splitB (32:UInt8) (s.take (((endL s)-2).toNat))).length) c1) r0) (yA r0 (ixo 5 sl51 r0 r0 (by omega)) (yB r0 (fun ⟨Lq,hsq,mh0,mh1,_⟩=>ldo1m (g:=Str) (ys:=splitB (32:UInt8) (s.take (((endL s)-2).toNat))) (o:=5) [] hsq mh1 r0 (by omega) one9) (.nil (alc D_7_9 ⟨(zR r0),hs34⟩))))))))))))))
 rintro f w30 ⟨b17',Aq7',cq7',Aq15',cq15',⟨g11,rfl⟩,hs35⟩
 refine nN (sq (sq (rq (fun w'=>SH w w' [] [.blk b1 112 Z5,.own (Z8 b2) ((splitB (32:UInt8) (s.take (((endL s)-2).toNat))).length) c1 9 1 ((splitB (32:UInt8) (s.take (((endL s)-2).toNat))).map Str),(Z36 Aq15' s cq15'),.blk b17' 112 (Z1 s Aq7' cq7' Aq15' cq15'),(Z11 Aq7' s cq7')]) mixed (by kernel_rfl) hs35.drew (qB r0 (fun hsq=>lG (Z1 s Aq7' cq7' Aq15' cq15') hsq 3 r0 ag112) (qc (Str (lineT ((((addrOf ((splitB (32:UInt8) (s.take (((endL s)-2).toNat))).getD 2 []) (numD ((splitB (32:UInt8) (s.take (((endL s)-2).toNat))).getD 4 []))).1),((addrOf ((splitB (32:UInt8) (s.take (((endL s)-2).toNat))).getD 2 []) (numD ((splitB (32:UInt8) (s.take (((endL s)-2).toNat))).getD 4 []))).2.1),((addrOf ((splitB (32:UInt8) (s.take (((endL s)-2).toNat))).getD 2 []) (numD ((splitB (32:UInt8) (s.take (((endL s)-2).toNat))).getD 4 []))).2.2.1),((addrOf ((splitB (32:UInt8) (s.take (((endL s)-2).toNat))).getD 2 []) (numD ((splitB (32:UInt8) (s.take (((endL s)-2).toNat))).getD 4 []))).2.2.2)),(((addrOf ((splitB (32:UInt8) (s.take (((endL s)-2).toNat))).getD 3 []) (numD ((splitB (32:UInt8) (s.take (((endL s)-2).toNat))).getD 5 []))).1),((addrOf ((splitB (32:UInt8) (s.take (((endL s)-2).toNat))).getD 3 []) (numD ((splitB (32:UInt8) (s.take (((endL s)-2).toNat))).getD 5 []))).2.1),((addrOf ((splitB (32:UInt8) (s.take (((endL s)-2).toNat))).getD 3 []) (numD ((splitB (32:UInt8) (s.take (((endL s)-2).toNat))).getD 5 []))).2.2.1),((addrOf ((splitB (32:UInt8) (s.take (((endL s)-2).toNat))).getD 3 []) (numD ((splitB (32:UInt8) (s.take (((endL s)-2).toNat))).getD 5 []))).2.2.2))))) trivial r0 (fun wq hsq=>(sLineText ((addrOf ((splitB (32:UInt8) (s.take (((endL s)-2).toNat))).getD 2 []) (numD ((splitB (32:UInt8) (s.take (((endL s)-2).toNat))).getD 4 []))).1) ((addrOf ((splitB (32:UInt8) (s.take (((endL s)-2).toNat))).getD 2 []) (numD ((splitB (32:UInt8) (s.take (((endL s)-2).toNat))).getD 4 []))).2.1) ((addrOf ((splitB (32:UInt8) (s.take (((endL s)-2).toNat))).getD 2 []) (numD ((splitB (32:UInt8) (s.take (((endL s)-2).toNat))).getD 4 []))).2.2.1) ((addrOf ((splitB (32:UInt8) (s.take (((endL s)-2).toNat))).getD 2 []) (numD ((splitB (32:UInt8) (s.take (((endL s)-2).toNat))).getD 4 []))).2.2.2) ((addrOf ((splitB (32:UInt8) (s.take (((endL s)-2).toNat))).getD 3 []) (numD ((splitB (32:UInt8) (s.take (((endL s)-2).toNat))).getD 5 []))).1) ((addrOf ((splitB (32:UInt8) (s.take (((endL s)-2).toNat))).getD 3 []) (numD ((splitB (32:UInt8) (s.take (((endL s)-2).toNat))).getD 5 []))).2.1) ((addrOf ((splitB (32:UInt8) (s.take (((endL s)-2).toNat))).getD 3 []) (numD ((splitB (32:UInt8) (s.take (((endL s)-2).toNat))).getD 5 []))).2.2.1) ((addrOf ((splitB (32:UInt8) (s.take (((endL s)-2).toNat))).getD 3 []) (numD ((splitB (32:UInt8) (s.take (((endL s)-2).toNat))).getD 5 []))).2.2.2) _ (hsq.sl0 4 r0) (by omega) (hsq.sl0 2 r0) (by omega)).mono (fun v w' h=>⟨h.1,by simpa using hsq.call0 h.2⟩)) (qA r0 (mv (v:=Str s) r0) (qA r0 (mv (v:=I (endL s)) r0) ?_)))))))
 refine qA r0 (cuhs (l:=s) ((endL s).toNat) st9 r0 (ieq (x:=endL s) (by omega)) (by omega)) (qA r0 (nes r0 r0) (qn (fun w31 hs36=>?_)))
 refine nN (cdd r0 (fun h3=>?_) (fun h3=>?_))
 ·refine sr (qt r0 (bdv (v:=.agg #[I 0,ns,Str [],I 0,I 0,ns,Str [],I 0]) [] r0 (fun _=>by kernel_rfl)) (sG Z5 hs36 0 r0 ag112 (fun w32 hs37=>?_)))
  refine tA (I 0) r0 (tA Z6 r0 (nn ?_))
  have hs38:=hs37.pq [4] r0
  refine rt (tR (fret (resC hs38 0 r0 r0 ag112 r0 (.tmp (.tmp .nil))) r0 ?_))
  have hs39:=hs38.nl [Z0] r0
  have hs40:=hs39.nl [Z0] r0
  have e3:lineZ s=(0,false):=by(have hel:=endL_le s; exact lineZ_n3 (by omega) ‹_›)
  rw[e3]
  exact⟨none,0,none,0,0,([]:List Int),[],0,0,([]:List Int),[],0,rfl,(hs40.pk [1,2] r0)⟩
 refine sk (nN (sr (qt r0 (lG (Z1 s Aq7' cq7' Aq15' cq15') hs36 3 r0 ag112) (tm (I (endL s)) r0 (sG (Z1 s Aq7' cq7' Aq15' cq15') hs36 0 r0 ag112 (fun w33 hs41=>?_))))))
 refine tA (I (endL s)) r0 (tA Z35 r0 (nn ?_))
 have hs42:=hs41.pq [1,3,4] r0
 refine rt (fret (resC hs42 2 r0 r0 ag112 r0 (.tmp (.tmp .nil))) r0 ?_)
 have e4:lineZ s=(endL s,true):=by(have hel:=endL_le s; exact lineZ_y (by omega) ‹_› ‹_›)
 rw[e4]
 exact⟨Aq7',cq7',Aq15',cq15',(addrOf ((splitB (32:UInt8) (s.take (((endL s)-2).toNat))).getD 2 []) (numD ((splitB (32:UInt8) (s.take (((endL s)-2).toNat))).getD 4 []))).1,(addrOf ((splitB (32:UInt8) (s.take (((endL s)-2).toNat))).getD 2 []) (numD ((splitB (32:UInt8) (s.take (((endL s)-2).toNat))).getD 4 []))).2.1,(addrOf ((splitB (32:UInt8) (s.take (((endL s)-2).toNat))).getD 2 []) (numD ((splitB (32:UInt8) (s.take (((endL s)-2).toNat))).getD 4 []))).2.2.1,(addrOf ((splitB (32:UInt8) (s.take (((endL s)-2).toNat))).getD 2 []) (numD ((splitB (32:UInt8) (s.take (((endL s)-2).toNat))).getD 4 []))).2.2.2,(addrOf ((splitB (32:UInt8) (s.take (((endL s)-2).toNat))).getD 3 []) (numD ((splitB (32:UInt8) (s.take (((endL s)-2).toNat))).getD 5 []))).1,(addrOf ((splitB (32:UInt8) (s.take (((endL s)-2).toNat))).getD 3 []) (numD ((splitB (32:UInt8) (s.take (((endL s)-2).toNat))).getD 5 []))).2.1,(addrOf ((splitB (32:UInt8) (s.take (((endL s)-2).toNat))).getD 3 []) (numD ((splitB (32:UInt8) (s.take (((endL s)-2).toNat))).getD 5 []))).2.2.1,(addrOf ((splitB (32:UInt8) (s.take (((endL s)-2).toNat))).getD 3 []) (numD ((splitB (32:UInt8) (s.take (((endL s)-2).toNat))).getD 5 []))).2.2.2,rfl,(hs42.pk [1,0] r0)⟩
theorem slHasPrefix (s:List UInt8) (t:List UInt8) (w:World) (hs_n:s.length≤1099511627776) (ht_n:t.length≤1099511627776):Does Tryz.prog 205 [Str s,Str t] w (fun v w'=>v=.bool (decide (preP s t))∧SH w w' [] []):=by
 refine fE (N:=18) Tryz.func205 r0 (by kernel_rfl) r0 ?_
 have hs0:=SH.refl w []
 refine sr (tA Z6 r0 (nx (tm (Str s) r0 (qt r0 (lnS st9 r0) (tm (Str t) r0 (qt r0 (lnS st9 r0) (qt r0 (geq r0 r0) (tm (Z154 t s) r0 (spd 10 r0 (fun h1=>?_) (fun h1=>?_))))))))))
 ·refine qh r0 (mv (v:=Str s) r0) (qh r0 (mv (v:=Str t) r0) (qh r0 (lnS st9 r0) (qh r0 (cuhs (l:=s) t.length st9 r0 r0 (by omega)) (qh r0 (mv (v:=Str t) r0) (qh r0 (eqs r0 r0) (qt r0 (pt (v:=.bool (decide (s.take t.length=t))) r0 r0) (tA (Z157 s t) r0 (nn (rt (fT (Z157 s t) r0 ?_))))))))))
  have e1:(decide (s.take t.length=t))=decide (preP s t):=by(have hx:t.length≤s.length:=(by omega); simp[preP,hx]; done)
  exact⟨(congrArg (Value.bool) e1),hs0⟩
 refine gf5 r0 (gf5 r0 (gf5 r0 (gf5 r0 (gf5 r0 (gf5 r0 (qt r0 (pf (v:=.bool false) r0 r0) (tA Z6 r0 (nn (rt (fT Z6 r0 ?_))))))))))
 have e2:false=decide (preP s t):=by(have hx: ¬ t.length≤s.length:=(by omega); simp[preP,hx]; done)
 exact⟨(congrArg (Value.bool) e2),hs0⟩
theorem stHasPrefix (s:List UInt8) (t:List UInt8) (w:World) (hs_n:s.length≤1099511627776) (ht_n:t.length≤1099511627776):Does Tryz.prog 177 [Str s,Str t] w (fun v w'=>v=.bool (decide (preP s t))∧SH w w' [] []):=by
 refine fE (N:=8) Tryz.func177 r0 (by kernel_rfl) r0 ?_
 have hs0:=SH.refl w []
 refine sr (tA Z6 r0 (nx (tm (Str s) r0 (tm (Str t) r0 (cS hs0 r0 (slHasPrefix _ _ _ (by omega) (by omega)) (fun w1 hs1=>?_))))))
 refine tA (.bool (decide (preP s t))) r0 (nn (rt (fT (.bool (decide (preP s t))) r0 ?_)))
 exact⟨rfl,hs1⟩
theorem slCutPrefix (s:List UInt8) (t:List UInt8) (w:World) (hs_n:s.length≤1099511627776) (ht_n:t.length≤1099511627776):Does Tryz.prog 203 [Str s,Str t] w (fun v w'=>v=.tuple #[Str (trimP s t),.bool (decide (preP s t))]∧SH w w' [] []):=by
 refine fE (N:=15) Tryz.func203 r0 (by kernel_rfl) r0 ?_
 have hs0:=SH.refl w []
 refine sr (tA (Str []) r0 (tA Z6 r0 (nn (sq (sq (rg (tm (Str s) r0 (tm (Str t) r0 (cS hs0 r0 (slHasPrefix _ _ _ (by omega) (by omega)) (fun w1 hs1=>?_))))))))))
 refine qt r0 (nt r0) (nn (cd r0 (fun h1=>?_) (fun h1=>?_)))
 ·have h2:=nbF h1
  refine sr (tm (Str s) r0 (tA (Str s) r0 (tA Z6 r0 (nn (rt (tR (fret (.tmp (.tmp .nil)) r0 ?_)))))))
  have e1:s=trimP s t:=by(simp_all [trimP]; done)
  have e2:false=(decide (preP s t)):=by(simp[trimP,h2]; done)
  exact⟨(tup2 (congrArg (Str) e1) (congrArg (Value.bool) e2)),hs1⟩
 have h3:=nbT h1
 refine sk (nN (sr (tm (Str s) r0 (tm (Str t) r0 (qt r0 (lnS st9 r0) (qt r0 (culs (l:=s) t.length st9 r0 r0 (by(have hx:=of_decide_eq_true (by assumption:decide (preP s t)=true); have hy:=hx.1; omega))) (tA (Str (s.drop t.length)) r0 (tA Z35 r0 (nn (rt (fret (.tmp (.tmp .nil)) r0 ?_)))))))))))
 have e3:s.drop t.length=trimP s t:=by(simp_all [trimP]; done)
 have e4:true=(decide (preP s t)):=by(simp[trimP,h3]; done)
 exact⟨(tup2 (congrArg (Str) e3) (congrArg (Value.bool) e4)),hs1⟩
theorem stCutPrefix (s:List UInt8) (t:List UInt8) (w:World) (hs_n:s.length≤1099511627776) (ht_n:t.length≤1099511627776):Does Tryz.prog 175 [Str s,Str t] w (fun v w'=>v=.tuple #[Str (trimP s t),.bool (decide (preP s t))]∧SH w w' [] []):=by
 refine fE (N:=11) Tryz.func175 r0 (by kernel_rfl) r0 ?_
 have hs0:=SH.refl w []
 refine sr (tA (Str []) r0 (tA Z6 r0 (nx (tm (Str s) r0 (tm (Str t) r0 (cS hs0 r0 (slCutPrefix _ _ _ (by omega) (by omega)) (fun w1 hs1=>?_)))))))
 refine qt r0 (xt 0 r0 r0) (qt r0 (xt 1 r0 r0) (tA (Str (trimP s t)) r0 (tA (.bool (decide (preP s t))) r0 (nn (rt (fret (.tmp (.tmp .nil)) r0 ?_))))))
 exact⟨rfl,hs1⟩
set_option maxHeartbeats 8000000 in
theorem iConnectFrom (s:List UInt8) (w:World) (hs_n:s.length≤2147483648) (hGp:VarP Tryz.prog w [] "internal/strconv.uint64pow10" isPow) (hEr:VarP Tryz.prog w [] "strconv.ErrRange" isIfc) (hEs:VarP Tryz.prog w [] "strconv.ErrSyntax" isIfc):Does Tryz.prog 127 [Str s] w (fun v w'=>∃ Aqr:Option Addr,∃ cqr:Nat,∃ ak:Int,∃ aq:List Int,∃ an:List UInt8,∃ apt:Int,v=.tuple #[.agg #[.int .i64 ak,.slice Aqr aq.length cqr,Str an,.int .i64 apt],.int .i64 ((connZ s).1),.bool ((connZ s).2)]∧SH w w' [] [.own Aqr aq.length cqr 3 1 (aq.map I)]):=by
 refine fE (N:=43) Tryz.func127 r0 (by kernel_rfl) r0 ?_
 have hs0:=SH.refl w []
 refine sr (al (cs:=Z17) hs0 tz54 r0 trivial r0 (fun b1 w1 hs1=>?_))
 refine tA (I 0) r0 (tA Z6 r0 (nx (tm (Str s) r0 (cS hs1 r0 (stCutPrefix _ [67,79,78,78,69,67,84,32] _ (by omega) (by((simp; done)))) (fun w2 hs2=>?_)))))
 refine tm (.tuple #[Str (trimP s [67,79,78,78,69,67,84,32]),.bool (decide (preP s [67,79,78,78,69,67,84,32]))]) r0 (qt r0 (xt 0 r0 r0) (qt r0 (xt 1 r0 r0) (tA (Str (trimP s [67,79,78,78,69,67,84,32])) r0 (tA (.bool (decide (preP s [67,79,78,78,69,67,84,32]))) r0 (nn (sq (rg (tm (Str (trimP s [67,79,78,78,69,67,84,32])) r0 (cS hs2 r0 (stCut _ 32 _ (by(have hcf:=conn_f s [67,79,78,78,69,67,84,32]; omega))) (fun w3 hs3=>?_))))))))))
 refine tm (.tuple #[Str (cutA (trimP s [67,79,78,78,69,67,84,32]) 32),Str (cutZ (trimP s [67,79,78,78,69,67,84,32]) 32),.bool (decide (0≤idxB (trimP s [67,79,78,78,69,67,84,32]) 32))]) r0 (qt r0 (xt 0 r0 r0) (qt r0 (xt 1 r0 r0) (qt r0 (xt 2 r0 r0) (tA (Str (cutA (trimP s [67,79,78,78,69,67,84,32]) 32)) r0 (tA (Str (cutZ (trimP s [67,79,78,78,69,67,84,32]) 32)) r0 (tA (.bool (decide (0≤idxB (trimP s [67,79,78,78,69,67,84,32]) 32))) r0 (nl (nN (sr (tm (Str (cutA (trimP s [67,79,78,78,69,67,84,32]) 32)) r0 (cS2 hs3 r0 (iAddressFrom _ _ (by(have hcf:=conn_f s [67,79,78,78,69,67,84,32]; omega)) (hGp.up0 hs3) (hEr.up0 hs3) (hEs.up0 hs3)) (fun Aq1 cq1 w4 hs4=>?_))))))))))))
 refine tm (.tuple #[.agg #[I ((addrFrom (cutA (trimP s [67,79,78,78,69,67,84,32]) 32)).1.1),.slice Aq1 (((addrFrom (cutA (trimP s [67,79,78,78,69,67,84,32]) 32)).1.2.1).length) cq1,Str ((addrFrom (cutA (trimP s [67,79,78,78,69,67,84,32]) 32)).1.2.2.1),I ((addrFrom (cutA (trimP s [67,79,78,78,69,67,84,32]) 32)).1.2.2.2)],.bool ((addrFrom (cutA (trimP s [67,79,78,78,69,67,84,32]) 32)).2)]) r0 (qt r0 (xt 0 r0 r0) (qt r0 (xt 1 r0 r0) (al (cs:=Z17) hs4 tz54 r0 trivial r0 (fun b2 w5 hs5=>?_))))
 refine sG (Z39 s Aq1 cq1) hs5 2 r0 ag54 (fun w6 hs6=>?_)
 refine tA (.bool ((addrFrom (cutA (trimP s [67,79,78,78,69,67,84,32]) 32)).2)) r0 (nx (qt r0 (lG (Z39 s Aq1 cq1) hs6 2 r0 ag54) (cS hs6 r0 (iConnectText _ _ _ _ _ (hs6.sl0 1 r0) (by(have hcf:=conn_f s [67,79,78,78,69,67,84,32]; omega)) (hGp.up0 hs6)) (fun w7 hs7=>?_))))
 refine tA (Str (connT ((addrFrom (cutA (trimP s [67,79,78,78,69,67,84,32]) 32)).1.1) ((addrFrom (cutA (trimP s [67,79,78,78,69,67,84,32]) 32)).1.2.1) ((addrFrom (cutA (trimP s [67,79,78,78,69,67,84,32]) 32)).1.2.2.1) ((addrFrom (cutA (trimP s [67,79,78,78,69,67,84,32]) 32)).1.2.2.2))) r0 (nn (sq (sr (tm (.bool ((addrFrom (cutA (trimP s [67,79,78,78,69,67,84,32]) 32)).2)) r0 (qt r0 (nt r0) (tm (.bool (!((addrFrom (cutA (trimP s [67,79,78,78,69,67,84,32]) 32)).2))) r0 (spl 33 r0 (fun h1=>?_) (fun h1=>?_))))))))
 ·have h2:=nbF h1
  refine gt5 r0 (gt5 r0 (gt5 r0 (gt5 r0 (qt r0 (pt (v:=.bool true) r0 r0) (nn (cdt r0 (sr (qt r0 (bdv (v:=.agg #[I 0,ns,Str [],I 0]) [] r0 (fun _=>by kernel_rfl)) (sG Z17 hs7 0 r0 ag54 (fun w8 hs8=>?_))))))))))
  refine tA (I 0) r0 (tA Z6 r0 (nn (rt (tR (fret (resC hs8 2 r0 r0 ag54 r0 (.tmp (.tmp .nil))) r0 ?_)))))
  have hs9:=hs8.nl [Z0] r0
  have e1:connZ s=(0,false):=by(exact connZ_in (.inl ‹_›))
  rw[e1]
  exact⟨none,0,0,([]:List Int),[],0,rfl,(hs9.pk [3] r0)⟩
 have h3:=nbT h1
 refine qh r0 (mv (v:=Str s) r0) (qh r0 (mv (v:=Str (connT ((addrFrom (cutA (trimP s [67,79,78,78,69,67,84,32]) 32)).1.1) ((addrFrom (cutA (trimP s [67,79,78,78,69,67,84,32]) 32)).1.2.1) ((addrFrom (cutA (trimP s [67,79,78,78,69,67,84,32]) 32)).1.2.2.1) ((addrFrom (cutA (trimP s [67,79,78,78,69,67,84,32]) 32)).1.2.2.2))) r0) (cl ⟨_,rfl,rfl⟩ r0 (stHasPrefix _ _ _ (by omega) (by(have hcf:=conn_f s [67,79,78,78,69,67,84,32]; omega))) ?_))
 rintro _ w9 ⟨rfl,hs10⟩
 replace hs10:=hs7.call0 hs10
 refine qh r0 (nt r0) (qt r0 (pf (v:=.bool (!(decide (preP s (connT ((addrFrom (cutA (trimP s [67,79,78,78,69,67,84,32]) 32)).1.1) ((addrFrom (cutA (trimP s [67,79,78,78,69,67,84,32]) 32)).1.2.1) ((addrFrom (cutA (trimP s [67,79,78,78,69,67,84,32]) 32)).1.2.2.1) ((addrFrom (cutA (trimP s [67,79,78,78,69,67,84,32]) 32)).1.2.2.2)))))) r0 r0) (nn (cd r0 (fun h4=>?_) (fun h4=>?_))))
 ·have h5:=nbF h4
  refine sr (qt r0 (bdv (v:=.agg #[I 0,ns,Str [],I 0]) [] r0 (fun _=>by kernel_rfl)) (sG Z17 hs10 0 r0 ag54 (fun w10 hs11=>?_)))
  refine tA (I 0) r0 (tA Z6 r0 (nn (rt (tR (fret (resC hs11 2 r0 r0 ag54 r0 (.tmp (.tmp .nil))) r0 ?_)))))
  have hs12:=hs11.nl [Z0] r0
  have e2:connZ s=(0,false):=by(exact connZ_in (.inr (of_decide_eq_false ‹_›)))
  rw[e2]
  exact⟨none,0,0,([]:List Int),[],0,rfl,(hs12.pk [3] r0)⟩
 have h6:=nbT h4
 refine sk (nN (sr (qt r0 (lG (Z39 s Aq1 cq1) hs10 2 r0 ag54) (tm (Str (connT ((addrFrom (cutA (trimP s [67,79,78,78,69,67,84,32]) 32)).1.1) ((addrFrom (cutA (trimP s [67,79,78,78,69,67,84,32]) 32)).1.2.1) ((addrFrom (cutA (trimP s [67,79,78,78,69,67,84,32]) 32)).1.2.2.1) ((addrFrom (cutA (trimP s [67,79,78,78,69,67,84,32]) 32)).1.2.2.2))) r0 (qt r0 (lnS st9 r0) (sG (Z39 s Aq1 cq1) hs10 0 r0 ag54 (fun w11 hs13=>?_)))))))
 refine tA (I (((connT ((addrFrom (cutA (trimP s [67,79,78,78,69,67,84,32]) 32)).1.1) ((addrFrom (cutA (trimP s [67,79,78,78,69,67,84,32]) 32)).1.2.1) ((addrFrom (cutA (trimP s [67,79,78,78,69,67,84,32]) 32)).1.2.2.1) ((addrFrom (cutA (trimP s [67,79,78,78,69,67,84,32]) 32)).1.2.2.2)).length:Nat):Int)) r0 (tA Z35 r0 (nn (rt (fret (resC hs13 2 r0 r0 ag54 r0 (.tmp (.tmp .nil))) r0 ?_))))
 have e3:connZ s=((((connT ((addrFrom (cutA (trimP s [67,79,78,78,69,67,84,32]) 32)).1.1) ((addrFrom (cutA (trimP s [67,79,78,78,69,67,84,32]) 32)).1.2.1) ((addrFrom (cutA (trimP s [67,79,78,78,69,67,84,32]) 32)).1.2.2.1) ((addrFrom (cutA (trimP s [67,79,78,78,69,67,84,32]) 32)).1.2.2.2)).length:Nat):Int),true):=by(exact connZ_iy ‹_› (of_decide_eq_true ‹_›))
 rw[e3]
 exact⟨Aq1,cq1,(addrFrom (cutA (trimP s [67,79,78,78,69,67,84,32]) 32)).1.1,(addrFrom (cutA (trimP s [67,79,78,78,69,67,84,32]) 32)).1.2.1,(addrFrom (cutA (trimP s [67,79,78,78,69,67,84,32]) 32)).1.2.2.1,(addrFrom (cutA (trimP s [67,79,78,78,69,67,84,32]) 32)).1.2.2.2,rfl,(hs13.pk [0] r0)⟩
theorem iPairValid (ka:Int) {Aqa:Option Addr} {cqa:Nat} (qa:List Int) (na:List UInt8) (pa:Int) (kb:Int) {Aqb:Option Addr} {cqb:Nat} (qb:List Int) (nb:List UInt8) (pb:Int) (w:World) (hqa:Sl w [] 1 Aqa qa.length cqa (qa.map I)) (hna_n:na.length≤1099511627776) (hqb:Sl w [] 1 Aqb qb.length cqb (qb.map I)) (hnb_n:nb.length≤1099511627776):Does Tryz.prog 206 [.agg #[I ka,.slice Aqa qa.length cqa,Str na,I pa,I kb,.slice Aqb qb.length cqb,Str nb,I pb]] w (fun v w'=>v=.bool (pairB ka qa na pa kb qb nb pb)∧SH w w' [] []):=by
 refine fE (N:=23) Tryz.func206 r0 (by kernel_rfl) r0 ?_
 have hs0:=SH.refl w []
 have hqa_m:qa.length≤9223372036854775807:=Nat.le_trans hqa.cap hqa.capMax
 have hqb_m:qb.length≤9223372036854775807:=Nat.le_trans hqb.cap hqb.capMax
 refine sr (bx (v:=.agg #[I ka,(Z4 Aqa qa cqa),Str na,I pa,I kb,(Z4 Aqb qb cqb),Str nb,I pb]) (cs:=[I ka,(Z4 Aqa qa cqa),Str na,I pa,I kb,(Z4 Aqb qb cqb),Str nb,I pb]) hs0 r0 r0 trivial r0 (fun b1 w1 hs1=>?_))
 refine tA Z6 r0 (nx (qt r0 (fa 0 fo112_0 r0) (qt r0 (lG [I ka,(Z4 Aqa qa cqa),Str na,I pa] hs1 0 r0 ag54) (cS hs1 r0 (iAddressValid _ _ _ _ _ (hqa.up0 hs1) (by omega)) (fun w2 hs2=>?_)))))
 refine tm (.bool (addrOk ka qa na pa)) r0 (spl 6 r0 (fun h1=>?_) (fun h1=>?_))
 ·refine qh r0 (fa 4 fo112_1 r0) (qh r0 (lG [I kb,(Z4 Aqb qb cqb),Str nb,I pb] hs2 0 r0 ag54) (cl ⟨_,rfl,rfl⟩ r0 (iAddressValid _ _ _ _ _ (hqb.up0 hs2) (by omega)) ?_))
  rintro _ w3 ⟨rfl,hs3⟩
  replace hs3:=hs2.call0 hs3
  refine qt r0 (pt (v:=.bool (addrOk kb qb nb pb)) r0 r0) (tm (.bool (addrOk kb qb nb pb)) r0 (spl 11 r0 (fun h2=>?_) (fun h2=>?_)))
  ·refine qh r0 (fa 0 fo112_0 r0) (qh r0 (fa 0 fo54_0 r0) (qh r0 (lD (I ka) hs3 0 r0 one3) (qh r0 (eqi r0 r0) (qt r0 (pt (v:=.bool (decide (ka=1))) r0 r0) (tm (Z88 ka) r0 (spd 17 r0 (fun h3=>?_) (fun h3=>?_)))))))
   ·refine qh r0 (fa 4 fo112_1 r0) (qh r0 (fa 0 fo54_0 r0) (qh r0 (lD (I kb) hs3 0 r0 one3) (qh r0 (eqi r0 r0) (qt r0 (pt (v:=.bool (decide (kb=1))) r0 r0) (tA (Z88 kb) r0 (nn (rt (fT (Z88 kb) r0 ?_))))))))
    have e1:(decide (kb=1))=pairB ka qa na pa kb qb nb pb:=by(simp[pairB]; intros; simp_all; done)
    exact⟨(congrArg (Value.bool) e1),(hs3.pk [] r0)⟩
   refine gf5 r0 (gf5 r0 (gf5 r0 (gf5 r0 (qt r0 (pf (v:=.bool false) r0 r0) (tA Z6 r0 (nn (rt (fT Z6 r0 ?_))))))))
   have e2:false=pairB ka qa na pa kb qb nb pb:=by(simp[pairB,h1,h2,h3]; done)
   exact⟨(congrArg (Value.bool) e2),(hs3.pk [] r0)⟩
  refine gf5 r0 (gf5 r0 (gf5 r0 (gf5 r0 (qt r0 (pf (v:=.bool false) r0 r0) (tm Z6 r0 (gf5 r0 (gf5 r0 (gf5 r0 (gf5 r0 (qt r0 (pf (v:=.bool false) r0 r0) (tA Z6 r0 (nn (rt (fT Z6 r0 ?_))))))))))))))
  have e3:false=pairB ka qa na pa kb qb nb pb:=by(simp[pairB,h1,h2]; done)
  exact⟨(congrArg (Value.bool) e3),(hs3.pk [] r0)⟩
 refine gf5 r0 (gf5 r0 (gf5 r0 (qt r0 (pf (v:=.bool false) r0 r0) (tm Z6 r0 (gf5 r0 (gf5 r0 (gf5 r0 (gf5 r0 (qt r0 (pf (v:=.bool false) r0 r0) (tm Z6 r0 (gf5 r0 (gf5 r0 (gf5 r0 (gf5 r0 (qt r0 (pf (v:=.bool false) r0 r0) (tA Z6 r0 (nn (rt (fT Z6 r0 ?_)))))))))))))))))))
 have e4:false=pairB ka qa na pa kb qb nb pb:=by(simp[pairB,h1]; done)
 exact⟨(congrArg (Value.bool) e4),(hs2.pk [] r0)⟩
set_option maxHeartbeats 8000000 in
theorem iLineText (ka:Int) {Aqa:Option Addr} {cqa:Nat} (qa:List Int) (na:List UInt8) (pa:Int) (kb:Int) {Aqb:Option Addr} {cqb:Nat} (qb:List Int) (nb:List UInt8) (pb:Int) (w:World) (hqa:Sl w [] 1 Aqa qa.length cqa (qa.map I)) (hna_n:na.length≤1099511627776) (hqb:Sl w [] 1 Aqb qb.length cqb (qb.map I)) (hnb_n:nb.length≤1099511627776) (hGp:VarP Tryz.prog w [] "internal/strconv.uint64pow10" isPow):Does Tryz.prog 178 [.agg #[I ka,.slice Aqa qa.length cqa,Str na,I pa,I kb,.slice Aqb qb.length cqb,Str nb,I pb]] w (fun v w'=>v=Str (lineT ((ka,qa,na,pa),(kb,qb,nb,pb)))∧SH w w' [] []):=by
 refine fE (N:=27) Tryz.func178 r0 (by kernel_rfl) r0 ?_
 have hs0:=SH.refl w []
 have hqa_m:qa.length≤9223372036854775807:=Nat.le_trans hqa.cap hqa.capMax
 have hqb_m:qb.length≤9223372036854775807:=Nat.le_trans hqb.cap hqb.capMax
 refine sr (bx (v:=.agg #[I ka,(Z4 Aqa qa cqa),Str na,I pa,I kb,(Z4 Aqb qb cqb),Str nb,I pb]) (cs:=[I ka,(Z4 Aqa qa cqa),Str na,I pa,I kb,(Z4 Aqb qb cqb),Str nb,I pb]) hs0 r0 r0 trivial r0 (fun b1 w1 hs1=>?_))
 refine tA (Str []) r0 (nn (sq (sr (qt r0 (lG [I ka,(Z4 Aqa qa cqa),Str na,I pa,I kb,(Z4 Aqb qb cqb),Str nb,I pb] hs1 0 r0 ag112) (cS hs1 r0 (iPairValid _ _ _ _ _ _ _ _ _ (hqa.up0 hs1) (by omega) (hqb.up0 hs1) (by omega)) (fun w2 hs2=>?_))))))
 refine qt r0 (nt r0) (nn (cd r0 (fun h1=>?_) (fun h1=>?_)))
 ·have h2:=nbF h1
  exact sr (tA (Str []) r0 (nn (rt (tR (fS r0 (by exact(lineT_n ‹_›).symm) (hs2.pk [] r0))))))
 have h3:=nbT h1
 refine sk (nN (sq ?_))
 refine raJ (fun w'=>∃ L,SH w w' [] L∧(.blk b1 112 [I ka,(Z4 Aqa qa cqa),Str na,I pa,I kb,(Z4 Aqb qb cqb),Str nb,I pb])∈L∧True) (fun f w'=>∃ (b16':Nat),Hz f [(3,sb b16' (([[80,82,79,88,89],[84,67,80,52],quadT qa,quadT qb,Lib.itoa pa,Lib.itoa pb]:List (List UInt8)).length) 6)]∧SH w w' [] [.blk b1 112 [I ka,(Z4 Aqa qa cqa),Str na,I pa,I kb,(Z4 Aqb qb cqb),Str nb,I pb],.own (Z8 b16') (([[80,82,79,88,89],[84,67,80,52],quadT qa,quadT qb,Lib.itoa pa,Lib.itoa pb]:List (List UInt8)).length) 6 9 1 (([[80,82,79,88,89],[84,67,80,52],quadT qa,quadT qb,Lib.itoa pa,Lib.itoa pb]:List (List UInt8)).map Str)]) mixed ?_ ?_
 ·refine dG 2 18 65535 (fun f w'=>Hz f [(10,Str (quadT qa)),(14,Str (quadT qb)),(18,Str (Lib.itoa pa)),(22,Str (Lib.itoa pb))]∧SH w w' [] [.blk b1 112 [I ka,(Z4 Aqa qa cqa),Str na,I pa,I kb,(Z4 Aqb qb cqb),Str nb,I pb]]) ?_ (fun D_3_0=>?_)
  ·rintro f w3 ⟨⟨g1,rfl⟩,hs3⟩
   refine aO 16 r0 (bsk hs3 sl51 [Str [80,82,79,88,89],Str [84,67,80,52],Str (quadT qa),Str (quadT qb),Str (Lib.itoa pa),Str (Lib.itoa pb)] [Str [80,82,79,88,89],Str [84,67,80,52],Str (quadT qa),Str (quadT qb),Str (Lib.itoa pa),Str (Lib.itoa pb)] trivial r0 (fun b16' w4 hs4=>?_))
   refine nk (m1 hs4 0 r0) (tk (fuel:=0) (is:=[17]) (.cons r0 (.nil)) (by kernel_rfl) (by kernel_rfl) (m1 hs4 0 r0) (yA r0 (asg (v:=sb b16' (([[80,82,79,88,89],[84,67,80,52],quadT qa,quadT qb,Lib.itoa pa,Lib.itoa pb]:List (List UInt8)).length) 6) r0) (.nil (ad (by kernel_rfl) ?_))))
   exact⟨b16',(zR r0),hs4⟩
  refine dG 3 18 32767 (fun f w'=>Hz f [(10,Str (quadT qa)),(14,Str (quadT qb)),(18,Str (Lib.itoa pa)),(21,I pb)]∧SH w w' [] [.blk b1 112 [I ka,(Z4 Aqa qa cqa),Str na,I pa,I kb,(Z4 Aqb qb cqb),Str nb,I pb]]) ?_ (fun D_3_1=>?_)
  ·rintro f w5 ⟨⟨g2,rfl⟩,hs5⟩
   refine aO 15 r0 (cS hs5 r0 (stItoa _ _ (by(have hpb:=pair_b (pairB_y (by assumption:pairB ka qa na pa kb qb nb pb=true)); omega)) (hGp.up0 hs5)) (fun w6 hs6=>?_))
   exact nk (m1 hs6 0 r0) (alc D_3_0 ⟨(zR r0),hs6⟩)
  refine dG 4 18 30719 (fun f w'=>Hz f [(10,Str (quadT qa)),(14,Str (quadT qb)),(17,I pa),(21,I pb)]∧SH w w' [] [.blk b1 112 [I ka,(Z4 Aqa qa cqa),Str na,I pa,I kb,(Z4 Aqb qb cqb),Str nb,I pb]]) ?_ (fun D_3_2=>?_)
  ·rintro f w7 ⟨⟨g3,rfl⟩,hs7⟩
   refine aO 11 r0 (cS hs7 r0 (stItoa _ _ (by(have hpb:=pair_b (pairB_y (by assumption:pairB ka qa na pa kb qb nb pb=true)); omega)) (hGp.up0 hs7)) (fun w8 hs8=>?_))
   exact nk (m1 hs8 0 r0) (alc D_3_1 ⟨(zR r0),hs8⟩)
  refine dG 5 18 30591 (fun f w'=>Hz f [(10,Str (quadT qa)),(13,.slice Aqb qb.length cqb),(17,I pa),(21,I pb)]∧SH w w' [] [.blk b1 112 [I ka,(Z4 Aqa qa cqa),Str na,I pa,I kb,(Z4 Aqb qb cqb),Str nb,I pb]]) ?_ (fun D_3_3=>?_)
  ·rintro f w9 ⟨⟨g4,rfl⟩,hs9⟩
   refine aO 7 r0 (cS hs9 r0 (iQuadText _ _ (hqb.up0 hs9) (by exact(pair_b (pairB_y (by assumption:pairB ka qa na pa kb qb nb pb=true))).2.1) (hGp.up0 hs9)) (fun w10 hs10=>?_))
   exact nk (m1 hs10 0 r0) (alc D_3_2 ⟨(zR r0),hs10⟩)
  refine dG 6 18 30583 (fun f w'=>Hz f [(9,.slice Aqa qa.length cqa),(13,.slice Aqb qb.length cqb),(17,I pa),(21,I pb)]∧SH w w' [] [.blk b1 112 [I ka,(Z4 Aqa qa cqa),Str na,I pa,I kb,(Z4 Aqb qb cqb),Str nb,I pb]]) ?_ (fun D_3_4=>?_)
  ·rintro f w11 ⟨⟨g5,rfl⟩,hs11⟩
   refine aO 3 r0 (cS hs11 r0 (iQuadText _ _ (hqa.up0 hs11) (by exact(pair_b (pairB_y (by assumption:pairB ka qa na pa kb qb nb pb=true))).1) (hGp.up0 hs11)) (fun w12 hs12=>?_))
   exact nk (m1 hs12 0 r0) (alc D_3_3 ⟨(zR r0),hs12⟩)
  have hs13:=hs2.drew
  exact tk (fuel:=6) (is:=[0,1,2,4,5,6,8,9,10,12,13,14]) (.cons r0 (.cons r0 (.cons r0 (.cons r0 (.cons r0 (.cons r0 (.cons r0 (.cons r0 (.cons r0 (.cons r0 (.cons r0 (.cons r0 (.nil))))))))))))) (by kernel_rfl) (by kernel_rfl) (m1 hs13 0 r0) (yA r0 (fa 0 fo112_0 r0) (yA r0 (fa 1 fo54_1 r0) (yB r0 (fun ⟨Lq,hsq,mh0,_⟩=>lM (Z14 Aqa qa cqa) hsq mh0 r0 one24) (yA r0 (fa 4 fo112_1 r0) (yA r0 (fa 1 fo54_1 r0) (yB r0 (fun ⟨Lq,hsq,mh0,_⟩=>lM (Z14 Aqb qb cqb) hsq mh0 r0 one24) (yA r0 (fa 0 fo112_0 r0) (yA r0 (fa 3 fo54_3 r0) (yB r0 (fun ⟨Lq,hsq,mh0,_⟩=>lM (I pa) hsq mh0 r0 one3) (yA r0 (fa 4 fo112_1 r0) (yA r0 (fa 3 fo54_3 r0) (yB r0 (fun ⟨Lq,hsq,mh0,_⟩=>lM (I pb) hsq mh0 r0 one3) (.nil (alc D_3_4 ⟨(zR r0),hs13⟩))))))))))))))
 rintro f w13 ⟨b16',⟨g6,rfl⟩,hs14⟩
 refine nN (sr (tm (sb b16' (([[80,82,79,88,89],[84,67,80,52],quadT qa,quadT qb,Lib.itoa pa,Lib.itoa pb]:List (List UInt8)).length) 6) r0 (cS hs14 r0 (stJoin ([[80,82,79,88,89],[84,67,80,52],quadT qa,quadT qb,Lib.itoa pa,Lib.itoa pb]:List (List UInt8)) [32] _ (hs14.sl0 1 r0) (by(have hpb:=pair_b (pairB_y (by assumption:pairB ka qa na pa kb qb nb pb=true)); (try simp only[List.length_append,List.length_cons,List.length_nil]); omega)) (by exact Nat.le_trans (line_jlen ‹_›) (by decide))) (fun w14 hs15=>?_))))
 refine qt r0 (cat r0 r0 (by(have hjl:=line_jlen (by assumption:pairB ka qa na pa kb qb nb pb=true); (try simp only[List.length_append,List.length_cons,List.length_nil]); omega))) (tA (Str ((Lib.join ([[80,82,79,88,89],[84,67,80,52],quadT qa,quadT qb,Lib.itoa pa,Lib.itoa pb]:List (List UInt8)) [32])++[13,10])) r0 (nn (rt (fT (Str ((Lib.join ([[80,82,79,88,89],[84,67,80,52],quadT qa,quadT qb,Lib.itoa pa,Lib.itoa pb]:List (List UInt8)) [32])++[13,10])) r0 ?_))))
 have e2:(Lib.join ([[80,82,79,88,89],[84,67,80,52],quadT qa,quadT qb,Lib.itoa pa,Lib.itoa pb]:List (List UInt8)) [32])++[13,10]=lineT ((ka,qa,na,pa),(kb,qb,nb,pb)):=by exact line_join.trans (lineT_y ‹_›).symm
 exact⟨(congrArg (Str) e2),(hs15.pk [] r0)⟩
theorem rdUntil {rb:Nat} {Ab:Option Addr} {cb:Nat} (bs:List Int) (sa:Nat) (sf:Bool) (w:World) (hr:w.heap[rb]?=some (.cells [.slice Ab bs.length cb,.int .i64 (sa:Int),.bool sf].toArray 162 (0,0))) (hb:Sl w [rb] 1 Ab bs.length cb (bs.map I)) (hbv:sf=false→isBytes bs=true) (hsa:sa≤bs.length):Does Tryz.prog 174 [pB rb] w (fun v w'=>∃ qa:Nat,∃ qf:Bool,v=Str (bT (unL bs (sa,sf)))∧(qa≤bs.length)∧((qf=false→isBytes bs=true))∧((qa,qf)=unS bs (sa,sf))∧SH w w' [rb] [.blk rb 162 [.slice Ab bs.length cb,I (qa:Int),.bool qf]]):=by
 refine fE (N:=20) Tryz.func174 r0 (by kernel_rfl) r0 ?_
 have hb_m:bs.length≤9223372036854775807:=Nat.le_trans hb.cap hb.capMax
 have hs0:=SH.entry1 hr
 refine sr (tA (Str []) r0 (nx (tA ns r0 (nn (sq (bl ?_))))))
 have hs1:=hs0.nl [Z0] r0
 have e1:([]:List Int)=(bs.drop sa).take 0:=by simp
 have e2:([]:List Int).length=((bs.drop sa).take 0).length:=by rw[e1]
 refine lp (σ:=(Option Addr)×Nat×Nat×Nat×Bool) (fun⟨Ag3,cg3,k,ya,yf⟩ f w'=>Hz f [(0,pB rb),(3,.slice Ag3 (((bs.drop sa).take k).length) cg3)]∧(ya=sa+k)∧(ya≤bs.length)∧(yf=sf)∧(sf=true→k=0)∧(yf=false→isBytes bs=true)∧(∀ j,j<k→bs.getD (sa+j) 0≠0)∧SH w w' [rb] [.blk rb 162 [(Z4 Ab bs cb),I (ya:Int),.bool yf],.own Ag3 (((bs.drop sa).take k).length) cg3 3 1 (((bs.drop sa).take k).map I)]) (fun⟨Ag3,cg3,k,ya,yf⟩=>bs.length-ya) (none,0,0,sa,sf) ⟨(zH ⟨rfl,(show (.slice none (([]:List Int).length) 0:Value)=.slice none (((bs.drop sa).take 0).length) 0 from slv r0 e2 r0),trivial⟩),(rfl),(by omega),(rfl),(fun _=>rfl),(hbv),(by intros; omega),(hs1.cast (lc r0 (lc (own_eq (g:=I) r0 e2 r0 e1) r0)))⟩ ?_
 rintro ⟨Ag3,cg3,k,ya,yf⟩ f w1 ⟨⟨g1,rfl⟩,hy1,hy2,hy3,hk0,hbv2,hz,hs2⟩
 refine sq (sr (tm (pB rb) r0 (tn r0 (qt r0 (fa 2 fo162_2 r0) (qt r0 (lD (.bool yf) hs2 0 r0 one4) (qt r0 (nt r0) (nn (cd r0 (fun h1=>?_) (fun h1=>?_)))))))))
 ·have h2:=nbF h1
  refine sk (nN (bl (sr (tm (pB rb) r0 (cL r0 (rdByte _ _ _ _ (blk_heap hs2 0 r0) (hb.up hs2 (fun _ h=>h) (fun _ h=>.inl h)) (‹_›) (‹_›)) ?_)))))
  rintro _ w2 ⟨qa1,qf1,rfl,p1,p2,p3,hs3⟩
  replace hs3:=hs2.cK [0] [1] hs3 r0
  refine tA (I (byV bs (ya,yf))) r0 (nn (sq (sr (tm (I (byV bs (ya,yf))) r0 (qt r0 (eqi r0 r0) (nn (cdd r0 (fun h3=>?_) (fun h3=>?_))))))))
  ·refine ex (tE (bX r0 (tE (bE (nN (sr (tm (.slice Ag3 (((bs.drop sa).take k).length) cg3) r0 (cS hs3 r0 (iBytesText _ _ (hs3.sl0 0 r0) (by exact un_by hbv2 hy3 hk0) (by exact un_l65 hbv2 hy3 hk0)) (fun w3 hs4=>?_)))))))))
   refine tA (Str (bT ((bs.drop sa).take k))) r0 (nn (rt (fT (Str (bT ((bs.drop sa).take k))) r0 ?_)))
   have e3:bT ((bs.drop sa).take k)=bT (unL bs (sa,sf)):=by rw[(un_done hy1 hy2 hy3 hz ‹_› ‹_› p3).2]
   exact⟨qa1,qf1,(congrArg (Str) e3),‹_›,‹_›,(by exact(un_done hy1 hy2 hy3 hz ‹_› ‹_› p3).1),(hs4.pk [1] r0)⟩
  refine sk (nN (rg (tm (.slice Ag3 (((bs.drop sa).take k).length) cg3) r0 (tm (I (byV bs (ya,yf))) r0 (bsk hs3 sl24 [I (byV bs (ya,yf))] [I (byV bs (ya,yf))] trivial r0 (fun b1 w4 hs5=>?_))))))
  refine apm (g:=I) (ys:=(bs.drop sa).take k) (zs:=([byV bs (ya,yf)]:List Int)) hs5 0 r0 sl24 r0 r0 r0 (hs5.sl0 2 r0) (fun _=>rfl) (by unfold maxLen; (have ust:=(un_step hy1 hy2 hy3 ‹_› p3); have hb120:=isBytes_len (hbv2 (by rw[hy3]; exact ust.2.2.2.1)); have hlt:((bs.drop sa).take k).length≤k:=List.length_take_le _ _; (try simp only[List.length_append,List.length_cons,List.length_nil]); omega)) (by(have ust:=(un_step hy1 hy2 hy3 ‹_› p3); have hb120:=isBytes_len (hbv2 (by rw[hy3]; exact ust.2.2.2.1)); have hlt:((bs.drop sa).take k).length≤k:=List.length_take_le _ _; (try simp only[List.length_append,List.length_cons,List.length_nil]); omega)) trivial r0 (fun A1 c1 w5 hs6=>?_)
  refine tA (.slice A1 ((((bs.drop sa).take k)++([byV bs (ya,yf)]:List Int)).length) c1) r0 (nl (bN (nN ?_)))
  have e4:((bs.drop sa).take k)++([byV bs (ya,yf)]:List Int)=(bs.drop sa).take (k+1):=by(have ust:=(un_step hy1 hy2 hy3 ‹_› p3); rw[ust.2.2.2.2.1]; exact un_app ust.2.2.2.2.2.2)
  have e5:(((bs.drop sa).take k)++([byV bs (ya,yf)]:List Int)).length=((bs.drop sa).take (k+1)).length:=by rw[e4]
  refine⟨(A1,c1,k+1,qa1,qf1),⟨(zH ⟨rfl,(show (.slice A1 ((((bs.drop sa).take k)++([byV bs (ya,yf)]:List Int)).length) c1:Value)=.slice A1 (((bs.drop sa).take (k+1)).length) c1 from slv r0 e5 r0),trivial⟩),((un_step hy1 hy2 hy3 ‹_› p3).1),((un_step hy1 hy2 hy3 ‹_› p3).2.1),((un_step hy1 hy2 hy3 ‹_› p3).2.2.1),(fun hh=>by have ust:=(un_step hy1 hy2 hy3 ‹_› p3); rw[ust.2.2.2.1]at hh; cases hh),(p2),(fun j hj=>by rcases Nat.lt_or_ge j k with h | h; exact hz j h; rw[show j=k by omega]; exact(un_step hy1 hy2 hy3 ‹_› p3).2.2.2.2.2.1),((hs6.pq [0,2] r0).cast (lc r0 (lc (own_eq (g:=I) r0 e5 r0 e4) r0)))⟩,?_⟩
  show bs.length-qa1<bs.length-ya
  (have ust:=(un_step hy1 hy2 hy3 ‹_› p3); omega)
 have h4:=nbT h1
 refine ex (tE (tE (bE (nN (sr (tm (.slice Ag3 (((bs.drop sa).take k).length) cg3) r0 (cS hs2 r0 (iBytesText _ _ (hs2.sl0 1 r0) (by exact un_by hbv2 hy3 hk0) (by exact un_l65 hbv2 hy3 hk0)) (fun w6 hs7=>?_))))))))
 refine tA (Str (bT ((bs.drop sa).take k))) r0 (nn (rt (fT (Str (bT ((bs.drop sa).take k))) r0 ?_)))
 have e6:bT ((bs.drop sa).take k)=bT (unL bs (sa,sf)):=by rw[(un_exit (b:=bs) hy1 hy3 hk0 ‹_›).2]
 exact⟨ya,yf,(congrArg (Str) e6),‹_›,‹_›,(by exact(un_exit (b:=bs) hy1 hy3 hk0 ‹_›).1),(hs7.pk [0] r0)⟩
set_option maxHeartbeats 8000000 in
theorem iOldFrom {Abs:Option Addr} {cbs:Nat} (bs:List Int) (w:World) (hbs:Sl w [] 1 Abs bs.length cbs (bs.map I)):Does Tryz.prog 125 [.slice Abs bs.length cbs] w (fun v w'=>∃ Aqr:Option Addr,∃ cqr:Nat,∃ c:Int,∃ ak:Int,∃ aq:List Int,∃ an:List UInt8,∃ apt:Int,∃ us:List UInt8,v=.tuple #[.agg #[.int .i64 c,.int .i64 ak,.slice Aqr aq.length cqr,Str an,.int .i64 apt,Str us],.int .i64 ((oldZ bs).1),.bool ((oldZ bs).2)]∧SH w w' [] [.own Aqr aq.length cqr 3 1 (aq.map I)]):=by
 refine fE (N:=51) Tryz.func125 r0 (by kernel_rfl) r0 ?_
 have hs0:SH w w [] []:=SH.refl w []
 have hbs_m:bs.length≤9223372036854775807:=Nat.le_trans hbs.cap hbs.capMax
 refine sr (al (cs:=Z23) hs0 tz60 r0 trivial r0 (fun b1 w1 hs1=>?_))
 refine tA (I 0) r0 (tA Z6 r0 (nx (tm (Z14 Abs bs cbs) r0 (cL r0 (newReader _ _ (hbs.up0 hs1)) ?_))))
 rintro _ w2 ⟨g1,rfl,hs2⟩
 replace hs2:=hs1.call0 hs2
 refine tA (pB g1) r0 (nx (tm (pB g1) r0 (bsk hs2 sl24 [I 4] [I 4] trivial r0 (fun b2 w3 hs3=>?_))))
 refine cL r0 (rdExpect _ 0 _ ([4]:List Int) _ (blk_heap hs3 1 r0) (hbs.up hs3 (by simp) (fun k h=>.inr (hs3.lo1 1 r0 k h))) (by(simp; done)) (by omega) (hs3.sl 2 r0 (by intro k hk; simp at hk; subst hk; exact⟨_,memi 1 r0,rfl⟩)) (by((simp; done)))) ?_
 rintro _ w4 ⟨qa1,qf1,rfl,p1,p2,p3,hs4⟩
 replace hs4:=hs3.cK [1] [0,2] hs4 r0
 refine nx (tm (pB g1) r0 (cL r0 (rdByte _ _ _ _ (blk_heap hs4 2 r0) (hbs.up hs4 (by simp) (fun k h=>.inr (hs4.lo1 2 r0 k h))) (‹_›) (by(assumption))) ?_))
 rintro _ w5 ⟨qa2,qf2,rfl,p4,p5,p6,hs5⟩
 replace hs5:=hs4.cK [2] [0,1] hs5 r0
 refine qt r0 (bdv (v:=.agg #[I (byV bs (qa1,qf1)),I 0,ns,Str [],I 0,Str []]) [(0,I (byV bs (qa1,qf1)))] r0 (fun _=>by kernel_rfl)) (al (cs:=Z23) hs5 tz60 r0 trivial r0 (fun b3 w6 (hs6:SH w w6 [] [.blk b1 60 Z23,oI b2 ([4]:List Int) 1 3,.blk g1 162 [(Z4 Abs bs cbs),I (qa2:Int),.bool qf2],.blk b3 60 Z23])=>?_))
 refine sG [I (byV bs (qa1,qf1)),I 0,ns,Str [],I 0,Str []] hs6 3 r0 ag60 (fun w7 hs7=>?_)
 refine nx (tm (pB g1) r0 (cL r0 (rdNumber _ _ _ _ _ (blk_heap hs7 2 r0) (hbs.up hs7 (by simp) (fun k h=>.inr (hs7.lo1 2 r0 k h))) (‹_›) (by(assumption)) (by omega)) ?_))
 rintro _ w8 ⟨qa3,qf3,rfl,p7,p8,p9,hs8⟩
 replace hs8:=hs7.cK [2] [0,1,3] hs8 r0
 refine tm (pB g1) r0 (cL r0 (rdTake _ _ _ _ _ (blk_heap hs8 3 r0) (hbs.up hs8 (by simp) (fun k h=>.inr (hs8.lo1 3 r0 k h))) (‹_›) (by(assumption)) (by omega)) ?_)
 rintro _ w9 ⟨A1,c1,qa4,qf4,rfl,p10,p11,p12,hs9⟩
 replace hs9:=hs8.cK [3] [0,1,2] hs9 r0
 refine tA (I (ofB (tkL bs (qa2,qf2) (2:Int).toNat))) r0 (tA (.slice A1 ((tkL bs (qa3,qf3) (4:Int).toNat).length) c1) r0 (nx (tm (pB g1) r0 (cL r0 (rdUntil _ _ _ _ (blk_heap hs9 3 r0) (hbs.up hs9 (by simp) (fun k h=>.inr (hs9.lo1 3 r0 k h))) (‹_›) (by(assumption))) ?_))))
 rintro _ w10 ⟨qa5,qf5,rfl,p13,p14,p15,hs10⟩
 replace hs10:=hs9.cK [3] [0,1,2,4] hs10 r0
 refine qt r0 (fa 5 fo60_2 r0) (sT (Str (bT (unL bs (qa4,qf4)))) hs10 2 r0 one9 (fun w11 hs11=>?_))
 refine nx (tm (.slice A1 ((tkL bs (qa3,qf3) (4:Int).toNat).length) c1) r0 (tm (I (ofB (tkL bs (qa2,qf2) (2:Int).toNat))) r0 (qt r0 (bdv (v:=.agg #[I 1,.slice A1 ((tkL bs (qa3,qf3) (4:Int).toNat).length) c1,Str [],I (ofB (tkL bs (qa2,qf2) (2:Int).toNat))]) [(0,I 1),(1,.slice A1 ((tkL bs (qa3,qf3) (4:Int).toNat).length) c1),(3,I (ofB (tkL bs (qa2,qf2) (2:Int).toNat)))] r0 (fun _=>by kernel_rfl)) (qt r0 (fa 1 fo60_1 r0) (sG [I 1,.slice A1 ((tkL bs (qa3,qf3) (4:Int).toNat).length) c1,Str [],I (ofB (tkL bs (qa2,qf2) (2:Int).toNat))] hs11 4 r0 ag54 (fun w12 (hs12:SH w w12 [] [.blk b1 60 Z23,oI b2 ([4]:List Int) 1 3,.own A1 ((tkL bs (qa3,qf3) (4:Int).toNat).length) c1 3 1 ((tkL bs (qa3,qf3) (4:Int).toNat).map I),.blk g1 162 [(Z4 Abs bs cbs),I (qa5:Int),.bool qf5],.blk b3 60 [I (byV bs (qa1,qf1)),I 1,.slice A1 ((tkL bs (qa3,qf3) (4:Int).toNat).length) c1,Str [],I (ofB (tkL bs (qa2,qf2) (2:Int).toNat)),Str (bT (unL bs (qa4,qf4)))]])=>?_))))))
 refine nn (sq (sr (tm (.slice A1 ((tkL bs (qa3,qf3) (4:Int).toNat).length) c1) r0 (bsk hs12 sl24 Z148 Z148 trivial r0 (fun b4 w13 hs13=>?_)))))
 refine cS hs13 r0 (slEqual _ ([0,0,0,1]:List Int) _ (hs13.sl0 2 r0) (hs13.sl0 5 r0)) (fun w14 hs14=>?_)
 refine nn ?_
 have hs15:=hs14.pq [0,2,3,4] r0
 refine cdd r0 (fun h1=>?_) (fun h1=>?_)
 ·refine rg (tm (pB g1) r0 (cL r0 (rdUntil _ _ _ _ (blk_heap hs15 2 r0) (hbs.up hs15 (by simp) (fun k h=>.inr (hs15.lo1 2 r0 k h))) (‹_›) (by(assumption))) ?_))
  rintro _ w15 ⟨qa6,qf6,rfl,p16,p17,p18,hs16⟩
  replace hs16:=hs15.cK [2] [0,1,3] hs16 r0
  refine tm (I (ofB (tkL bs (qa2,qf2) (2:Int).toNat))) r0 (qt r0 (bdv (v:=.agg #[I 3,ns,Str (bT (unL bs (qa5,qf5))),I (ofB (tkL bs (qa2,qf2) (2:Int).toNat))]) [(0,I 3),(2,Str (bT (unL bs (qa5,qf5)))),(3,I (ofB (tkL bs (qa2,qf2) (2:Int).toNat)))] r0 (fun _=>by kernel_rfl)) (qt r0 (fa 1 fo60_1 r0) (sG [I 3,ns,Str (bT (unL bs (qa5,qf5))),I (ofB (tkL bs (qa2,qf2) (2:Int).toNat))] hs16 2 r0 ag54 (fun w16 hs17=>?_))))
  refine nn (sq (sr (tm (pB g1) r0 (tn r0 (qt r0 (fa 2 fo162_2 r0) (qt r0 (lD (.bool qf6) hs17 2 r0 one4) (tm (.bool qf6) r0 (spl 40 r0 (fun h2=>?_) (fun h2=>?_)))))))))
  ·refine gt5 r0 (gt5 r0 (gt5 r0 (qt r0 (pt (v:=.bool true) r0 r0) (nn (cdt r0 (sq (rg (qt r0 (bdv (v:=.agg #[I 0,I 0,ns,Str [],I 0,Str []]) [] r0 (fun _=>by kernel_rfl)) (sG Z23 hs17 0 r0 ag60 (fun w17 (hs18:SH w w17 [] [.own A1 ((tkL bs (qa3,qf3) (4:Int).toNat).length) c1 3 1 ((tkL bs (qa3,qf3) (4:Int).toNat).map I),.blk g1 162 [(Z4 Abs bs cbs),I (qa6:Int),.bool qf6],.blk b3 60 [I (byV bs (qa1,qf1)),I 3,ns,Str (bT (unL bs (qa5,qf5))),I (ofB (tkL bs (qa2,qf2) (2:Int).toNat)),Str (bT (unL bs (qa4,qf4)))],.blk b1 60 Z23])=>?_))))))))))
   refine tA (I 0) r0 (tA Z6 r0 (nn ?_))
   have hs19:=hs18.pq [3] r0
   refine rt (tR (fret (resC hs19 0 r0 r0 ag60 r0 (.tmp (.tmp .nil))) r0 ?_))
   have hs20:=hs19.nl [Z0] r0
   have e1:oldZ bs=(0,false):=by exact(old_r2 p3 p6 p9 p12 p15 p18 ‹_›).trans (if_neg (fun hh=>by have h_:=hh.1; simp_all; done))
   rw[e1]
   exact⟨none,0,0,0,([]:List Int),[],0,[],rfl,(hs20.pk [1] r0)⟩
  have hb1:=byV_bd (bs:=bs) (s:=(qa1,qf1)) p2
  have hu4:=unL_len (b:=bs) (s:=(qa4,qf4)) p11
  have hu5:=unL_len (b:=bs) (s:=(qa5,qf5)) p14
  refine qh r0 (lG [I (byV bs (qa1,qf1)),I 3,ns,Str (bT (unL bs (qa5,qf5))),I (ofB (tkL bs (qa2,qf2) (2:Int).toNat)),Str (bT (unL bs (qa4,qf4)))] hs17 3 r0 ag60) (cl ⟨_,rfl,rfl⟩ r0 (iIsOld (c:=byV bs (qa1,qf1)) (ak:=3) (Aaq:=none) (caq:=0) (aq:=([]:List Int)) (an:=bT (unL bs (qa5,qf5))) (apt:=ofB (tkL bs (qa2,qf2) (2:Int).toNat)) (us:=bT (unL bs (qa4,qf4))) (w:=_) (haq:=Sl.nil) (han_n:=(by omega)) (hus_n:=(by omega))) ?_)
  rintro _ w18 ⟨rfl,hs21⟩
  replace hs21:=hs17.call0 hs21
  refine qh r0 (nt r0) (qt r0 (pf (v:=.bool (!(oldOk (byV bs (qa1,qf1)) 3 ([]:List Int) (bT (unL bs (qa5,qf5))) (ofB (tkL bs (qa2,qf2) (2:Int).toNat)) (bT (unL bs (qa4,qf4)))))) r0 r0) (nn (cd r0 (fun h3=>?_) (fun h3=>?_))))
  ·have h4:=nbF h3
   refine sr (qt r0 (bdv (v:=.agg #[I 0,I 0,ns,Str [],I 0,Str []]) [] r0 (fun _=>by kernel_rfl)) (sG Z23 hs21 0 r0 ag60 (fun w19 hs22=>?_)))
   refine tA (I 0) r0 (tA Z6 r0 (nn ?_))
   have hs23:=hs22.pq [3] r0
   refine rt (tR (fret (resC hs23 0 r0 r0 ag60 r0 (.tmp (.tmp .nil))) r0 ?_))
   have hs24:SH w w19 [] [.blk b1 60 Z23,Z0]:=SH.nils (by intro i hi; simp at hi; subst hi; exact nilItem) hs23
   have e2:oldZ bs=(0,false):=by exact(old_r2 p3 p6 p9 p12 p15 p18 ‹_›).trans (if_neg (fun hh=>by have h_:=hh.1; simp_all; done))
   rw[e2]
   exact⟨none,0,0,0,([]:List Int),[],0,[],rfl,(hs24.pk [1] r0)⟩
  have h5:=nbT h3
  refine sk (nN (sq ?_))
  refine raJ (fun w'=>∃ L,SH w w' [] L∧(.blk g1 162 [(Z4 Abs bs cbs),I (qa6:Int),.bool qf6])∈L∧(.blk b3 60 [I (byV bs (qa1,qf1)),I 3,ns,Str (bT (unL bs (qa5,qf5))),I (ofB (tkL bs (qa2,qf2) (2:Int).toNat)),Str (bT (unL bs (qa4,qf4)))])∈L∧True) (fun f w'=>Hz f [(2,pB b1),(3,I (qa6:Int)),(4,.bool true)]∧SH w w' [] [.blk b1 60 [I (byV bs (qa1,qf1)),I 3,ns,Str (bT (unL bs (qa5,qf5))),I (ofB (tkL bs (qa2,qf2) (2:Int).toNat)),Str (bT (unL bs (qa4,qf4)))],.own A1 ((tkL bs (qa3,qf3) (4:Int).toNat).length) c1 3 1 ((tkL bs (qa3,qf3) (4:Int).toNat).map I),.blk g1 162 [(Z4 Abs bs cbs),I (qa6:Int),.bool qf6],.blk b3 60 [I (byV bs (qa1,qf1)),I 3,ns,Str (bT (unL bs (qa5,qf5))),I (ofB (tkL bs (qa2,qf2) (2:Int).toNat)),Str (bT (unL bs (qa4,qf4)))]]) mixed ?_ ?_
  ·refine dG 3 8 31 (fun f w'=>Hz f [(2,pB b1),(3,I 0),(4,.bool false),(46,.agg #[I (byV bs (qa1,qf1)),I 3,ns,Str (bT (unL bs (qa5,qf5))),I (ofB (tkL bs (qa2,qf2) (2:Int).toNat)),Str (bT (unL bs (qa4,qf4)))]),(50,I (qa6:Int))]∧SH w w' [] [.blk b1 60 Z23,.own A1 ((tkL bs (qa3,qf3) (4:Int).toNat).length) c1 3 1 ((tkL bs (qa3,qf3) (4:Int).toNat).map I),.blk g1 162 [(Z4 Abs bs cbs),I (qa6:Int),.bool qf6],.blk b3 60 [I (byV bs (qa1,qf1)),I 3,ns,Str (bT (unL bs (qa5,qf5))),I (ofB (tkL bs (qa2,qf2) (2:Int).toNat)),Str (bT (unL bs (qa4,qf4)))]]) ?_ (fun D_11_0=>?_)
   ·rintro f w20 ⟨⟨g2,rfl⟩,hs25⟩
    refine aO 5 r0 (sG [I (byV bs (qa1,qf1)),I 3,ns,Str (bT (unL bs (qa5,qf5))),I (ofB (tkL bs (qa2,qf2) (2:Int).toNat)),Str (bT (unL bs (qa4,qf4)))] hs25 0 r0 ag60 (fun w21 hs26=>?_))
    refine nk ⟨_,hs26,memi 1 r0,memi 2 r0,trivial⟩ (tk (fuel:=0) (is:=[6,7]) (.cons r0 (.cons r0 (.nil))) (by kernel_rfl) (by kernel_rfl) ⟨_,hs26,memi 1 r0,memi 2 r0,trivial⟩ (yA r0 (asg (v:=I (qa6:Int)) r0) (yA r0 (asg (v:=.bool true) r0) (.nil (ad (by kernel_rfl) ?_)))))
    exact⟨(zR r0),(hs26.pk [3,0,1,2] r0)⟩
   have hs27:=hs21.drew
   exact tk (fuel:=3) (is:=[0,1,2,3,4]) (.cons r0 (.cons r0 (.cons r0 (.cons r0 (.cons r0 (.nil)))))) (by kernel_rfl) (by kernel_rfl) ⟨_,hs27,memi 2 r0,memi 3 r0,trivial⟩ (yB r0 (fun ⟨Lq,hsq,mh0,mh1,_⟩=>ldgm (vs:=[I (byV bs (qa1,qf1)),I 3,ns,Str (bT (unL bs (qa5,qf5))),I (ofB (tkL bs (qa2,qf2) (2:Int).toNat)),Str (bT (unL bs (qa4,qf4)))]) hsq mh1 r0 r0 r0 ag60) (yA r0 (mv (v:=pB g1) r0) (yA r0 (nc r0) (yA r0 (fa 1 fo162_1 r0) (yB r0 (fun ⟨Lq,hsq,mh0,mh1,_⟩=>lM (I (qa6:Int)) hsq mh0 r0 one3) (.nil (alc D_11_0 ⟨(zR r0),hs27⟩)))))))
  rintro f w22 ⟨⟨g3,rfl⟩,hs28⟩
  refine nN ?_
  have hs29:=hs28.pq [0] r0
  refine rt (fret (resC hs29 0 r0 r0 ag60 r0 (.tmp (.tmp .nil))) r0 ?_)
  have hs30:SH w w22 [] [.blk b1 60 [I (byV bs (qa1,qf1)),I 3,ns,Str (bT (unL bs (qa5,qf5))),I (ofB (tkL bs (qa2,qf2) (2:Int).toNat)),Str (bT (unL bs (qa4,qf4)))],Z0]:=SH.nils (by intro i hi; simp at hi; subst hi; exact nilItem) hs29
  have e3:oldZ bs=((qa6:Int),true):=by exact(old_r2 p3 p6 p9 p12 p15 p18 ‹_›).trans (if_pos ⟨by assumption,by assumption⟩)
  rw[e3]
  exact⟨none,0,byV bs (qa1,qf1),3,([]:List Int),bT (unL bs (qa5,qf5)),ofB (tkL bs (qa2,qf2) (2:Int).toNat),bT (unL bs (qa4,qf4)),rfl,(hs30.pk [1] r0)⟩
 refine sk (nN (sq (sr (tm (pB g1) r0 (tn r0 (qt r0 (fa 2 fo162_2 r0) (qt r0 (lD (.bool qf5) hs15 2 r0 one4) (tm (.bool qf5) r0 (spl 40 r0 (fun h6=>?_) (fun h6=>?_))))))))))
 ·refine gt5 r0 (gt5 r0 (gt5 r0 (qt r0 (pt (v:=.bool true) r0 r0) (nn (cdt r0 (sq (rg (qt r0 (bdv (v:=.agg #[I 0,I 0,ns,Str [],I 0,Str []]) [] r0 (fun _=>by kernel_rfl)) (sG Z23 hs15 0 r0 ag60 (fun w23 hs31=>?_))))))))))
  refine tA (I 0) r0 (tA Z6 r0 (nn ?_))
  have hs32:=hs31.pq [3] r0
  refine rt (tR (fret (resC hs32 0 r0 r0 ag60 r0 (.tmp (.tmp .nil))) r0 ?_))
  have hs33:=hs32.nl [Z0] r0
  have e4:oldZ bs=(0,false):=by exact(old_r1 p3 p6 p9 p12 p15 ‹_›).trans (if_neg (fun hh=>by have h_:=hh.1; simp_all; done))
  rw[e4]
  exact⟨none,0,0,0,([]:List Int),[],0,[],rfl,(hs33.pk [1] r0)⟩
 refine qh r0 (lG [I (byV bs (qa1,qf1)),I 1,.slice A1 ((tkL bs (qa3,qf3) (4:Int).toNat).length) c1,Str [],I (ofB (tkL bs (qa2,qf2) (2:Int).toNat)),Str (bT (unL bs (qa4,qf4)))] hs15 3 r0 ag60) (cl ⟨_,rfl,rfl⟩ r0 (iIsOld _ 1 _ [] _ _ _ (hs15.sl0 1 r0) (by((simp; done))) (by(have hb1:=byV_bd (bs:=bs) (s:=(qa1,qf1)) p2; have hu4:=unL_len (b:=bs) (s:=(qa4,qf4)) p11; have hu5:=unL_len (b:=bs) (s:=(qa5,qf5)) p14; omega))) ?_)
 rintro _ w24 ⟨rfl,hs34⟩
 replace hs34:=hs15.call0 hs34
 refine qh r0 (nt r0) (qt r0 (pf (v:=.bool (!(oldOk (byV bs (qa1,qf1)) 1 (tkL bs (qa3,qf3) (4:Int).toNat) [] (ofB (tkL bs (qa2,qf2) (2:Int).toNat)) (bT (unL bs (qa4,qf4)))))) r0 r0) (nn (cd r0 (fun h7=>?_) (fun h7=>?_))))
 ·have h8:=nbF h7
  refine sr (qt r0 (bdv (v:=.agg #[I 0,I 0,ns,Str [],I 0,Str []]) [] r0 (fun _=>by kernel_rfl)) (sG Z23 hs34 0 r0 ag60 (fun w25 hs35=>?_)))
  refine tA (I 0) r0 (tA Z6 r0 (nn ?_))
  have hs36:SH w w25 [] [.blk b1 60 Z23]:=hs35.pk [3] r0
  refine rt (tR (fret (resC hs36 0 r0 r0 ag60 r0 (.tmp (.tmp .nil))) r0 ?_))
  have hs37:=hs36.nl [Z0] r0
  have e5:oldZ bs=(0,false):=by exact(old_r1 p3 p6 p9 p12 p15 ‹_›).trans (if_neg (fun hh=>by have h_:=hh.1; simp_all; done))
  rw[e5]
  exact⟨none,0,0,0,([]:List Int),[],0,[],rfl,(hs37.pk [1] r0)⟩
 have h9:=nbT h7
 refine sk (nN (sq ?_))
 refine raJ (fun w'=>∃ L,SH w w' [] L∧(.blk g1 162 [(Z4 Abs bs cbs),I (qa5:Int),.bool qf5])∈L∧(.blk b3 60 [I (byV bs (qa1,qf1)),I 1,.slice A1 ((tkL bs (qa3,qf3) (4:Int).toNat).length) c1,Str [],I (ofB (tkL bs (qa2,qf2) (2:Int).toNat)),Str (bT (unL bs (qa4,qf4)))])∈L∧True) (fun f w'=>Hz f [(2,pB b1),(3,I (qa5:Int)),(4,.bool true)]∧SH w w' [] [.blk b1 60 [I (byV bs (qa1,qf1)),I 1,.slice A1 ((tkL bs (qa3,qf3) (4:Int).toNat).length) c1,Str [],I (ofB (tkL bs (qa2,qf2) (2:Int).toNat)),Str (bT (unL bs (qa4,qf4)))],.own A1 ((tkL bs (qa3,qf3) (4:Int).toNat).length) c1 3 1 ((tkL bs (qa3,qf3) (4:Int).toNat).map I),.blk g1 162 [(Z4 Abs bs cbs),I (qa5:Int),.bool qf5],.blk b3 60 [I (byV bs (qa1,qf1)),I 1,.slice A1 ((tkL bs (qa3,qf3) (4:Int).toNat).length) c1,Str [],I (ofB (tkL bs (qa2,qf2) (2:Int).toNat)),Str (bT (unL bs (qa4,qf4)))]]) mixed ?_ ?_
 ·refine dG 3 8 31 (fun f w'=>Hz f [(2,pB b1),(3,I 0),(4,.bool false),(46,.agg #[I (byV bs (qa1,qf1)),I 1,.slice A1 ((tkL bs (qa3,qf3) (4:Int).toNat).length) c1,Str [],I (ofB (tkL bs (qa2,qf2) (2:Int).toNat)),Str (bT (unL bs (qa4,qf4)))]),(50,I (qa5:Int))]∧SH w w' [] [.blk b1 60 Z23,.own A1 ((tkL bs (qa3,qf3) (4:Int).toNat).length) c1 3 1 ((tkL bs (qa3,qf3) (4:Int).toNat).map I),.blk g1 162 [(Z4 Abs bs cbs),I (qa5:Int),.bool qf5],.blk b3 60 [I (byV bs (qa1,qf1)),I 1,.slice A1 ((tkL bs (qa3,qf3) (4:Int).toNat).length) c1,Str [],I (ofB (tkL bs (qa2,qf2) (2:Int).toNat)),Str (bT (unL bs (qa4,qf4)))]]) ?_ (fun D_11_0=>?_)
  ·rintro f w26 ⟨⟨g4,rfl⟩,hs38⟩
   refine aO 5 r0 (sG [I (byV bs (qa1,qf1)),I 1,.slice A1 ((tkL bs (qa3,qf3) (4:Int).toNat).length) c1,Str [],I (ofB (tkL bs (qa2,qf2) (2:Int).toNat)),Str (bT (unL bs (qa4,qf4)))] hs38 0 r0 ag60 (fun w27 hs39=>?_))
   refine nk ⟨_,hs39,memi 1 r0,memi 2 r0,trivial⟩ (tk (fuel:=0) (is:=[6,7]) (.cons r0 (.cons r0 (.nil))) (by kernel_rfl) (by kernel_rfl) ⟨_,hs39,memi 1 r0,memi 2 r0,trivial⟩ (yA r0 (asg (v:=I (qa5:Int)) r0) (yA r0 (asg (v:=.bool true) r0) (.nil (ad (by kernel_rfl) ?_)))))
   exact⟨(zR r0),(hs39.pk [3,0,1,2] r0)⟩
  have hs40:=hs34.drew
  exact tk (fuel:=3) (is:=[0,1,2,3,4]) (.cons r0 (.cons r0 (.cons r0 (.cons r0 (.cons r0 (.nil)))))) (by kernel_rfl) (by kernel_rfl) ⟨_,hs40,memi 2 r0,memi 3 r0,trivial⟩ (yB r0 (fun ⟨Lq,hsq,mh0,mh1,_⟩=>ldgm (vs:=[I (byV bs (qa1,qf1)),I 1,.slice A1 ((tkL bs (qa3,qf3) (4:Int).toNat).length) c1,Str [],I (ofB (tkL bs (qa2,qf2) (2:Int).toNat)),Str (bT (unL bs (qa4,qf4)))]) hsq mh1 r0 r0 r0 ag60) (yA r0 (mv (v:=pB g1) r0) (yA r0 (nc r0) (yA r0 (fa 1 fo162_1 r0) (yB r0 (fun ⟨Lq,hsq,mh0,mh1,_⟩=>lM (I (qa5:Int)) hsq mh0 r0 one3) (.nil (alc D_11_0 ⟨(zR r0),hs40⟩)))))))
 rintro f w28 ⟨⟨g5,rfl⟩,hs41⟩
 refine nN ?_
 have hs42:SH w w28 [] [.blk b1 60 [I (byV bs (qa1,qf1)),I 1,.slice A1 ((tkL bs (qa3,qf3) (4:Int).toNat).length) c1,Str [],I (ofB (tkL bs (qa2,qf2) (2:Int).toNat)),Str (bT (unL bs (qa4,qf4)))],.own A1 ((tkL bs (qa3,qf3) (4:Int).toNat).length) c1 3 1 ((tkL bs (qa3,qf3) (4:Int).toNat).map I)]:=hs41.pk [0,1] r0
 refine rt (fret (resC hs42 0 r0 r0 ag60 r0 (.tmp (.tmp .nil))) r0 ?_)
 have e6:oldZ bs=((qa5:Int),true):=by exact(old_r1 p3 p6 p9 p12 p15 ‹_›).trans (if_pos ⟨by assumption,by assumption⟩)
 rw[e6]
 exact⟨A1,c1,byV bs (qa1,qf1),1,tkL bs (qa3,qf3) (4:Int).toNat,[],ofB (tkL bs (qa2,qf2) (2:Int).toNat),bT (unL bs (qa4,qf4)),rfl,(hs42.pk [1] r0)⟩
set_option maxHeartbeats 8000000 in
theorem sTagsFrom {Abs:Option Addr} {cbs:Nat} (bs:List Int) (w:World) (hbs:Sl w [] 1 Abs bs.length cbs (bs.map I)):Does Tryz.prog 146 [.slice Abs bs.length cbs] w (fun v w'=>∃ Atr:Option Addr,∃ ntr:Nat,∃ ctr:Nat,v=.tuple #[.slice Atr ntr ctr,.bool (tagsFrom bs)]∧SH w w' [] []):=by
 refine fE (N:=68) Tryz.func146 r0 (by kernel_rfl) r0 ?_
 have hs0:=SH.refl w []
 have hbs_m:bs.length≤9223372036854775807:=Nat.le_trans hbs.cap hbs.capMax
 refine sr (tA ns r0 (tA Z6 r0 (nx (bsk hs0 sl115 [] [] trivial r0 (fun b1 w1 hs1=>?_)))))
 refine tA (sb b1 (([]:List TgE).length) 0) r0 (nn (sq (sr (tm (Z14 Abs bs cbs) r0 (cS hs1 r0 (sBytesValid _ _ (hbs.up0 hs1)) (fun w2 hs2=>?_))))))
 refine qt r0 (nt r0) (nn (cd r0 (fun h1=>?_) (fun h1=>?_)))
 ·have h2:=nbF h1
  refine sr (tm (sb b1 (([]:List TgE).length) 0) r0 (tA (sb b1 (([]:List TgE).length) 0) r0 (tA Z6 r0 (nn (rt (tR (fret (.tmp (.tmp .nil)) r0 ?_)))))))
  have e1:false=tagsFrom bs:=by exact(tgs_nv ‹_›).symm
  exact⟨(Z8 b1),([]:List TgE).length,0,(tup2 r0 (congrArg (Value.bool) e1)),(hs2.pk [] r0)⟩
 have h3:=nbT h1
 refine sk (nN (sr (tA (I 0) r0 (nn (sq (bl ?_))))))
 have hs3:SH w w2 [] [.own (Z8 b1) (([]:List TgE).length) 0 166 2 (([]:List TgE).flatMap gTgE),.rows 3 ([]:List Hd)]:=hs2.rows0 3
 have e2:([]:List Hd)=(([]:List TgE).map Prod.snd):=by rfl
 refine lp (σ:=(Option Addr)×Nat×Nat×(List TgE)) (fun⟨Ag4,cg4,k,tg⟩ f w'=>Hz f [(0,.slice Abs bs.length cbs),(4,.slice Ag4 tg.length cg4),(5,I (k:Int))]∧(k≤bs.length)∧(tagsL bs=(tagsL (bs.drop k)).map (tgX tg++ ·))∧(tg.length≤k)∧SH w w' [] [.own Ag4 tg.length cg4 166 2 (tg.flatMap gTgE),.rows 3 (tg.map Prod.snd)]) (fun⟨Ag4,cg4,k,tg⟩=>bs.length-k) ((Z8 b1),0,0,([]:List TgE)) ⟨(zH ⟨rfl,rfl,(show (I 0:Value)=I ((0:Nat):Int) from congrArg (Value.int .i64) (by rfl)),trivial⟩),(by omega),(by simp[tgX]),(by simp),(hs3.cast (lc r0 (lc (congrArg (It.rows 3) e2) r0)))⟩ ?_
 rintro ⟨Ag4,cg4,k,tg⟩ f w3 ⟨⟨g1,rfl⟩,hk,hz,hg,hs4⟩
 refine sq (sr (tm (I (k:Int)) r0 (tm (Z14 Abs bs cbs) r0 (qt r0 (lnA sl24 r0) (qt r0 (lss r0 r0) (nl (nN (cdd r0 (fun h4=>?_) (fun h4=>?_)))))))))
 ·refine sk (nN (bl (sq (sr (tm (Z14 Abs bs cbs) r0 (qt r0 (lnA sl24 r0) (tm (I (k:Int)) r0 (qt r0 (sub r0 r0 (by exact⟨by omega,by omega⟩)) (qt r0 (lss r0 r0) (tm (.bool (decide (((bs.length:Int)-(k:Int))<3))) r0 (spd 21 r0 (fun h5=>?_) (fun h5=>?_))))))))))))
  ·refine gt5 r0 (gt5 r0 (gt5 r0 (gt5 r0 (gt5 r0 (gt5 r0 (gt5 r0 (gt5 r0 (gt5 r0 (gt5 r0 (gt5 r0 (gt5 r0 (gt5 r0 (qt r0 (pt (v:=.bool true) r0 r0) (nn (cdt r0 (sr (bsk hs4 sl115 [] [] trivial r0 (fun b2 w4 hs5=>?_))))))))))))))))))
   refine tA (sb b2 (([]:List TgE).length) 0) r0 (tA Z6 r0 (nn (rt (tR (bR (tR (bR (tR (fret (.tmp (.tmp .nil)) r0 ?_)))))))))
   have e3:false=tagsFrom bs:=by exact(tgs_bad hz (by omega) (by omega)).symm
   exact⟨(Z8 b2),([]:List TgE).length,0,(tup2 r0 (congrArg (Value.bool) e3)),(hs5.pk [] r0)⟩
  have hob:=ofB_c (by assumption:isBytes bs=true) k
  have hbl:=isBytes_len (by assumption:isBytes bs=true)
  refine qh r0 (mv (v:=.slice Abs bs.length cbs) r0) (qh r0 (mv (v:=I (k:Int)) r0) (qh r0 (add r0 r0 (by(exact⟨by omega,by omega⟩))) (qh r0 (mv (v:=I (k:Int)) r0) (qh r0 (add r0 r0 (by(exact⟨by omega,by omega⟩))) (qh r0 (cum (zs:=bs) (k+1) (k+3) sl24 r0 r0 r0 (by omega) (by omega) hbs.cap) (cl ⟨_,rfl,rfl⟩ r0 (sL1Of _ _ (Sl.cutm (hbs.up0 hs4) (by omega) (by omega)) (by exact sub_byte ‹_›) (by((try simp only[List.length_drop,List.length_take]); omega))) ?_))))))
  rintro _ w5 ⟨rfl,hs6⟩
  replace hs6:=hs4.call0 hs6
  refine qh r0 (mv (v:=.slice Abs bs.length cbs) r0) (qh r0 (lnA sl24 r0) (qh r0 (mv (v:=I (k:Int)) r0) (qh r0 (sub r0 r0 (by exact⟨by omega,by omega⟩)) (qh r0 (sub r0 r0 (by exact⟨by omega,by omega⟩)) (qh r0 (gtr r0 r0) (qt r0 (pf (v:=.bool (decide ((((bs.length:Int)-(k:Int))-3)<(ofB ((bs.take (k+3)).drop (k+1)))))) r0 r0) (nl (nN (cdd r0 (fun h6=>?_) (fun h6=>?_))))))))))
  ·refine sr (bsk hs6 sl115 [] [] trivial r0 (fun b3 w6 hs7=>?_))
   refine tA (sb b3 (([]:List TgE).length) 0) r0 (tA Z6 r0 (nn (rt (tR (bR (tR (bR (tR (fret (.tmp (.tmp .nil)) r0 ?_)))))))))
   have e4:false=tagsFrom bs:=by exact(tgs_bad hz (by omega) (by omega)).symm
   exact⟨(Z8 b3),([]:List TgE).length,0,(tup2 r0 (congrArg (Value.bool) e4)),(hs7.pk [] r0)⟩
  refine sk (nN (sr (tm (I (k:Int)) r0 (qt r0 (add r0 r0 (by(exact⟨by omega,by omega⟩))) (tm (Z14 Abs bs cbs) r0 (tm (I (k:Int)) r0 (qt r0 (add r0 r0 (by(exact⟨by omega,by omega⟩))) (tm (I (k:Int)) r0 (qt r0 (add r0 r0 (by(exact⟨by omega,by omega⟩))) (qt r0 (cum (zs:=bs) (k+1) (k+3) sl24 r0 r0 r0 (by omega) (by omega) hbs.cap) (cS hs6 r0 (sL1Of _ _ (Sl.cutm (hbs.up0 hs6) (by omega) (by omega)) (by exact sub_byte ‹_›) (by((try simp only[List.length_drop,List.length_take]); omega))) (fun w7 hs8=>?_))))))))))))
  refine qt r0 (add r0 r0 (by(exact⟨by omega,by omega⟩))) (tA (I (((k:Int)+3)+(ofB ((bs.take (k+3)).drop (k+1))))) r0 (nn (sq ?_)))
  refine raJ (fun w'=>∃ L,SH w w' [] L∧True) (fun f w'=>∃ (A11':Option Addr) (c11' b13':Nat) (A14':Option Addr) (c14':Nat),Hz f [(0,.slice Abs bs.length cbs),(4,.slice A14' ((tg++([((bs.getD k 0,(⟨A11',c11',(bs.take ((((k:Int)+3)+(ofB ((bs.take (k+3)).drop (k+1)))).toNat)).drop (k+3)⟩:Hd)):TgE)]:List TgE)).length) c14'),(6,I (((k:Int)+3)+(ofB ((bs.take (k+3)).drop (k+1))))),(22,.slice Abs bs.length cbs),(23,I (k:Int)),(24,I ((k:Int)+1)),(25,I (k:Int)),(26,I ((k:Int)+3)),(27,.slice (if cbs=k+1 then Abs else Abs.map (·.add ((k+1)*1))) (((bs.take (k+3)).drop (k+1)).length) (cbs-(k+1))),(28,I (ofB ((bs.take (k+3)).drop (k+1)))),(29,.slice Abs bs.length cbs),(30,I (bs.length:Int)),(31,I (k:Int)),(32,I ((bs.length:Int)-(k:Int))),(33,I (((bs.length:Int)-(k:Int))-3)),(34,.bool (decide ((((bs.length:Int)-(k:Int))-3)<(ofB ((bs.take (k+3)).drop (k+1))))))]∧SH w w' [] [.own A14' ((tg++([((bs.getD k 0,(⟨A11',c11',(bs.take ((((k:Int)+3)+(ofB ((bs.take (k+3)).drop (k+1)))).toNat)).drop (k+3)⟩:Hd)):TgE)]:List TgE)).length) c14' 166 2 ((tg++([((bs.getD k 0,(⟨A11',c11',(bs.take ((((k:Int)+3)+(ofB ((bs.take (k+3)).drop (k+1)))).toNat)).drop (k+3)⟩:Hd)):TgE)]:List TgE)).flatMap gTgE),.rows 3 ((tg.map Prod.snd)++[(⟨A11',c11',(bs.take ((((k:Int)+3)+(ofB ((bs.take (k+3)).drop (k+1)))).toNat)).drop (k+3)⟩:Hd)]),.own (Z8 b13') (([((bs.getD k 0,(⟨A11',c11',(bs.take ((((k:Int)+3)+(ofB ((bs.take (k+3)).drop (k+1)))).toNat)).drop (k+3)⟩:Hd)):TgE)]:List TgE).length) 1 166 2 (([((bs.getD k 0,(⟨A11',c11',(bs.take ((((k:Int)+3)+(ofB ((bs.take (k+3)).drop (k+1)))).toNat)).drop (k+3)⟩:Hd)):TgE)]:List TgE).flatMap gTgE)]) mixed ?_ ?_
  ·refine dG 2 16 16383 (fun f w'=>∃ (A11':Option Addr) (c11' b13':Nat),Hz f [(0,.slice Abs bs.length cbs),(4,.slice Ag4 tg.length cg4),(6,I (((k:Int)+3)+(ofB ((bs.take (k+3)).drop (k+1))))),(22,.slice Abs bs.length cbs),(23,I (k:Int)),(24,I ((k:Int)+1)),(25,I (k:Int)),(26,I ((k:Int)+3)),(27,.slice (if cbs=k+1 then Abs else Abs.map (·.add ((k+1)*1))) (((bs.take (k+3)).drop (k+1)).length) (cbs-(k+1))),(28,I (ofB ((bs.take (k+3)).drop (k+1)))),(29,.slice Abs bs.length cbs),(30,I (bs.length:Int)),(31,I (k:Int)),(32,I ((bs.length:Int)-(k:Int))),(33,I (((bs.length:Int)-(k:Int))-3)),(34,.bool (decide ((((bs.length:Int)-(k:Int))-3)<(ofB ((bs.take (k+3)).drop (k+1)))))),(47,.slice Ag4 tg.length cg4),(60,sb b13' (([((bs.getD k 0,(⟨A11',c11',(bs.take ((((k:Int)+3)+(ofB ((bs.take (k+3)).drop (k+1)))).toNat)).drop (k+3)⟩:Hd)):TgE)]:List TgE).length) 1)]∧SH w w' [] [.own Ag4 tg.length cg4 166 2 (tg.flatMap gTgE),.rows 3 (tg.map Prod.snd),.own (Z8 b13') (([((bs.getD k 0,(⟨A11',c11',(bs.take ((((k:Int)+3)+(ofB ((bs.take (k+3)).drop (k+1)))).toNat)).drop (k+3)⟩:Hd)):TgE)]:List TgE).length) 1 166 2 (([((bs.getD k 0,(⟨A11',c11',(bs.take ((((k:Int)+3)+(ofB ((bs.take (k+3)).drop (k+1)))).toNat)).drop (k+3)⟩:Hd)):TgE)]:List TgE).flatMap gTgE),.own A11' (((bs.take ((((k:Int)+3)+(ofB ((bs.take (k+3)).drop (k+1)))).toNat)).drop (k+3)).length) c11' 3 1 (((bs.take ((((k:Int)+3)+(ofB ((bs.take (k+3)).drop (k+1)))).toNat)).drop (k+3)).map I)]) ?_ (fun D_9_0=>?_)
   ·rintro f w8 ⟨A11',c11',b13',⟨g2,rfl⟩,hs9⟩
    refine aO 14 r0 (apf (g:=gTgE) (ys:=tg) (zs:=([((bs.getD k 0,(⟨A11',c11',(bs.take ((((k:Int)+3)+(ofB ((bs.take (k+3)).drop (k+1)))).toNat)).drop (k+3)⟩:Hd)):TgE)]:List TgE)) hs9 0 r0 sl115 r0 (by decide) r0 r0 (hs9.sl0 2 r0) (fun _=>rfl) (by unfold maxLen; ((try simp only[List.length_append,List.length_cons,List.length_nil,List.length_drop,List.length_take]); omega)) (by((try simp only[List.length_append,List.length_cons,List.length_nil,List.length_drop,List.length_take]); omega)) trivial r0 (fun A14' c14' w9 hs10=>?_))
    have hs11:SH w w9 [] [.own (Z8 b13') (([((bs.getD k 0,(⟨A11',c11',(bs.take ((((k:Int)+3)+(ofB ((bs.take (k+3)).drop (k+1)))).toNat)).drop (k+3)⟩:Hd)):TgE)]:List TgE).length) 1 166 2 (([((bs.getD k 0,(⟨A11',c11',(bs.take ((((k:Int)+3)+(ofB ((bs.take (k+3)).drop (k+1)))).toNat)).drop (k+3)⟩:Hd)):TgE)]:List TgE).flatMap gTgE),.own A14' ((tg++([((bs.getD k 0,(⟨A11',c11',(bs.take ((((k:Int)+3)+(ofB ((bs.take (k+3)).drop (k+1)))).toNat)).drop (k+3)⟩:Hd)):TgE)]:List TgE)).length) c14' 166 2 ((tg++([((bs.getD k 0,(⟨A11',c11',(bs.take ((((k:Int)+3)+(ofB ((bs.take (k+3)).drop (k+1)))).toNat)).drop (k+3)⟩:Hd)):TgE)]:List TgE)).flatMap gTgE),.rows 3 ((tg.map Prod.snd)++[(⟨A11',c11',(bs.take ((((k:Int)+3)+(ofB ((bs.take (k+3)).drop (k+1)))).toNat)).drop (k+3)⟩:Hd)])]:=SH.rows_push (e:=3) (us:=(tg.map Prod.snd)) (L:=[.own (Z8 b13') (([((bs.getD k 0,(⟨A11',c11',(bs.take ((((k:Int)+3)+(ofB ((bs.take (k+3)).drop (k+1)))).toNat)).drop (k+3)⟩:Hd)):TgE)]:List TgE).length) 1 166 2 (([((bs.getD k 0,(⟨A11',c11',(bs.take ((((k:Int)+3)+(ofB ((bs.take (k+3)).drop (k+1)))).toNat)).drop (k+3)⟩:Hd)):TgE)]:List TgE).flatMap gTgE),.own A14' ((tg++([((bs.getD k 0,(⟨A11',c11',(bs.take ((((k:Int)+3)+(ofB ((bs.take (k+3)).drop (k+1)))).toNat)).drop (k+3)⟩:Hd)):TgE)]:List TgE)).length) c14' 166 2 ((tg++([((bs.getD k 0,(⟨A11',c11',(bs.take ((((k:Int)+3)+(ofB ((bs.take (k+3)).drop (k+1)))).toNat)).drop (k+3)⟩:Hd)):TgE)]:List TgE)).flatMap gTgE)]) A11' c11' ((bs.take ((((k:Int)+3)+(ofB ((bs.take (k+3)).drop (k+1)))).toNat)).drop (k+3)) (hs10.pk [0,2,1,3] r0)
    refine nk ⟨_,hs11,trivial⟩ (tk (fuel:=0) (is:=[15]) (.cons r0 (.nil)) (by kernel_rfl) (by kernel_rfl) ⟨_,hs11,trivial⟩ (yA r0 (asg (v:=.slice A14' ((tg++([((bs.getD k 0,(⟨A11',c11',(bs.take ((((k:Int)+3)+(ofB ((bs.take (k+3)).drop (k+1)))).toNat)).drop (k+3)⟩:Hd)):TgE)]:List TgE)).length) c14') r0) (.nil (ad (by kernel_rfl) ?_))))
    exact⟨A11',c11',b13',A14',c14',(zR r0),(hs11.pk [1,2,0] r0)⟩
   refine dG 3 16 8191 (fun f w'=>∃ (A11':Option Addr) (c11':Nat),Hz f [(0,.slice Abs bs.length cbs),(4,.slice Ag4 tg.length cg4),(6,I (((k:Int)+3)+(ofB ((bs.take (k+3)).drop (k+1))))),(22,.slice Abs bs.length cbs),(23,I (k:Int)),(24,I ((k:Int)+1)),(25,I (k:Int)),(26,I ((k:Int)+3)),(27,.slice (if cbs=k+1 then Abs else Abs.map (·.add ((k+1)*1))) (((bs.take (k+3)).drop (k+1)).length) (cbs-(k+1))),(28,I (ofB ((bs.take (k+3)).drop (k+1)))),(29,.slice Abs bs.length cbs),(30,I (bs.length:Int)),(31,I (k:Int)),(32,I ((bs.length:Int)-(k:Int))),(33,I (((bs.length:Int)-(k:Int))-3)),(34,.bool (decide ((((bs.length:Int)-(k:Int))-3)<(ofB ((bs.take (k+3)).drop (k+1)))))),(47,.slice Ag4 tg.length cg4),(59,.agg #[I (bs.getD k 0),.slice A11' (((bs.take ((((k:Int)+3)+(ofB ((bs.take (k+3)).drop (k+1)))).toNat)).drop (k+3)).length) c11'])]∧SH w w' [] [.own Ag4 tg.length cg4 166 2 (tg.flatMap gTgE),.rows 3 (tg.map Prod.snd),.own A11' (((bs.take ((((k:Int)+3)+(ofB ((bs.take (k+3)).drop (k+1)))).toNat)).drop (k+3)).length) c11' 3 1 (((bs.take ((((k:Int)+3)+(ofB ((bs.take (k+3)).drop (k+1)))).toNat)).drop (k+3)).map I)]) ?_ (fun D_9_1=>?_)
   ·rintro f w10 ⟨A11',c11',⟨g3,rfl⟩,hs12⟩
    refine aO 13 r0 (bsk hs12 sl115 [.agg #[I (bs.getD k 0),.slice A11' (((bs.take ((((k:Int)+3)+(ofB ((bs.take (k+3)).drop (k+1)))).toNat)).drop (k+3)).length) c11']] [I (bs.getD k 0),.slice A11' (((bs.take ((((k:Int)+3)+(ofB ((bs.take (k+3)).drop (k+1)))).toNat)).drop (k+3)).length) c11'] trivial r0 (fun b13' w11 hs13=>?_))
    exact nk ⟨_,hs13,trivial⟩ (alc D_9_0 ⟨A11',c11',b13',(zR r0),(hs13.pk [0,1,3,2] r0)⟩)
   refine dG 5 16 2047 (fun f w'=>∃ (b5':Nat),Hz f [(0,.slice Abs bs.length cbs),(4,.slice Ag4 tg.length cg4),(6,I (((k:Int)+3)+(ofB ((bs.take (k+3)).drop (k+1))))),(22,.slice Abs bs.length cbs),(23,I (k:Int)),(24,I ((k:Int)+1)),(25,I (k:Int)),(26,I ((k:Int)+3)),(27,.slice (if cbs=k+1 then Abs else Abs.map (·.add ((k+1)*1))) (((bs.take (k+3)).drop (k+1)).length) (cbs-(k+1))),(28,I (ofB ((bs.take (k+3)).drop (k+1)))),(29,.slice Abs bs.length cbs),(30,I (bs.length:Int)),(31,I (k:Int)),(32,I ((bs.length:Int)-(k:Int))),(33,I (((bs.length:Int)-(k:Int))-3)),(34,.bool (decide ((((bs.length:Int)-(k:Int))-3)<(ofB ((bs.take (k+3)).drop (k+1)))))),(47,.slice Ag4 tg.length cg4),(51,I (bs.getD k 0)),(52,sb b5' (([]:List Int).length) 0),(57,.slice (if cbs=k+3 then Abs else Abs.map (·.add ((k+3)*1))) (((bs.take ((((k:Int)+3)+(ofB ((bs.take (k+3)).drop (k+1)))).toNat)).drop (k+3)).length) (cbs-(k+3)))]∧SH w w' [] [.own Ag4 tg.length cg4 166 2 (tg.flatMap gTgE),.rows 3 (tg.map Prod.snd),(Z72 b5')]) ?_ (fun D_9_2=>?_)
   ·rintro f w12 ⟨b5',⟨g4,rfl⟩,hs14⟩
    refine aO 11 r0 (apm (g:=I) (ys:=([]:List Int)) (zs:=(bs.take ((((k:Int)+3)+(ofB ((bs.take (k+3)).drop (k+1)))).toNat)).drop (k+3)) hs14 2 r0 sl24 r0 r0 r0 (Sl.cutm (hbs.up0 hs14) (by omega) (by omega)) (fun _=>rfl) (by unfold maxLen; ((try simp only[List.length_append,List.length_cons,List.length_nil,List.length_drop,List.length_take]); omega)) (by((try simp only[List.length_append,List.length_cons,List.length_nil,List.length_drop,List.length_take]); omega)) trivial r0 (fun A11' c11' w13 hs15=>?_))
    exact nk ⟨_,hs15,trivial⟩ (tk (fuel:=3) (is:=[12]) (.cons r0 (.nil)) (by kernel_rfl) (by kernel_rfl) ⟨_,hs15,trivial⟩ (yA r0 (bdv (v:=.agg #[I (bs.getD k 0),.slice A11' (((bs.take ((((k:Int)+3)+(ofB ((bs.take (k+3)).drop (k+1)))).toNat)).drop (k+3)).length) c11']) [(0,I (bs.getD k 0)),(1,.slice A11' (((bs.take ((((k:Int)+3)+(ofB ((bs.take (k+3)).drop (k+1)))).toNat)).drop (k+3)).length) c11')] r0 (fun _=>by kernel_rfl)) (.nil (alc D_9_1 ⟨A11',c11',(zR r0),hs15⟩))))
   refine dG 6 16 2015 (fun f w'=>Hz f [(0,.slice Abs bs.length cbs),(4,.slice Ag4 tg.length cg4),(6,I (((k:Int)+3)+(ofB ((bs.take (k+3)).drop (k+1))))),(22,.slice Abs bs.length cbs),(23,I (k:Int)),(24,I ((k:Int)+1)),(25,I (k:Int)),(26,I ((k:Int)+3)),(27,.slice (if cbs=k+1 then Abs else Abs.map (·.add ((k+1)*1))) (((bs.take (k+3)).drop (k+1)).length) (cbs-(k+1))),(28,I (ofB ((bs.take (k+3)).drop (k+1)))),(29,.slice Abs bs.length cbs),(30,I (bs.length:Int)),(31,I (k:Int)),(32,I ((bs.length:Int)-(k:Int))),(33,I (((bs.length:Int)-(k:Int))-3)),(34,.bool (decide ((((bs.length:Int)-(k:Int))-3)<(ofB ((bs.take (k+3)).drop (k+1)))))),(47,.slice Ag4 tg.length cg4),(51,I (bs.getD k 0)),(57,.slice (if cbs=k+3 then Abs else Abs.map (·.add ((k+3)*1))) (((bs.take ((((k:Int)+3)+(ofB ((bs.take (k+3)).drop (k+1)))).toNat)).drop (k+3)).length) (cbs-(k+3)))]∧SH w w' [] [.own Ag4 tg.length cg4 166 2 (tg.flatMap gTgE),.rows 3 (tg.map Prod.snd)]) ?_ (fun D_9_3=>?_)
   ·rintro f w14 ⟨⟨g5,rfl⟩,hs16⟩
    refine aO 5 r0 (bsk hs16 sl24 [] [] trivial r0 (fun b5' w15 hs17=>?_))
    exact nk ⟨_,hs17,trivial⟩ (alc D_9_2 ⟨b5',(zR r0),hs17⟩)
   have hs18:=hs8.drew
   refine tk (fuel:=6) (is:=[0,1,2,3,4,6,7,8,9,10]) (.cons r0 (.cons r0 (.cons r0 (.cons r0 (.cons r0 (.cons r0 (.cons r0 (.cons r0 (.cons r0 (.cons r0 (.nil))))))))))) (by kernel_rfl) (by kernel_rfl) ⟨_,hs18,trivial⟩ (yA r0 (mv (v:=.slice Ag4 tg.length cg4) r0) (yA r0 (mv (v:=.slice Abs bs.length cbs) r0) (yA r0 (mv (v:=I (k:Int)) r0) (ixy1 k sl24 r0 r0 hbs (by omega) (getm I 0 (by omega)) trivial r0 (fun a1 ha1=>?_)))))
   exact yB r0 (fun ⟨Lq,hsq,_⟩=>lda hsq ha1 (fun _ h=>h) r0 r0 one3) (yA r0 (mv (v:=.slice Abs bs.length cbs) r0) (yA r0 (mv (v:=I (k:Int)) r0) (yA r0 (add r0 r0 (by(exact⟨by omega,by omega⟩))) (yA r0 (mv (v:=I (((k:Int)+3)+(ofB ((bs.take (k+3)).drop (k+1))))) r0) (yA r0 (cum (zs:=bs) (k+3) ((((k:Int)+3)+(ofB ((bs.take (k+3)).drop (k+1)))).toNat) sl24 r0 r0 (ieq (x:=((k:Int)+3)+(ofB ((bs.take (k+3)).drop (k+1)))) (by omega)) (by omega) (by omega) hbs.cap) (.nil (alc D_9_3 ⟨(zR r0),hs18⟩)))))))
  rintro f w16 ⟨A11',c11',b13',A14',c14',⟨g6,rfl⟩,hs19⟩
  refine nN (rg (tm (I (((k:Int)+3)+(ofB ((bs.take (k+3)).drop (k+1))))) r0 (tA (I (((k:Int)+3)+(ofB ((bs.take (k+3)).drop (k+1))))) r0 (nl (bN (nN ?_))))))
  have e5:(tg.map Prod.snd)++[(⟨A11',c11',(bs.take ((((k:Int)+3)+(ofB ((bs.take (k+3)).drop (k+1)))).toNat)).drop (k+3)⟩:Hd)]=((tg++([((bs.getD k 0,(⟨A11',c11',(bs.take ((((k:Int)+3)+(ofB ((bs.take (k+3)).drop (k+1)))).toNat)).drop (k+3)⟩:Hd)):TgE)]:List TgE)).map Prod.snd):=by simp
  refine⟨(A14',c14',((((k:Int)+3)+(ofB ((bs.take (k+3)).drop (k+1))))).toNat,(tg++([((bs.getD k 0,(⟨A11',c11',(bs.take ((((k:Int)+3)+(ofB ((bs.take (k+3)).drop (k+1)))).toNat)).drop (k+3)⟩:Hd)):TgE)]:List TgE))),⟨(zH ⟨rfl,rfl,(show (I (((k:Int)+3)+(ofB ((bs.take (k+3)).drop (k+1)))):Value)=I (((((((k:Int)+3)+(ofB ((bs.take (k+3)).drop (k+1))))).toNat):Nat):Int) from congrArg (Value.int .i64) (by omega)),trivial⟩),(by omega),(by exact tgs_step hz (by omega) r0 (by omega) (by omega) r0),(by (try simp only[List.length_append,List.length_cons,List.length_nil]); omega),((hs19.pq [0,1] r0).cast (lc r0 (lc (congrArg (It.rows 3) e5) r0)))⟩,?_⟩
  show bs.length-(((((k:Int)+3)+(ofB ((bs.take (k+3)).drop (k+1))))).toNat)<bs.length-k
  (have hob:=ofB_c (by assumption:isBytes bs=true) k; have hbl:=isBytes_len (by assumption:isBytes bs=true); omega)
 refine ex (tE (tE (bE (nN (sq (sr (tm (.slice Ag4 tg.length cg4) r0 (cS hs4 r0 (sL16Ok _ _ (hs4.sl0 0 r0) (fun u hu=>hs4.rows_sl 1 r0 (List.mem_map_of_mem (f:=Prod.snd) hu))) (fun w17 hs20=>?_)))))))))
 refine qt r0 (nt r0) (nn (cd r0 (fun h7=>?_) (fun h7=>?_)))
 ·have h8:=nbF h7
  refine sr (bsk hs20 sl115 [] [] trivial r0 (fun b4 w18 hs21=>?_))
  refine tA (sb b4 (([]:List TgE).length) 0) r0 (tA Z6 r0 (nn (rt (tR (fret (.tmp (.tmp .nil)) r0 ?_)))))
  have e6:false=tagsFrom bs:=by exact((tgs_end ‹_› hz (by omega)).trans ‹_›).symm
  exact⟨(Z8 b4),([]:List TgE).length,0,(tup2 r0 (congrArg (Value.bool) e6)),(hs21.pk [] r0)⟩
 have h9:=nbT h7
 refine sk (nN (sr (tm (.slice Ag4 tg.length cg4) r0 (tA (.slice Ag4 tg.length cg4) r0 (tA Z35 r0 (nl (nN (rt (fret (.tmp (.tmp .nil)) r0 ?_)))))))))
 have e7:true=tagsFrom bs:=by exact((tgs_end ‹_› hz (by omega)).trans ‹_›).symm
 exact⟨Ag4,tg.length,cg4,(tup2 r0 (congrArg (Value.bool) e7)),(hs20.pk [] r0)⟩
set_option maxHeartbeats 8000000 in
theorem sHeadFrom {Abs:Option Addr} {cbs:Nat} (bs:List Int) (w:World) (hbs:Sl w [] 1 Abs bs.length cbs (bs.map I)):Does Tryz.prog 96 [.slice Abs bs.length cbs] w (fun v w'=>∃ Aqar:Option Addr,∃ cqar:Nat,∃ Aqbr:Option Addr,∃ cqbr:Nat,∃ Atr:Option Addr,∃ ntr:Nat,∃ ctr:Nat,∃ ka:Int,∃ qa:List Int,∃ na:List UInt8,∃ pa:Int,∃ kb:Int,∃ qb:List Int,∃ nb:List UInt8,∃ pb:Int,v=.tuple #[.agg #[.int .i64 ka,.slice Aqar qa.length cqar,Str na,.int .i64 pa,.int .i64 kb,.slice Aqbr qb.length cqbr,Str nb,.int .i64 pb],.slice Atr ntr ctr,.int .i64 ((headFrom bs).1),.bool ((headFrom bs).2)]∧SH w w' [] [.own Aqar qa.length cqar 3 1 (qa.map I),.own Aqbr qb.length cqbr 3 1 (qb.map I)]):=by
 refine fE (N:=73) Tryz.func96 r0 (by kernel_rfl) r0 ?_
 have hs0:=SH.refl w []
 have hbs_m:bs.length≤9223372036854775807:=Nat.le_trans hbs.cap hbs.capMax
 refine sr (al (cs:=Z5) hs0 tz112 r0 trivial r0 (fun b1 w1 hs1=>?_))
 refine tA ns r0 (tA (I 0) r0 (tA Z6 r0 (nn (sq (sr (tm (Z14 Abs bs cbs) r0 (cS hs1 r0 (sBytesValid _ _ (hbs.up0 hs1)) (fun w2 hs2=>?_))))))))
 refine qt r0 (nt r0) (tm (Z106 bs) r0 (spl 13 r0 (fun h1=>?_) (fun h1=>?_)))
 ·have h2:=nbF h1
  refine gt5 r0 (gt5 r0 (gt5 r0 (qt r0 (pt (v:=.bool true) r0 r0) (tm Z35 r0 (gt5 r0 (gt5 r0 (gt5 r0 (qt r0 (pt (v:=.bool true) r0 r0) (nn (cdt r0 (sr (qt r0 (bdv (v:=.agg #[I 0,ns,Str [],I 0,I 0,ns,Str [],I 0]) [] r0 (fun _=>by kernel_rfl)) (bsk hs2 sl115 [] [] trivial r0 (fun b2 w3 hs3=>?_))))))))))))))
  refine sG Z5 hs3 0 r0 ag112 (fun w4 hs4=>?_)
  refine tA (sb b2 (([]:List TgE).length) 0) r0 (tA (I 0) r0 (tA Z6 r0 (nn (rt (tR (fret (resC hs4 1 r0 r0 ag112 r0 (.tmp (.tmp (.tmp .nil)))) r0 ?_))))))
  have hs5:=hs4.nl [Z0] r0
  have hs6:=hs5.nl [Z0] r0
  have e1:headFrom bs=(0,false):=by exact headF_no (.inl ‹_›)
  rw[e1]
  exact⟨none,0,none,0,(Z8 b2),([]:List TgE).length,0,0,([]:List Int),[],0,0,([]:List Int),[],0,rfl,(hs6.pk [2,3] r0)⟩
 have h3:=nbT h1
 refine qh r0 (mv (v:=.slice Abs bs.length cbs) r0) (qh r0 (lnA sl24 r0) (qh r0 (lss r0 r0) (qt r0 (pf (v:=.bool (decide ((bs.length:Int)<28))) r0 r0) (tm (.bool (decide ((bs.length:Int)<28))) r0 (spd 18 r0 (fun h4=>?_) (fun h4=>?_))))))
 ·refine gt5 r0 (gt5 r0 (gt5 r0 (qt r0 (pt (v:=.bool true) r0 r0) (nn (cdt r0 (sq (rg (qt r0 (bdv (v:=.agg #[I 0,ns,Str [],I 0,I 0,ns,Str [],I 0]) [] r0 (fun _=>by kernel_rfl)) (bsk hs2 sl115 [] [] trivial r0 (fun b3 w5 hs7=>?_))))))))))
  refine sG Z5 hs7 0 r0 ag112 (fun w6 hs8=>?_)
  refine tA (sb b3 (([]:List TgE).length) 0) r0 (tA (I 0) r0 (tA Z6 r0 (nn (rt (tR (fret (resC hs8 1 r0 r0 ag112 r0 (.tmp (.tmp (.tmp .nil)))) r0 ?_))))))
  have hs9:=hs8.nl [Z0] r0
  have hs10:=hs9.nl [Z0] r0
  have e2:headFrom bs=(0,false):=by exact headF_no (.inr (.inl (by omega)))
  rw[e2]
  exact⟨none,0,none,0,(Z8 b3),([]:List TgE).length,0,0,([]:List Int),[],0,0,([]:List Int),[],0,rfl,(hs10.pk [2,3] r0)⟩
 refine qh r0 (mv (v:=.slice Abs bs.length cbs) r0) (cl ⟨_,rfl,rfl⟩ r0 (sL16Same _ _ (hbs.up0 hs2)) ?_)
 rintro _ w7 ⟨rfl,hs11⟩
 replace hs11:=hs2.call0 hs11
 refine qh r0 (nt r0) (qt r0 (pf (v:=.bool (!(alikeB bs headP))) r0 r0) (nn (cd r0 (fun h5=>?_) (fun h5=>?_))))
 ·have h6:=nbF h5
  refine sr (qt r0 (bdv (v:=.agg #[I 0,ns,Str [],I 0,I 0,ns,Str [],I 0]) [] r0 (fun _=>by kernel_rfl)) (bsk hs11 sl115 [] [] trivial r0 (fun b4 w8 hs12=>?_)))
  refine sG Z5 hs12 0 r0 ag112 (fun w9 hs13=>?_)
  refine tA (sb b4 (([]:List TgE).length) 0) r0 (tA (I 0) r0 (tA Z6 r0 (nn (rt (tR (fret (resC hs13 1 r0 r0 ag112 r0 (.tmp (.tmp (.tmp .nil)))) r0 ?_))))))
  have hs14:=hs13.nl [Z0] r0
  have hs15:=hs14.nl [Z0] r0
  have e3:headFrom bs=(0,false):=by exact headF_no (.inr (.inr (.inl ‹_›)))
  rw[e3]
  exact⟨none,0,none,0,(Z8 b4),([]:List TgE).length,0,0,([]:List Int),[],0,0,([]:List Int),[],0,rfl,(hs15.pk [2,3] r0)⟩
 have h7:=nbT h5
 refine sk (nN (sr (tm (Z14 Abs bs cbs) r0 (qt r0 (cum (zs:=bs) 14 16 sl24 r0 r0 r0 (by omega) (by omega) hbs.cap) (cS hs11 r0 (sL1Of _ _ (Sl.cutm (hbs.up0 hs11) (by omega) (by omega)) (by exact sub_byte ‹_›) (by((try simp only[List.length_drop,List.length_take]); omega))) (fun w10 hs16=>?_))))))
 refine tA (I (ofB ((bs.take 16).drop 14))) r0 (nn (sq (sr (tm (I (ofB ((bs.take 16).drop 14))) r0 (qt r0 (lss r0 r0) (tm (.bool (decide ((ofB ((bs.take 16).drop 14))<12))) r0 (spd 30 r0 (fun h8=>?_) (fun h8=>?_))))))))
 ·refine gt5 r0 (gt5 r0 (gt5 r0 (gt5 r0 (gt5 r0 (qt r0 (pt (v:=.bool true) r0 r0) (nn (cdt r0 (sr (qt r0 (bdv (v:=.agg #[I 0,ns,Str [],I 0,I 0,ns,Str [],I 0]) [] r0 (fun _=>by kernel_rfl)) (bsk hs16 sl115 [] [] trivial r0 (fun b5 w11 hs17=>?_)))))))))))
  refine sG Z5 hs17 0 r0 ag112 (fun w12 hs18=>?_)
  refine tA (sb b5 (([]:List TgE).length) 0) r0 (tA (I 0) r0 (tA Z6 r0 (nn (rt (tR (fret (resC hs18 1 r0 r0 ag112 r0 (.tmp (.tmp (.tmp .nil)))) r0 ?_))))))
  have hs19:=hs18.nl [Z0] r0
  have hs20:=hs19.nl [Z0] r0
  have e4:headFrom bs=(0,false):=by exact headF_no (.inr (.inr (.inr (.inl ‹_›))))
  rw[e4]
  exact⟨none,0,none,0,(Z8 b5),([]:List TgE).length,0,0,([]:List Int),[],0,0,([]:List Int),[],0,rfl,(hs20.pk [2,3] r0)⟩
 refine qh r0 (mv (v:=I (ofB ((bs.take 16).drop 14))) r0) (qh r0 (mv (v:=.slice Abs bs.length cbs) r0) (qh r0 (lnA sl24 r0) (qh r0 (sub r0 r0 (by exact⟨by omega,by omega⟩)) (qh r0 (gtr r0 r0) (qt r0 (pf (v:=.bool (decide (((bs.length:Int)-16)<(ofB ((bs.take 16).drop 14))))) r0 r0) (nn (cdd r0 (fun h9=>?_) (fun h9=>?_))))))))
 ·refine sr (qt r0 (bdv (v:=.agg #[I 0,ns,Str [],I 0,I 0,ns,Str [],I 0]) [] r0 (fun _=>by kernel_rfl)) (bsk hs16 sl115 [] [] trivial r0 (fun b6 w13 hs21=>?_)))
  refine sG Z5 hs21 0 r0 ag112 (fun w14 hs22=>?_)
  refine tA (sb b6 (([]:List TgE).length) 0) r0 (tA (I 0) r0 (tA Z6 r0 (nn (rt (tR (fret (resC hs22 1 r0 r0 ag112 r0 (.tmp (.tmp (.tmp .nil)))) r0 ?_))))))
  have hs23:=hs22.nl [Z0] r0
  have hs24:=hs23.nl [Z0] r0
  have e5:headFrom bs=(0,false):=by exact headF_no (.inr (.inr (.inr (.inr (.inl ‹_›)))))
  rw[e5]
  exact⟨none,0,none,0,(Z8 b6),([]:List TgE).length,0,0,([]:List Int),[],0,0,([]:List Int),[],0,rfl,(hs24.pk [2,3] r0)⟩
 have hbl:=isBytes_len (by assumption:isBytes bs=true)
 have hhc:=head_c (by assumption:isBytes bs=true)
 refine sk (nN (sr (tm (Z14 Abs bs cbs) r0 (tm (I (ofB ((bs.take 16).drop 14))) r0 (qt r0 (add r0 r0 (by(exact⟨by omega,by omega⟩))) (qt r0 (cum (zs:=bs) 28 ((16+(ofB ((bs.take 16).drop 14))).toNat) sl24 r0 r0 (ieq (x:=16+(ofB ((bs.take 16).drop 14))) (by omega)) (by omega) (by omega) hbs.cap) (cL r0 (sTagsFrom _ _ (Sl.cutm (hbs.up0 hs16) (by omega) (by omega))) ?_)))))))
 rintro _ w15 ⟨At1,nt1,ct1,rfl,hs25⟩
 replace hs25:=hs16.call0 hs25
 refine tm (.tuple #[.slice At1 nt1 ct1,.bool (Z113 bs)]) r0 (qt r0 (xt 0 r0 r0) (qt r0 (xt 1 r0 r0) (tA (.slice At1 nt1 ct1) r0 (tA (.bool (Z113 bs)) r0 (nn (sq (sr (tm (.bool (Z113 bs)) r0 (qt r0 (nt r0) (nn (cd r0 (fun h10=>?_) (fun h10=>?_))))))))))))
 ·have h11:=nbF h10
  refine sr (qt r0 (bdv (v:=.agg #[I 0,ns,Str [],I 0,I 0,ns,Str [],I 0]) [] r0 (fun _=>by kernel_rfl)) (bsk hs25 sl115 [] [] trivial r0 (fun b7 w16 hs26=>?_)))
  refine sG Z5 hs26 0 r0 ag112 (fun w17 hs27=>?_)
  refine tA (sb b7 (([]:List TgE).length) 0) r0 (tA (I 0) r0 (tA Z6 r0 (nn (rt (tR (fret (resC hs27 1 r0 r0 ag112 r0 (.tmp (.tmp (.tmp .nil)))) r0 ?_))))))
  have hs28:=hs27.nl [Z0] r0
  have hs29:=hs28.nl [Z0] r0
  have e6:headFrom bs=(0,false):=by exact headF_no (.inr (.inr (.inr (.inr (.inr ‹_›)))))
  rw[e6]
  exact⟨none,0,none,0,(Z8 b7),([]:List TgE).length,0,0,([]:List Int),[],0,0,([]:List Int),[],0,rfl,(hs29.pk [2,3] r0)⟩
 have h12:=nbT h10
 refine sk (nN (sq ?_))
 refine raJ (fun w'=>∃ L,SH w w' [] L∧(.blk b1 112 Z5)∈L∧True) (fun f w'=>∃ (b9':Nat) (A3':Option Addr) (c3':Nat),Hz f [(0,.slice Abs bs.length cbs),(2,pB b1),(6,I (ofB ((bs.take 16).drop 14))),(7,.slice At1 nt1 ct1),(9,pB b9')]∧SH w w' [] [.blk b1 112 Z5,(Z51 A3' bs c3'),.blk b9' 112 [I 1,(Z58 A3' bs c3'),Str [],(Z69 bs),I 0,ns,Str [],I 0]]) mixed ?_ ?_
 ·refine dG 1 11 1023 (fun f w'=>∃ (b9':Nat) (A3':Option Addr) (c3':Nat),Hz f [(0,.slice Abs bs.length cbs),(2,pB b1),(6,I (ofB ((bs.take 16).drop 14))),(7,.slice At1 nt1 ct1),(9,pB b9'),(59,.agg #[I 1,(Z58 A3' bs c3'),Str [],(Z69 bs),I 0,ns,Str [],I 0])]∧SH w w' [] [.blk b1 112 Z5,(Z51 A3' bs c3'),.blk b9' 112 Z5]) ?_ (fun D_9_0=>?_)
  ·rintro f w18 ⟨b9',A3',c3',⟨g1,rfl⟩,hs30⟩
   refine aO 10 r0 (sG [I 1,(Z58 A3' bs c3'),Str [],(Z69 bs),I 0,ns,Str [],I 0] hs30 2 r0 ag112 (fun w19 hs31=>?_))
   refine nk (m1 hs31 0 r0) (ad (by kernel_rfl) ?_)
   exact⟨b9',A3',c3',(zR r0),hs31⟩
  refine dG 2 11 511 (fun f w'=>∃ (A3':Option Addr) (c3':Nat),Hz f [(0,.slice Abs bs.length cbs),(2,pB b1),(6,I (ofB ((bs.take 16).drop 14))),(7,.slice At1 nt1 ct1),(59,.agg #[I 1,(Z58 A3' bs c3'),Str [],(Z69 bs),I 0,ns,Str [],I 0])]∧SH w w' [] [.blk b1 112 Z5,(Z51 A3' bs c3')]) ?_ (fun D_9_1=>?_)
  ·rintro f w20 ⟨A3',c3',⟨g2,rfl⟩,hs32⟩
   refine aO 9 r0 (al (cs:=Z5) hs32 tz112 r0 trivial r0 (fun b9' w21 hs33=>?_))
   exact nk (m1 hs33 0 r0) (alc D_9_0 ⟨b9',A3',c3',(zR r0),hs33⟩)
  refine dG 4 11 575 (fun f w'=>∃ (b9':Nat) (A3':Option Addr) (c3':Nat),Hz f [(0,.slice Abs bs.length cbs),(2,pB b1),(6,I (ofB ((bs.take 16).drop 14))),(7,.slice At1 nt1 ct1),(9,pB b9'),(54,.slice A3' (((bs.take 20).drop 16).length) c3'),(56,.slice (if cbs=24 then Abs else Abs.map (·.add (24*1))) (((bs.take 26).drop 24).length) (cbs-24))]∧SH w w' [] [.blk b1 112 Z5,(Z51 A3' bs c3'),.blk b9' 112 Z5]) ?_ (fun D_9_2=>?_)
  ·rintro f w22 ⟨b9',A3',c3',⟨g3,rfl⟩,hs34⟩
   refine aO 6 r0 (cS hs34 r0 (sL1Of _ _ (Sl.cutm (hbs.up0 hs34) (by omega) (by omega)) (by exact sub_byte ‹_›) (by((try simp only[List.length_drop,List.length_take]); omega))) (fun w23 hs35=>?_))
   exact nk (m1 hs35 0 r0) (tk (fuel:=1) (is:=[7,8]) (.cons r0 (.cons r0 (.nil))) (by kernel_rfl) (by kernel_rfl) (m1 hs35 0 r0) (yA r0 (bdv (v:=.agg #[I 1,(Z58 A3' bs c3'),Str [],(Z69 bs)]) [(0,I 1),(1,.slice A3' (((bs.take 20).drop 16).length) c3'),(3,I (ofB ((bs.take 26).drop 24)))] r0 (fun _=>by kernel_rfl)) (yA r0 (bdv (v:=.agg #[I 1,(Z58 A3' bs c3'),Str [],(Z69 bs),I 0,ns,Str [],I 0]) [(0,.agg #[I 1,(Z58 A3' bs c3'),Str [],(Z69 bs)])] r0 (fun _=>by kernel_rfl)) (.nil (alc D_9_0 ⟨b9',A3',c3',(zR r0),hs35⟩)))))
  refine dG 5 11 63 (fun f w'=>∃ (A3':Option Addr) (c3':Nat),Hz f [(0,.slice Abs bs.length cbs),(2,pB b1),(6,I (ofB ((bs.take 16).drop 14))),(7,.slice At1 nt1 ct1),(54,.slice A3' (((bs.take 20).drop 16).length) c3'),(56,.slice (if cbs=24 then Abs else Abs.map (·.add (24*1))) (((bs.take 26).drop 24).length) (cbs-24))]∧SH w w' [] [.blk b1 112 Z5,(Z51 A3' bs c3')]) ?_ (fun D_9_3=>?_)
  ·rintro f w24 ⟨A3',c3',⟨g4,rfl⟩,hs36⟩
   refine aaL [6,9] (fa_cons ?_ (fa_one ?_))
   ·refine one_ r0 (cS hs36 r0 (sL1Of _ _ (Sl.cutm (hbs.up0 hs36) (by omega) (by omega)) (by exact sub_byte ‹_›) (by((try simp only[List.length_drop,List.length_take]); omega))) (fun w25 hs37=>?_))
    exact nk (m1 hs37 0 r0) (tk (fuel:=2) (is:=[7,8]) (.cons r0 (.cons r0 (.nil))) (by kernel_rfl) (by kernel_rfl) (m1 hs37 0 r0) (yA r0 (bdv (v:=.agg #[I 1,(Z58 A3' bs c3'),Str [],(Z69 bs)]) [(0,I 1),(1,.slice A3' (((bs.take 20).drop 16).length) c3'),(3,I (ofB ((bs.take 26).drop 24)))] r0 (fun _=>by kernel_rfl)) (yA r0 (bdv (v:=.agg #[I 1,(Z58 A3' bs c3'),Str [],(Z69 bs),I 0,ns,Str [],I 0]) [(0,.agg #[I 1,(Z58 A3' bs c3'),Str [],(Z69 bs)])] r0 (fun _=>by kernel_rfl)) (.nil (alc D_9_1 ⟨A3',c3',(zR r0),hs37⟩)))))
   refine one_ r0 (al (cs:=Z5) hs36 tz112 r0 trivial r0 (fun b9' w26 hs38=>?_))
   exact nk (m1 hs38 0 r0) (alc D_9_2 ⟨b9',A3',c3',(zR r0),hs38⟩)
  refine dG 5 11 567 (fun f w'=>∃ (b0' b9':Nat),Hz f [(0,.slice Abs bs.length cbs),(2,pB b1),(6,I (ofB ((bs.take 16).drop 14))),(7,.slice At1 nt1 ct1),(9,pB b9'),(51,sb b0' (([]:List Int).length) 0),(53,.slice (if cbs=16 then Abs else Abs.map (·.add (16*1))) (((bs.take 20).drop 16).length) (cbs-16)),(56,.slice (if cbs=24 then Abs else Abs.map (·.add (24*1))) (((bs.take 26).drop 24).length) (cbs-24))]∧SH w w' [] [.blk b1 112 Z5,(Z72 b0'),.blk b9' 112 Z5]) ?_ (fun D_9_4=>?_)
  ·rintro f w27 ⟨b0',b9',⟨g5,rfl⟩,hs39⟩
   refine aO 3 r0 (apm (g:=I) (ys:=([]:List Int)) (zs:=(bs.take 20).drop 16) hs39 1 r0 sl24 r0 r0 r0 (Sl.cutm (hbs.up0 hs39) (by omega) (by omega)) (fun _=>rfl) (by unfold maxLen; ((try simp only[List.length_append,List.length_cons,List.length_nil,List.length_drop,List.length_take]); omega)) (by((try simp only[List.length_append,List.length_cons,List.length_nil,List.length_drop,List.length_take]); omega)) trivial r0 (fun A3' c3' w28 hs40=>?_))
   exact nk (m1 hs40 0 r0) (alc D_9_2 ⟨b9',A3',c3',(zR r0),(hs40.pk [0,2,1] r0)⟩)
  refine dG 6 11 55 (fun f w'=>∃ (b0':Nat),Hz f [(0,.slice Abs bs.length cbs),(2,pB b1),(6,I (ofB ((bs.take 16).drop 14))),(7,.slice At1 nt1 ct1),(51,sb b0' (([]:List Int).length) 0),(53,.slice (if cbs=16 then Abs else Abs.map (·.add (16*1))) (((bs.take 20).drop 16).length) (cbs-16)),(56,.slice (if cbs=24 then Abs else Abs.map (·.add (24*1))) (((bs.take 26).drop 24).length) (cbs-24))]∧SH w w' [] [.blk b1 112 Z5,(Z72 b0')]) ?_ (fun D_9_5=>?_)
  ·rintro f w29 ⟨b0',⟨g6,rfl⟩,hs41⟩
   refine aaL [3,9] (fa_cons ?_ (fa_one ?_))
   ·refine one_ r0 (apm (g:=I) (ys:=([]:List Int)) (zs:=(bs.take 20).drop 16) hs41 1 r0 sl24 r0 r0 r0 (Sl.cutm (hbs.up0 hs41) (by omega) (by omega)) (fun _=>rfl) (by unfold maxLen; ((try simp only[List.length_append,List.length_cons,List.length_nil,List.length_drop,List.length_take]); omega)) (by((try simp only[List.length_append,List.length_cons,List.length_nil,List.length_drop,List.length_take]); omega)) trivial r0 (fun A3' c3' w30 hs42=>?_))
    exact nk (m1 hs42 0 r0) (alc D_9_3 ⟨A3',c3',(zR r0),hs42⟩)
   refine one_ r0 (al (cs:=Z5) hs41 tz112 r0 trivial r0 (fun b9' w31 hs43=>?_))
   exact nk (m1 hs43 0 r0) (alc D_9_4 ⟨b0',b9',(zR r0),hs43⟩)
  refine dG 6 11 566 (fun f w'=>∃ (b9':Nat),Hz f [(0,.slice Abs bs.length cbs),(2,pB b1),(6,I (ofB ((bs.take 16).drop 14))),(7,.slice At1 nt1 ct1),(9,pB b9'),(53,.slice (if cbs=16 then Abs else Abs.map (·.add (16*1))) (((bs.take 20).drop 16).length) (cbs-16)),(56,.slice (if cbs=24 then Abs else Abs.map (·.add (24*1))) (((bs.take 26).drop 24).length) (cbs-24))]∧SH w w' [] [.blk b1 112 Z5,.blk b9' 112 Z5]) ?_ (fun D_9_6=>?_)
  ·rintro f w32 ⟨b9',⟨g7,rfl⟩,hs44⟩
   refine aO 0 r0 (bsk hs44 sl24 [] [] trivial r0 (fun b0' w33 hs45=>?_))
   exact nk (m1 hs45 0 r0) (alc D_9_4 ⟨b0',b9',(zR r0),(hs45.pk [0,2,1] r0)⟩)
  refine dG 7 11 54 (fun f w'=>Hz f [(0,.slice Abs bs.length cbs),(2,pB b1),(6,I (ofB ((bs.take 16).drop 14))),(7,.slice At1 nt1 ct1),(53,.slice (if cbs=16 then Abs else Abs.map (·.add (16*1))) (((bs.take 20).drop 16).length) (cbs-16)),(56,.slice (if cbs=24 then Abs else Abs.map (·.add (24*1))) (((bs.take 26).drop 24).length) (cbs-24))]∧SH w w' [] [.blk b1 112 Z5]) ?_ (fun D_9_7=>?_)
  ·rintro f w34 ⟨⟨g8,rfl⟩,hs46⟩
   refine aaL [0,9] (fa_cons ?_ (fa_one ?_))
   ·refine one_ r0 (bsk hs46 sl24 [] [] trivial r0 (fun b0' w35 hs47=>?_))
    exact nk (m1 hs47 0 r0) (alc D_9_5 ⟨b0',(zR r0),hs47⟩)
   refine one_ r0 (al (cs:=Z5) hs46 tz112 r0 trivial r0 (fun b9' w36 hs48=>?_))
   exact nk (m1 hs48 0 r0) (alc D_9_6 ⟨b9',(zR r0),hs48⟩)
  have hs49:=hs25.drew
  exact tk (fuel:=7) (is:=[1,2,4,5]) (.cons r0 (.cons r0 (.cons r0 (.cons r0 (.nil))))) (by kernel_rfl) (by kernel_rfl) (m1 hs49 0 r0) (yA r0 (mv (v:=.slice Abs bs.length cbs) r0) (yA r0 (cum (zs:=bs) 16 20 sl24 r0 r0 r0 (by omega) (by omega) hbs.cap) (yA r0 (mv (v:=.slice Abs bs.length cbs) r0) (yA r0 (cum (zs:=bs) 24 26 sl24 r0 r0 r0 (by omega) (by omega) hbs.cap) (.nil (alc D_9_7 ⟨(zR r0),hs49⟩))))))
 rintro f w37 ⟨b9',A3',c3',⟨g9,rfl⟩,hs50⟩
 refine nN (sq ?_)
 refine raJ (fun w'=>∃ L,SH w w' [] L∧(.blk b1 112 Z5)∈L∧True) (fun f w'=>∃ (A3'':Option Addr) (c3'':Nat),Hz f [(2,pB b1),(6,I (ofB ((bs.take 16).drop 14))),(7,.slice At1 nt1 ct1),(9,pB b9')]∧SH w w' [] [.blk b1 112 Z5,(Z51 A3' bs c3'),.blk b9' 112 [I 1,(Z58 A3' bs c3'),Str [],(Z69 bs),I 1,(Z117 A3'' bs c3''),Str [],(Z123 bs)],(Z127 A3'' bs c3'')]) mixed ?_ ?_
 ·refine dG 1 10 511 (fun f w'=>∃ (A3'':Option Addr) (c3'':Nat),Hz f [(2,pB b1),(6,I (ofB ((bs.take 16).drop 14))),(7,.slice At1 nt1 ct1),(9,pB b9'),(67,.agg #[I 1,(Z117 A3'' bs c3''),Str [],(Z123 bs)]),(68,.pointer (some ⟨b9',4,none⟩))]∧SH w w' [] [.blk b1 112 Z5,(Z51 A3' bs c3'),.blk b9' 112 [I 1,(Z58 A3' bs c3'),Str [],(Z69 bs),I 0,ns,Str [],I 0],(Z127 A3'' bs c3'')]) ?_ (fun D_10_0=>?_)
  ·rintro f w38 ⟨A3'',c3'',⟨g10,rfl⟩,hs51⟩
   refine aO 9 r0 (sG [I 1,(Z117 A3'' bs c3''),Str [],(Z123 bs)] hs51 2 r0 ag54 (fun w39 hs52=>?_))
   refine nk (m1 hs52 0 r0) (ad (by kernel_rfl) ?_)
   exact⟨A3'',c3'',(zR r0),(hs52.pk [0,1,3,2] r0)⟩
  refine dG 4 10 63 (fun f w'=>∃ (A3'':Option Addr) (c3'':Nat),Hz f [(2,pB b1),(6,I (ofB ((bs.take 16).drop 14))),(7,.slice At1 nt1 ct1),(9,pB b9'),(63,.slice A3'' (((bs.take 24).drop 20).length) c3''),(65,.slice (if cbs=26 then Abs else Abs.map (·.add (26*1))) (((bs.take 28).drop 26).length) (cbs-26))]∧SH w w' [] [.blk b1 112 Z5,(Z51 A3' bs c3'),.blk b9' 112 [I 1,(Z58 A3' bs c3'),Str [],(Z69 bs),I 0,ns,Str [],I 0],(Z127 A3'' bs c3'')]) ?_ (fun D_10_1=>?_)
  ·rintro f w40 ⟨A3'',c3'',⟨g11,rfl⟩,hs53⟩
   refine aO 6 r0 (cS hs53 r0 (sL1Of _ _ (Sl.cutm (hbs.up0 hs53) (by omega) (by omega)) (by exact sub_byte ‹_›) (by((try simp only[List.length_drop,List.length_take]); omega))) (fun w41 hs54=>?_))
   exact nk (m1 hs54 0 r0) (tk (fuel:=1) (is:=[7,8]) (.cons r0 (.cons r0 (.nil))) (by kernel_rfl) (by kernel_rfl) (m1 hs54 0 r0) (yA r0 (bdv (v:=.agg #[I 1,(Z117 A3'' bs c3''),Str [],(Z123 bs)]) [(0,I 1),(1,.slice A3'' (((bs.take 24).drop 20).length) c3''),(3,I (ofB ((bs.take 28).drop 26)))] r0 (fun _=>by kernel_rfl)) (yA r0 (fa 4 fo112_1 r0) (.nil (alc D_10_0 ⟨A3'',c3'',(zR r0),hs54⟩)))))
  refine dG 5 10 55 (fun f w'=>∃ (b0'':Nat),Hz f [(2,pB b1),(6,I (ofB ((bs.take 16).drop 14))),(7,.slice At1 nt1 ct1),(9,pB b9'),(60,sb b0'' (([]:List Int).length) 0),(62,.slice (if cbs=20 then Abs else Abs.map (·.add (20*1))) (((bs.take 24).drop 20).length) (cbs-20)),(65,.slice (if cbs=26 then Abs else Abs.map (·.add (26*1))) (((bs.take 28).drop 26).length) (cbs-26))]∧SH w w' [] [.blk b1 112 Z5,(Z51 A3' bs c3'),.blk b9' 112 [I 1,(Z58 A3' bs c3'),Str [],(Z69 bs),I 0,ns,Str [],I 0],(Z72 b0'')]) ?_ (fun D_10_2=>?_)
  ·rintro f w42 ⟨b0'',⟨g12,rfl⟩,hs55⟩
   refine aO 3 r0 (apm (g:=I) (ys:=([]:List Int)) (zs:=(bs.take 24).drop 20) hs55 3 r0 sl24 r0 r0 r0 (Sl.cutm (hbs.up0 hs55) (by omega) (by omega)) (fun _=>rfl) (by unfold maxLen; ((try simp only[List.length_append,List.length_cons,List.length_nil,List.length_drop,List.length_take]); omega)) (by((try simp only[List.length_append,List.length_cons,List.length_nil,List.length_drop,List.length_take]); omega)) trivial r0 (fun A3'' c3'' w43 hs56=>?_))
   exact nk (m1 hs56 0 r0) (alc D_10_1 ⟨A3'',c3'',(zR r0),hs56⟩)
  refine dG 6 10 54 (fun f w'=>Hz f [(2,pB b1),(6,I (ofB ((bs.take 16).drop 14))),(7,.slice At1 nt1 ct1),(9,pB b9'),(62,.slice (if cbs=20 then Abs else Abs.map (·.add (20*1))) (((bs.take 24).drop 20).length) (cbs-20)),(65,.slice (if cbs=26 then Abs else Abs.map (·.add (26*1))) (((bs.take 28).drop 26).length) (cbs-26))]∧SH w w' [] [.blk b1 112 Z5,(Z51 A3' bs c3'),.blk b9' 112 [I 1,(Z58 A3' bs c3'),Str [],(Z69 bs),I 0,ns,Str [],I 0]]) ?_ (fun D_10_3=>?_)
  ·rintro f w44 ⟨⟨g13,rfl⟩,hs57⟩
   refine aO 0 r0 (bsk hs57 sl24 [] [] trivial r0 (fun b0'' w45 hs58=>?_))
   exact nk (m1 hs58 0 r0) (alc D_10_2 ⟨b0'',(zR r0),hs58⟩)
  have hs59:=hs50.drew
  exact tk (fuel:=6) (is:=[1,2,4,5]) (.cons r0 (.cons r0 (.cons r0 (.cons r0 (.nil))))) (by kernel_rfl) (by kernel_rfl) (m1 hs59 0 r0) (yA r0 (mv (v:=.slice Abs bs.length cbs) r0) (yA r0 (cum (zs:=bs) 20 24 sl24 r0 r0 r0 (by omega) (by omega) hbs.cap) (yA r0 (mv (v:=.slice Abs bs.length cbs) r0) (yA r0 (cum (zs:=bs) 26 28 sl24 r0 r0 r0 (by omega) (by omega) hbs.cap) (.nil (alc D_10_3 ⟨(zR r0),hs59⟩))))))
 rintro f w46 ⟨A3'',c3'',⟨g14,rfl⟩,hs60⟩
 refine nN (sr (qt r0 (lG [I 1,(Z58 A3' bs c3'),Str [],(Z69 bs),I 1,(Z117 A3'' bs c3''),Str [],(Z123 bs)] hs60 2 r0 ag112) (tm (.slice At1 nt1 ct1) r0 (tm (I (ofB ((bs.take 16).drop 14))) r0 (qt r0 (add r0 r0 (by(exact⟨by omega,by omega⟩))) (sG [I 1,(Z58 A3' bs c3'),Str [],(Z69 bs),I 1,(Z117 A3'' bs c3''),Str [],(Z123 bs)] hs60 0 r0 ag112 (fun w47 hs61=>?_)))))))
 refine tA (.slice At1 nt1 ct1) r0 (tA (I (16+(ofB ((bs.take 16).drop 14)))) r0 (tA Z35 r0 (nn (rt (fret (resC hs61 3 r0 r0 ag112 r0 (.tmp (.tmp (.tmp .nil)))) r0 ?_)))))
 have e7:headFrom bs=(16+(ofB ((bs.take 16).drop 14)),true):=by exact headF_yes ‹_› (by omega) ‹_› (by omega) (by omega) ‹_›
 rw[e7]
 exact⟨A3',c3',A3'',c3'',At1,nt1,ct1,1,(bs.take 20).drop 16,[],ofB ((bs.take 26).drop 24),1,(bs.take 24).drop 20,[],ofB ((bs.take 28).drop 26),rfl,(hs61.pk [0,2] r0)⟩
theorem sSniffSize {Ab:Option Addr} {cb:Nat} (b:List Int) (w:World) (hb:Sl w [] 1 Ab b.length cb (b.map I)):Does Tryz.prog 50 [.slice Ab b.length cb] w (fun v w'=>v=.tuple #[.int .i64 ((sniffZ b).1),.bool ((sniffZ b).2)]∧SH w w' [] []):=by
 refine fE (N:=75) Tryz.func50 r0 (by kernel_rfl) r0 ?_
 have hs0:=SH.refl w []
 have hb_m:b.length≤9223372036854775807:=Nat.le_trans hb.cap hb.capMax
 refine sr (tA (I 0) r0 (tA Z6 r0 (nn (sq (sq (rg (tm (Z14 Ab b cb) r0 (cS hs0 r0 (sSniffKind _ _ (hb.up0 hs0)) (fun w1 hs1=>?_)))))))))
 refine nn (bl (sr (qt r0 (eqi r0 r0) (tA (.bool (decide ((sniffK b)=1))) r0 (nl (nN (cdd r0 (fun h1=>?_) (fun h1=>?_))))))))
 ·refine sr (tm (Z14 Ab b cb) r0 (cL r0 (sOldFrom _ _ (hb.up0 hs1)) ?_))
  rintro _ w2 ⟨Aq1,cq1,c1,ak1,aq1,an1,apt1,us1,rfl,hs2⟩
  replace hs2:=hs1.call0 hs2
  refine tm (.tuple #[.agg #[I c1,I ak1,(Z4 Aq1 aq1 cq1),Str an1,I apt1,Str us1],I ((oldZ b).1),.bool ((oldZ b).2)]) r0 (qt r0 (xt 0 r0 r0) (qt r0 (xt 1 r0 r0) (qt r0 (xt 2 r0 r0) (al (cs:=Z23) hs2 tz60 r0 trivial r0 (fun b1 w3 hs3=>?_)))))
  refine sG [I c1,I ak1,(Z4 Aq1 aq1 cq1),Str an1,I apt1,Str us1] hs3 1 r0 ag60 (fun w4 hs4=>?_)
  refine tA (I ((oldZ b).1)) r0 (tA (.bool ((oldZ b).2)) r0 (nx (tm (I ((oldZ b).1)) r0 (tm (.bool ((oldZ b).2)) r0 (tA (I ((oldZ b).1)) r0 (tA (.bool ((oldZ b).2)) r0 (nn (rt (bR (tR (fret (.tmp (.tmp .nil)) r0 ?_)))))))))))
  have e1:sniffZ b=((oldZ b).1,((oldZ b).2)):=by exact zq1 ‹_›
  rw[e1]
  exact⟨rfl,(hs4.pk [] r0)⟩
 refine sr (qt r0 (eqi r0 r0) (tA (.bool (decide ((sniffK b)=2))) r0 (nn (cdd r0 (fun h2=>?_) (fun h2=>?_)))))
 ·refine sr (tm (Z14 Ab b cb) r0 (cS2 hs1 r0 (sHelloFrom _ _ (hb.up0 hs1)) (fun A1 c2 w5 hs5=>?_)))
  refine tm (.tuple #[.slice A1 (((helloFrom b).1).length) c2,I ((helloFrom b).2.1),.bool ((helloFrom b).2.2)]) r0 (qt r0 (xt 0 r0 r0) (qt r0 (xt 1 r0 r0) (qt r0 (xt 2 r0 r0) (tA (.slice A1 (((helloFrom b).1).length) c2) r0 (tA (I ((helloFrom b).2.1)) r0 (tA (Z95 b) r0 (nl (nN (sr (tm (I ((helloFrom b).2.1)) r0 (tm (Z95 b) r0 (tA (I ((helloFrom b).2.1)) r0 (tA (Z95 b) r0 (nl (nN (rt (bR (tR (fret (.tmp (.tmp .nil)) r0 ?_)))))))))))))))))))
  have e2:sniffZ b=((helloFrom b).2.1,((helloFrom b).2.2)):=by exact zq2 ‹_›
  rw[e2]
  exact⟨rfl,(hs5.pk [] r0)⟩
 refine sr (qt r0 (eqi r0 r0) (tA (.bool (decide ((sniffK b)=3))) r0 (nn (cdd r0 (fun h3=>?_) (fun h3=>?_)))))
 ·refine sr (tm (Z14 Ab b cb) r0 (cS hs1 r0 (sL1Bytes _ _ (hb.up0 hs1) (by(exact(bT_120 (by assumption:sniffK b=3) (by decide)).1)) (by(have h_:=(bT_120 (by assumption:sniffK b=3) (by decide)).2; (try rw[bT_len]); omega))) (fun w6 hs6=>?_)))
  refine cL r0 (sConnectFrom _ _ (by(have h_:=(bT_120 (by assumption:sniffK b=3) (by decide)).2; (try rw[bT_len]); omega))) ?_
  rintro _ w7 ⟨Aq2,cq2,ak2,aq2,an2,apt2,rfl,hs7⟩
  replace hs7:=hs6.call0 hs7
  refine tm (.tuple #[.agg #[I ak2,(Z4 Aq2 aq2 cq2),Str an2,I apt2],I ((connZ (bT b)).1),.bool ((connZ (bT b)).2)]) r0 (qt r0 (xt 0 r0 r0) (qt r0 (xt 1 r0 r0) (qt r0 (xt 2 r0 r0) (al (cs:=Z17) hs7 tz54 r0 trivial r0 (fun b2 w8 hs8=>?_)))))
  refine sG [I ak2,(Z4 Aq2 aq2 cq2),Str an2,I apt2] hs8 1 r0 ag54 (fun w9 hs9=>?_)
  refine tA (I ((connZ (bT b)).1)) r0 (tA (Z130 b) r0 (nx (tm (I ((connZ (bT b)).1)) r0 (tm (Z130 b) r0 (tA (I ((connZ (bT b)).1)) r0 (tA (Z130 b) r0 (nn (rt (bR (tR (fret (.tmp (.tmp .nil)) r0 ?_)))))))))))
  have e3:sniffZ b=((connZ (bT b)).1,((connZ (bT b)).2)):=by exact zq3 ‹_›
  rw[e3]
  exact⟨rfl,(hs9.pk [] r0)⟩
 refine sr (qt r0 (eqi r0 r0) (tA (.bool (decide ((sniffK b)=4))) r0 (nn (cdd r0 (fun h4=>?_) (fun h4=>?_)))))
 ·refine sr (tm (Z14 Ab b cb) r0 (cS hs1 r0 (sL1Bytes _ _ (hb.up0 hs1) (by(exact(bT_120 (by assumption:sniffK b=4) (by decide)).1)) (by(have h_:=(bT_120 (by assumption:sniffK b=4) (by decide)).2; (try rw[bT_len]); omega))) (fun w10 hs10=>?_)))
  refine cL r0 (sLineFrom _ _ (by(have h_:=(bT_120 (by assumption:sniffK b=4) (by decide)).2; (try rw[bT_len]); omega))) ?_
  rintro _ w11 ⟨Aqa1,cqa1,Aqb1,cqb1,ka1,qa1,na1,pa1,kb1,qb1,nb1,pb1,rfl,hs11⟩
  replace hs11:=hs10.call0 hs11
  refine tm (.tuple #[.agg #[I ka1,.slice Aqa1 qa1.length cqa1,Str na1,I pa1,I kb1,(Z4 Aqb1 qb1 cqb1),Str nb1,I pb1],I ((lineZ (bT b)).1),.bool ((lineZ (bT b)).2)]) r0 (qt r0 (xt 0 r0 r0) (qt r0 (xt 1 r0 r0) (qt r0 (xt 2 r0 r0) (al (cs:=Z5) hs11 tz112 r0 trivial r0 (fun b3 w12 hs12=>?_)))))
  refine sG [I ka1,.slice Aqa1 qa1.length cqa1,Str na1,I pa1,I kb1,(Z4 Aqb1 qb1 cqb1),Str nb1,I pb1] hs12 2 r0 ag112 (fun w13 hs13=>?_)
  refine tA (I ((lineZ (bT b)).1)) r0 (tA (Z129 b) r0 (nx (tm (I ((lineZ (bT b)).1)) r0 (tm (Z129 b) r0 (tA (I ((lineZ (bT b)).1)) r0 (tA (Z129 b) r0 (nn (rt (bR (tR (fret (.tmp (.tmp .nil)) r0 ?_)))))))))))
  have e4:sniffZ b=((lineZ (bT b)).1,((lineZ (bT b)).2)):=by exact zq4 ‹_›
  rw[e4]
  exact⟨rfl,(hs13.pk [] r0)⟩
 refine sr (qt r0 (eqi r0 r0) (tA (.bool (decide ((sniffK b)=5))) r0 (nn (cdd r0 (fun h5=>?_) (fun h5=>?_)))))
 ·refine sr (tm (Z14 Ab b cb) r0 (cL r0 (sHeadFrom _ _ (hb.up0 hs1)) ?_))
  rintro _ w14 ⟨Aqa2,cqa2,Aqb2,cqb2,At1,nt1,ct1,ka2,qa2,na2,pa2,kb2,qb2,nb2,pb2,rfl,hs14⟩
  replace hs14:=hs1.call0 hs14
  refine tm (.tuple #[.agg #[I ka2,.slice Aqa2 qa2.length cqa2,Str na2,I pa2,I kb2,(Z4 Aqb2 qb2 cqb2),Str nb2,I pb2],.slice At1 nt1 ct1,I ((headFrom b).1),.bool ((headFrom b).2)]) r0 (qt r0 (xt 0 r0 r0) (qt r0 (xt 1 r0 r0) (qt r0 (xt 2 r0 r0) (qt r0 (xt 3 r0 r0) (al (cs:=Z5) hs14 tz112 r0 trivial r0 (fun b4 w15 hs15=>?_))))))
  refine sG [I ka2,.slice Aqa2 qa2.length cqa2,Str na2,I pa2,I kb2,(Z4 Aqb2 qb2 cqb2),Str nb2,I pb2] hs15 2 r0 ag112 (fun w16 hs16=>?_)
  refine tA (.slice At1 nt1 ct1) r0 (tA (I ((headFrom b).1)) r0 (tA (Z144 b) r0 (nx (tm (I ((headFrom b).1)) r0 (tm (Z144 b) r0 (tA (I ((headFrom b).1)) r0 (tA (Z144 b) r0 (nn (rt (bR (tR (fret (.tmp (.tmp .nil)) r0 ?_))))))))))))
  have e5:sniffZ b=((headFrom b).1,((headFrom b).2)):=by exact zq5 ‹_›
  rw[e5]
  exact⟨rfl,(hs16.pk [] r0)⟩
 refine sk (bN (nN (sr (tA (I 0) r0 (tA Z6 r0 (nl (nN (rt (fret (.tmp (.tmp .nil)) r0 ?_)))))))))
 have e6:sniffZ b=(0,false):=by exact zq0 ‹_› ‹_› ‹_› ‹_› ‹_›
 rw[e6]
 exact⟨rfl,hs1⟩
theorem iAreTags1 (n:Int) {Axs:Option Addr} {cxs:Nat} (xs:List Int) (w:World) (hxs:Sl w [] 1 Axs xs.length cxs (xs.map I)):Does Tryz.prog 227 [.agg #[I n,.slice Axs xs.length cxs]] w (fun v w'=>v=.bool (!tagOk (n,xs))∧SH w w' [] []):=by
 refine fE (N:=19) Tryz.func227 r0 (by kernel_rfl) r0 ?_
 have hs0:=SH.refl w []
 have hxs_m:xs.length≤9223372036854775807:=Nat.le_trans hxs.cap hxs.capMax
 refine sr (bx (v:=.agg #[I n,(Z4 Axs xs cxs)]) (cs:=[I n,(Z4 Axs xs cxs)]) hs0 r0 r0 trivial r0 (fun b1 w1 hs1=>?_))
 refine tA Z6 r0 (nx (qt r0 (fa 0 fo166_0 r0) (qt r0 (lD (I n) hs1 0 r0 one3) (cS hs1 r0 (iWithin _ 0 255 _) (fun w2 hs2=>?_)))))
 refine qt r0 (nd r0) (tm (.bool (decide (¬ (0≤n∧n≤255)))) r0 (spd 7 r0 (fun h1=>?_) (fun h1=>?_)))
 ·refine gt5 r0 (gt5 r0 (gt5 r0 (gt5 r0 (qt r0 (pt (v:=.bool true) r0 r0) (tm Z35 r0 (gt5 r0 (gt5 r0 (gt5 r0 (gt5 r0 (qt r0 (pt (v:=.bool true) r0 r0) (tA Z35 r0 (nn (rt (fT Z35 r0 ?_))))))))))))))
  have e1:true=!tagOk (n,xs):=by(simp[tagOk,h1]; done)
  exact⟨(congrArg (Value.bool) e1),(hs2.pk [] r0)⟩
 refine qh r0 (fa 1 fo166_1 r0) (qh r0 (lD (Z14 Axs xs cxs) hs2 0 r0 one24) (qh r0 (lnA sl24 r0) (qh r0 (gtr r0 r0) (qt r0 (pf (v:=.bool (decide ((16:Int)<(xs.length:Int)))) r0 r0) (tm (.bool (decide ((16:Int)<(xs.length:Int)))) r0 (spd 13 r0 (fun h2=>?_) (fun h2=>?_)))))))
 ·refine gt5 r0 (gt5 r0 (gt5 r0 (gt5 r0 (qt r0 (pt (v:=.bool true) r0 r0) (tA Z35 r0 (nn (rt (fT Z35 r0 ?_))))))))
  have e2:true=!tagOk (n,xs):=by(simp[tagOk,h1,h2]; omega)
  exact⟨(congrArg (Value.bool) e2),(hs2.pk [] r0)⟩
 refine qh r0 (fa 1 fo166_1 r0) (qh r0 (lD (Z14 Axs xs cxs) hs2 0 r0 one24) (cl ⟨_,rfl,rfl⟩ r0 (iBytesValid _ _ (hxs.up0 hs2)) ?_))
 rintro _ w3 ⟨rfl,hs3⟩
 replace hs3:=hs2.call0 hs3
 refine qh r0 (nt r0) (qt r0 (pf (v:=.bool (!(isBytes xs))) r0 r0) (tA (Z106 xs) r0 (nn (rt (fT (Z106 xs) r0 ?_)))))
 have e3:(!(isBytes xs))=!tagOk (n,xs):=by(simp[tagOk,h1,h2]; omega)
 exact⟨(congrArg (Value.bool) e3),(hs3.pk [] r0)⟩
theorem slIndexFuncT {Azs:Option Addr} {czs:Nat} (zs:List TgE) (w:World) (hzs:Sl w [] 2 Azs zs.length czs (zs.flatMap gTgE)) (hzs_in: ∀ u∈zs,HdOk w [] u.2):Does Tryz.prog 240 [.slice Azs zs.length czs,.func (.func 227) #[] #[]] w (fun v w'=>v=.int .i64 (idxP (fun u=>!tgB u) zs)∧SH w w' [] []):=by
 refine fE (N:=19) Tryz.func240 r0 (by kernel_rfl) r0 ?_
 have hs0:=SH.refl w []
 have hzs_m:zs.length≤9223372036854775807:=Nat.le_trans hzs.cap hzs.capMax
 refine sr (tA (I 0) r0 (nn (sq (sr (tm (.slice Azs zs.length czs) r0 (qt r0 (lnA sl115 r0) (tm (I 0) r0 (nn (bl (lp (σ:=Nat) (fun(k:Nat) f w'=>Hz f [(0,.slice Azs zs.length czs),(1,.func (.func 227) #[] #[]),(7,I (zs.length:Int)),(8,I (k:Int))]∧(k≤zs.length)∧(∀ j,j<k→(fun u=>!tgB u) (zs.getD j tgE0)=false)∧SH w w' [] []) (fun k=>zs.length-k) 0 ⟨(zR r0),(by simp),(by intro j hj; omega),hs0⟩ ?_))))))))))
 rintro k f w1 ⟨⟨g1,rfl⟩,hk,hn,hs1⟩
 refine sr (qt r0 (lss r0 r0) (nn (sq (cdd r0 (fun h1=>?_) (fun h1=>?_)))))
 ·refine sk (nN (sq (bl (sr (tm (I (k:Int)) r0 (tA (I (k:Int)) r0 (nx (tm (.func (.func 227) #[] #[]) r0 (tm (.slice Azs zs.length czs) r0 (tm (I (k:Int)) r0 (ixwf (g:=gTgE) (zs:=zs) (fun _=>rfl) tgE0 k sl115 r0 r0 hzs (by omega) (by omega) trivial r0 (fun a1 ha1=>?_))))))))))))
  refine qt r0 (ldag (us:=[I ((zs.getD k tgE0).1),.slice (((zs.getD k tgE0).2).A) ((((zs.getD k tgE0).2).xs).length) (((zs.getD k tgE0).2).c)]) hs1 ha1 (fun _ h=>h) r0 r0 ag166) (clv (k:=227) trivial r0 r0 (iAreTags1 _ _ _ (Sl.up0 (hzs_in _ (getD_mem' (by omega))) hs1)) ?_)
  rintro _ w2 ⟨rfl,hs2⟩
  replace hs2:=hs1.call0 hs2
  refine nn (cd r0 (fun h2=>?_) (fun h2=>?_))
  ·have h3:=nbF h2
   exact sr (tm (I (k:Int)) r0 (tA (I (k:Int)) r0 (nn (rt (bR (tR (tR (bR (tR (fI r0 (idxP_eq (d:=tgE0) (by omega) hn h2) hs2))))))))))
  have h4:=nbT h2
  refine sk (bN (nN (rg (qt r0 (add r0 r0 (by exact⟨by omega,by omega⟩)) (tm (I ((k:Int)+1)) r0 (nn ?_))))))
  refine⟨(k+1),⟨(zR r0),(by omega),(by intro j hj; rcases Nat.lt_succ_iff_lt_or_eq.1 hj with h | h; exact hn j h; subst h; exact h2),hs2⟩,?_⟩
  omega
 refine ex (tE (tE (bE (nN (sr (tA (I (-1)) r0 (nn (rt (fT (I (-1)) r0 ?_)))))))))
 have e2:(-1)=idxP (fun u=>!tgB u) zs:=by exact idxP_none (d:=tgE0) (fun j hj=>hn j (by omega))
 exact⟨(congrArg (Value.int .i64) e2),hs1⟩
theorem slContainsFuncT {Azs:Option Addr} {czs:Nat} (zs:List TgE) (w:World) (hzs:Sl w [] 2 Azs zs.length czs (zs.flatMap gTgE)) (hzs_in: ∀ u∈zs,HdOk w [] u.2):Does Tryz.prog 226 [.slice Azs zs.length czs,.func (.func 227) #[] #[]] w (fun v w'=>v=.bool (zs.any (fun u=>!tgB u))∧SH w w' [] []):=by
 refine fE (N:=9) Tryz.func226 r0 (by kernel_rfl) r0 ?_
 have hs0:=SH.refl w []
 have hzs_m:zs.length≤9223372036854775807:=Nat.le_trans hzs.cap hzs.capMax
 refine sr (tA Z6 r0 (nx (tm (.slice Azs zs.length czs) r0 (tm (.func (.func 227) #[] #[]) r0 (cS hs0 r0 (slIndexFuncT _ _ (hzs.up0 hs0) (fun u hu=>Sl.up0 (hzs_in u hu) hs0)) (fun w1 hs1=>?_))))))
 refine qt r0 (geq r0 r0) (tA (.bool (decide ((0:Int)≤(idxP (fun u=>!tgB u) zs)))) r0 (nn (rt (fT (.bool (decide ((0:Int)≤(idxP (fun u=>!tgB u) zs)))) r0 ?_))))
 have e1:(decide ((0:Int)≤(idxP (fun u=>!tgB u) zs)))=zs.any (fun u=>!tgB u):=by exact idxP_any _ zs
 exact⟨(congrArg (Value.bool) e1),hs1⟩
theorem iAreTags {Atg:Option Addr} {ctg:Nat} (tg:List TgE) (w:World) (htg:Sl w [] 2 Atg tg.length ctg (tg.flatMap gTgE)) (htg_in: ∀ u∈tg,HdOk w [] u.2):Does Tryz.prog 209 [.slice Atg tg.length ctg] w (fun v w'=>v=.bool (tagsOk (tgX tg))∧SH w w' [] []):=by
 refine fE (N:=11) Tryz.func209 r0 (by kernel_rfl) r0 ?_
 have hs0:=SH.refl w []
 have htg_m:tg.length≤9223372036854775807:=Nat.le_trans htg.cap htg.capMax
 refine sr (tA Z6 r0 (nx (tm (.slice Atg tg.length ctg) r0 (qt r0 (lnA sl115 r0) (qt r0 (leq r0 r0) (tm (.bool (decide ((tg.length:Int)≤4))) r0 (spd 6 r0 (fun h1=>?_) (fun h1=>?_))))))))
 ·refine qh r0 (mv (v:=.slice Atg tg.length ctg) r0) (cl ⟨_,rfl,rfl⟩ r0 (slContainsFuncT _ _ (htg.up0 hs0) (fun u hu=>Sl.up0 (htg_in u hu) hs0)) ?_)
  rintro _ w1 ⟨rfl,hs1⟩
  replace hs1:=hs0.call0 hs1
  refine qh r0 (nt r0) (qt r0 (pt (v:=.bool (!(tg.any (fun u=>!tgB u)))) r0 r0) (tA (.bool (!(tg.any (fun u=>!tgB u)))) r0 (nn (rt (fT (.bool (!(tg.any (fun u=>!tgB u)))) r0 ?_)))))
  have e1:(!(tg.any (fun u=>!tgB u)))=tagsOk (tgX tg):=by(rw[tgX_ok,← all_not_any,decide_eq_true (by omega),Bool.true_and]; done)
  exact⟨(congrArg (Value.bool) e1),hs1⟩
 exact gf5 r0 (gf5 r0 (gf5 r0 (qt r0 (pf (v:=.bool false) r0 r0) (tA Z6 r0 (nn (rt (fB r0 (by(rw[tgX_ok,decide_eq_false (by omega)]; rfl)) hs0)))))))
theorem iTagsFrom {Abs:Option Addr} {cbs:Nat} (bs:List Int) (w:World) (hbs:Sl w [] 1 Abs bs.length cbs (bs.map I)):Does Tryz.prog 179 [.slice Abs bs.length cbs] w (fun v w'=>∃ Atr:Option Addr,∃ ntr:Nat,∃ ctr:Nat,v=.tuple #[.slice Atr ntr ctr,.bool (tagsFrom bs)]∧SH w w' [] []):=by
 refine fE (N:=44) Tryz.func179 r0 (by kernel_rfl) r0 ?_
 have hs0:=SH.refl w []
 have hbs_m:bs.length≤9223372036854775807:=Nat.le_trans hbs.cap hbs.capMax
 refine sr (tA ns r0 (tA Z6 r0 (nx (tm (Z14 Abs bs cbs) r0 (cL r0 (newReader _ _ (hbs.up0 hs0)) ?_)))))
 rintro _ w1 ⟨g1,rfl,hs1⟩
 replace hs1:=hs0.call0 hs1
 refine tA (pB g1) r0 (nx (tA ns r0 (nn (sq (bl ?_)))))
 have hs2:=hs1.nl [Z149] r0
 have hs3:SH w w1 [] [.blk g1 162 [(Z4 Abs bs cbs),I 0,.bool (!isBytes bs)],Z149,.rows 3 ([]:List Hd)]:=hs2.rows0 3
 have e1:([]:List Hd)=(([]:List TgE).map Prod.snd):=by rfl
 refine lp (σ:=(Option Addr)×Nat×Nat×Bool×(List TgE)) (fun⟨Ag5,cg5,ya,yf,tg⟩ f w'=>Hz f [(0,.slice Abs bs.length cbs),(4,pB g1),(5,.slice Ag5 tg.length cg5)]∧(yf=false→isBytes bs=true)∧(yf=false→ya≤bs.length∧tagsL bs=(tagsL (bs.drop ya)).map (tgX tg++ ·))∧(yf=true→tagsFrom bs=false)∧(tg.length≤bs.length+1∧(yf=false→tg.length≤ya))∧SH w w' [] [.blk g1 162 [(Z4 Abs bs cbs),I (ya:Int),.bool yf],.own Ag5 tg.length cg5 166 2 (tg.flatMap gTgE),.rows 3 (tg.map Prod.snd)]) (fun⟨Ag5,cg5,ya,yf,tg⟩=>(if yf=true then 0 else bs.length-ya+1)) (none,0,0,(!isBytes bs),([]:List TgE)) ⟨(zR r0),(by simp),(fun _=>⟨by omega,by simp[tgX]⟩),(fun h=>tgs_nv (by simpa using h)),(⟨by simp,by simp⟩),(hs3.cast (lc r0 (lc r0 (lc (congrArg (It.rows 3) e1) r0))))⟩ ?_
 rintro ⟨Ag5,cg5,ya,yf,tg⟩ f w2 ⟨⟨g2,rfl⟩,hb2,hyy,hno,hgl,hs4⟩
 refine sq (sr (tm (pB g1) r0 (tn r0 (qt r0 (fa 2 fo162_2 r0) (qt r0 (lD (.bool yf) hs4 0 r0 one4) (qt r0 (nt r0) (tm (.bool (!yf)) r0 (spl 14 r0 (fun h1=>?_) (fun h1=>?_)))))))))
 ·have h2:=nbF h1
  refine qh r0 (mv (v:=pB g1) r0) (qh r0 (nc r0) (qh r0 (fa 1 fo162_1 r0) (qh r0 (lD (I (ya:Int)) hs4 0 r0 one3) (qh r0 (mv (v:=.slice Abs bs.length cbs) r0) (qh r0 (lnA sl24 r0) (qh r0 (lss r0 r0) (qt r0 (pt (v:=.bool (decide ((ya:Int)<(bs.length:Int)))) r0 r0) (nn (cdd r0 (fun h3=>?_) (fun h3=>?_))))))))))
  ·refine sk (nN (bl (sr (tm (pB g1) r0 (cL r0 (rdByte _ _ _ _ (blk_heap hs4 0 r0) (hbs.up hs4 (by simp) (fun k h=>.inr (hs4.lo1 0 r0 k h))) (‹_›) (by omega)) ?_)))))
   rintro _ w3 ⟨qa1,qf1,rfl,p1,p2,p3,hs5⟩
   replace hs5:=hs4.cK [0] [1,2] hs5 r0
   refine tA (I (byV bs (ya,yf))) r0 (nn (rg (tm (.slice Ag5 tg.length cg5) r0 (tm (I (byV bs (ya,yf))) r0 (tm (pB g1) r0 (tm (pB g1) r0 (cL r0 (rdNumber _ _ _ _ _ (blk_heap hs5 2 r0) (hbs.up hs5 (by simp) (fun k h=>.inr (hs5.lo1 2 r0 k h))) (‹_›) (‹_›) (by omega)) ?_)))))))
   rintro _ w4 ⟨qa2,qf2,rfl,p4,p5,p6,hs6⟩
   replace hs6:=hs5.cK [2] [0,1] hs6 r0
   refine cL r0 (rdTake _ _ _ _ _ (blk_heap hs6 2 r0) (hbs.up hs6 (by simp) (fun k h=>.inr (hs6.lo1 2 r0 k h))) (‹_›) (‹_›) (by(have hot:=ofB_tk (s:=(qa1,qf1)) p2; exact hot))) ?_
   rintro _ w5 ⟨A1,c1,qa3,qf3,rfl,p7,p8,p9,hs7⟩
   replace hs7:=hs6.cK [2] [0,1] hs7 r0
   refine qt r0 (bdv (v:=.agg #[I (byV bs (ya,yf)),.slice A1 ((tkL bs (qa2,qf2) (ofB (tkL bs (qa1,qf1) (2:Int).toNat)).toNat).length) c1]) [(0,I (byV bs (ya,yf))),(1,.slice A1 ((tkL bs (qa2,qf2) (ofB (tkL bs (qa1,qf1) (2:Int).toNat)).toNat).length) c1)] r0 (fun _=>by kernel_rfl)) (bsk hs7 sl115 [.agg #[I (byV bs (ya,yf)),.slice A1 ((tkL bs (qa2,qf2) (ofB (tkL bs (qa1,qf1) (2:Int).toNat)).toNat).length) c1]] [I (byV bs (ya,yf)),.slice A1 ((tkL bs (qa2,qf2) (ofB (tkL bs (qa1,qf1) (2:Int).toNat)).toNat).length) c1] trivial r0 (fun b1 w6 hs8=>?_))
   refine apf (g:=gTgE) (ys:=tg) (zs:=([((byV bs (ya,yf),(⟨A1,c1,tkL bs (qa2,qf2) (ofB (tkL bs (qa1,qf1) (2:Int).toNat)).toNat⟩:Hd)):TgE)]:List TgE)) hs8 0 r0 sl115 r0 (by decide) r0 r0 (hs8.sl0 4 r0) (fun _=>rfl) (by unfold maxLen; (have hbl:=isBytes_len (hb2 ‹_›); (try simp only[List.length_append,List.length_cons,List.length_nil]); omega)) (by(have hbl:=isBytes_len (hb2 ‹_›); (try simp only[List.length_append,List.length_cons,List.length_nil]); omega)) trivial r0 (fun A2 c2 w7 hs9=>?_)
   have hs10:SH w w7 [] [.blk g1 162 [(Z4 Abs bs cbs),I (qa3:Int),.bool qf3],.own (Z8 b1) (([((byV bs (ya,yf),(⟨A1,c1,tkL bs (qa2,qf2) (ofB (tkL bs (qa1,qf1) (2:Int).toNat)).toNat⟩:Hd)):TgE)]:List TgE).length) 1 166 2 (([((byV bs (ya,yf),(⟨A1,c1,tkL bs (qa2,qf2) (ofB (tkL bs (qa1,qf1) (2:Int).toNat)).toNat⟩:Hd)):TgE)]:List TgE).flatMap gTgE),.own A2 ((tg++([((byV bs (ya,yf),(⟨A1,c1,tkL bs (qa2,qf2) (ofB (tkL bs (qa1,qf1) (2:Int).toNat)).toNat⟩:Hd)):TgE)]:List TgE)).length) c2 166 2 ((tg++([((byV bs (ya,yf),(⟨A1,c1,tkL bs (qa2,qf2) (ofB (tkL bs (qa1,qf1) (2:Int).toNat)).toNat⟩:Hd)):TgE)]:List TgE)).flatMap gTgE),.rows 3 ((tg.map Prod.snd)++[(⟨A1,c1,tkL bs (qa2,qf2) (ofB (tkL bs (qa1,qf1) (2:Int).toNat)).toNat⟩:Hd)])]:=SH.rows_push (e:=3) (us:=(tg.map Prod.snd)) (L:=[.blk g1 162 [(Z4 Abs bs cbs),I (qa3:Int),.bool qf3],.own (Z8 b1) (([((byV bs (ya,yf),(⟨A1,c1,tkL bs (qa2,qf2) (ofB (tkL bs (qa1,qf1) (2:Int).toNat)).toNat⟩:Hd)):TgE)]:List TgE).length) 1 166 2 (([((byV bs (ya,yf),(⟨A1,c1,tkL bs (qa2,qf2) (ofB (tkL bs (qa1,qf1) (2:Int).toNat)).toNat⟩:Hd)):TgE)]:List TgE).flatMap gTgE),.own A2 ((tg++([((byV bs (ya,yf),(⟨A1,c1,tkL bs (qa2,qf2) (ofB (tkL bs (qa1,qf1) (2:Int).toNat)).toNat⟩:Hd)):TgE)]:List TgE)).length) c2 166 2 ((tg++([((byV bs (ya,yf),(⟨A1,c1,tkL bs (qa2,qf2) (ofB (tkL bs (qa1,qf1) (2:Int).toNat)).toNat⟩:Hd)):TgE)]:List TgE)).flatMap gTgE)]) A1 c1 (tkL bs (qa2,qf2) (ofB (tkL bs (qa1,qf1) (2:Int).toNat)).toNat) (hs9.pk [0,2,1,3,4] r0)
   refine tA (.slice A2 ((tg++([((byV bs (ya,yf),(⟨A1,c1,tkL bs (qa2,qf2) (ofB (tkL bs (qa1,qf1) (2:Int).toNat)).toNat⟩:Hd)):TgE)]:List TgE)).length) c2) r0 (nl (bN (nN ?_)))
   have e2:(tg.map Prod.snd)++[(⟨A1,c1,tkL bs (qa2,qf2) (ofB (tkL bs (qa1,qf1) (2:Int).toNat)).toNat⟩:Hd)]=((tg++([((byV bs (ya,yf),(⟨A1,c1,tkL bs (qa2,qf2) (ofB (tkL bs (qa1,qf1) (2:Int).toNat)).toNat⟩:Hd)):TgE)]:List TgE)).map Prod.snd):=by simp
   refine⟨(A2,c2,qa3,qf3,(tg++([((byV bs (ya,yf),(⟨A1,c1,tkL bs (qa2,qf2) (ofB (tkL bs (qa1,qf1) (2:Int).toNat)).toNat⟩:Hd)):TgE)]:List TgE))),⟨(zR r0),(p8),(fun h0=>⟨((tgR_bd (tg:=tg) hb2 hyy ‹_› (by omega) (tagR_eq p3 p6 p9)).1 h0).2,((tgR_step (tg:=tg) hb2 hyy ‹_› (by omega) (tagR_eq p3 p6 p9) r0 (tagV_eq p3 p6)).1 h0).2⟩),((tgR_bd (tg:=tg) hb2 hyy ‹_› (by omega) (tagR_eq p3 p6 p9)).2),(⟨by have h1_:=(hyy ‹_›).1; have h2_:=hgl.2 ‹_›; (try simp only[List.length_append,List.length_cons,List.length_nil]); omega,fun h0=>by have h1_:=((tgR_bd (tg:=tg) hb2 hyy ‹_› (by omega) (tagR_eq p3 p6 p9)).1 h0).1; have h2_:=hgl.2 ‹_›; (try simp only[List.length_append,List.length_cons,List.length_nil]); omega⟩),((hs10.pq [0,2,3] r0).cast (lc r0 (lc r0 (lc (congrArg (It.rows 3) e2) r0))))⟩,?_⟩
   show (if qf3=true then 0 else bs.length-qa3+1)<(if yf=true then 0 else bs.length-ya+1)
   (rw[if_neg (show ¬ yf=true by rw[(by assumption:yf=false)]; decide)]; rcases Bool.eq_false_or_eq_true qf3 with h_ | h_; (rw[if_pos h_]; omega); (have h1_:=((tgR_bd (tg:=tg) hb2 hyy ‹_› (by omega) (tagR_eq p3 p6 p9)).1 h_).1; have h2_:=((tgR_bd (tg:=tg) hb2 hyy ‹_› (by omega) (tagR_eq p3 p6 p9)).1 h_).2; rw[if_neg (by rw[h_]; decide)]; omega))
  refine ex (tE (tE (bE (nN (sq (sr (tm (pB g1) r0 (tn r0 (qt r0 (fa 2 fo162_2 r0) (qt r0 (lD (.bool yf) hs4 0 r0 one4) (tm (.bool yf) r0 (spl 38 r0 (fun h4=>?_) (fun h4=>?_)))))))))))))
  ·refine gt5 r0 (gt5 r0 (gt5 r0 (qt r0 (pt (v:=.bool true) r0 r0) (nn (cdt r0 (sq (rg (tA ns r0 (tA Z6 r0 (nn (rt (tR (fret (.tmp (.tmp .nil)) r0 ?_)))))))))))))
   have e3:false=tagsFrom bs:=by exact(hno ‹_›).symm
   exact⟨none,0,0,(tup2 r0 (congrArg (Value.bool) e3)),(hs4.pk [] r0)⟩
  refine qh r0 (mv (v:=.slice Ag5 tg.length cg5) r0) (cl ⟨_,rfl,rfl⟩ r0 (iAreTags _ _ (hs4.sl0 1 r0) (fun u hu=>hs4.rows_sl 2 r0 (List.mem_map_of_mem (f:=Prod.snd) hu))) ?_)
  rintro _ w8 ⟨rfl,hs11⟩
  replace hs11:=hs4.call0 hs11
  refine qh r0 (nt r0) (qt r0 (pf (v:=.bool (!(tagsOk (tgX tg)))) r0 r0) (nn (cd r0 (fun h5=>?_) (fun h5=>?_))))
  ·have h6:=nbF h5
   refine sr (tA ns r0 (tA Z6 r0 (nn (rt (tR (fret (.tmp (.tmp .nil)) r0 ?_))))))
   have e4:false=tagsFrom bs:=by exact((tgs_end (hb2 ‹_›) (hyy ‹_›).2 (by omega)).trans ‹_›).symm
   exact⟨none,0,0,(tup2 r0 (congrArg (Value.bool) e4)),(hs11.pk [] r0)⟩
  have h7:=nbT h5
  refine sk (nN (sr (tm (.slice Ag5 tg.length cg5) r0 (tA (.slice Ag5 tg.length cg5) r0 (tA Z35 r0 (nl (nN (rt (fret (.tmp (.tmp .nil)) r0 ?_)))))))))
  have e5:true=tagsFrom bs:=by exact((tgs_end (hb2 ‹_›) (hyy ‹_›).2 (by omega)).trans ‹_›).symm
  exact⟨Ag5,tg.length,cg5,(tup2 r0 (congrArg (Value.bool) e5)),(hs11.pk [] r0)⟩
 have h8:=nbT h1
 refine gf5 r0 (gf5 r0 (gf5 r0 (gf5 r0 (gf5 r0 (gf5 r0 (gf5 r0 (qt r0 (pf (v:=.bool false) r0 r0) (nn (cdf r0 (ex (tE (tE (bE (nN (sq (sr (tm (pB g1) r0 (tn r0 (qt r0 (fa 2 fo162_2 r0) (qt r0 (lD (.bool yf) hs4 0 r0 one4) (tm (.bool yf) r0 (spl 38 r0 (fun h9=>?_) (fun h9=>?_)))))))))))))))))))))))
 ·refine gt5 r0 (gt5 r0 (gt5 r0 (qt r0 (pt (v:=.bool true) r0 r0) (nn (cdt r0 (sq (rg (tA ns r0 (tA Z6 r0 (nn (rt (tR (fret (.tmp (.tmp .nil)) r0 ?_)))))))))))))
  have e6:false=tagsFrom bs:=by exact(hno ‹_›).symm
  exact⟨none,0,0,(tup2 r0 (congrArg (Value.bool) e6)),(hs4.pk [] r0)⟩
 refine qh r0 (mv (v:=.slice Ag5 tg.length cg5) r0) (cl ⟨_,rfl,rfl⟩ r0 (iAreTags _ _ (hs4.sl0 1 r0) (fun u hu=>hs4.rows_sl 2 r0 (List.mem_map_of_mem (f:=Prod.snd) hu))) ?_)
 rintro _ w9 ⟨rfl,hs12⟩
 replace hs12:=hs4.call0 hs12
 refine qh r0 (nt r0) (qt r0 (pf (v:=.bool (!(tagsOk (tgX tg)))) r0 r0) (nn (cd r0 (fun h10=>?_) (fun h10=>?_))))
 ·have h11:=nbF h10
  refine sr (tA ns r0 (tA Z6 r0 (nn (rt (tR (fret (.tmp (.tmp .nil)) r0 ?_))))))
  have e7:false=tagsFrom bs:=by exact(hno ‹_›).symm
  exact⟨none,0,0,(tup2 r0 (congrArg (Value.bool) e7)),(hs12.pk [] r0)⟩
 have h12:=nbT h10
 refine sk (nN (sr (tm (.slice Ag5 tg.length cg5) r0 (tA (.slice Ag5 tg.length cg5) r0 (tA Z35 r0 (nl (nN (rt (fret (.tmp (.tmp .nil)) r0 ?_)))))))))
 have e8:true=tagsFrom bs:=by exact absurd ((by assumption:yf=true).symm.trans (by assumption:yf=false)) (by decide)
 exact⟨Ag5,tg.length,cg5,(tup2 r0 (congrArg (Value.bool) e8)),(hs12.pk [] r0)⟩
set_option maxHeartbeats 8000000 in
theorem iHeadFrom {Abs:Option Addr} {cbs:Nat} (bs:List Int) (w:World) (hbs:Sl w [] 1 Abs bs.length cbs (bs.map I)):Does Tryz.prog 130 [.slice Abs bs.length cbs] w (fun v w'=>∃ Aqar:Option Addr,∃ cqar:Nat,∃ Aqbr:Option Addr,∃ cqbr:Nat,∃ Atr:Option Addr,∃ ntr:Nat,∃ ctr:Nat,∃ ka:Int,∃ qa:List Int,∃ na:List UInt8,∃ pa:Int,∃ kb:Int,∃ qb:List Int,∃ nb:List UInt8,∃ pb:Int,v=.tuple #[.agg #[.int .i64 ka,.slice Aqar qa.length cqar,Str na,.int .i64 pa,.int .i64 kb,.slice Aqbr qb.length cqbr,Str nb,.int .i64 pb],.slice Atr ntr ctr,.int .i64 ((headFrom bs).1),.bool ((headFrom bs).2)]∧SH w w' [] [.own Aqar qa.length cqar 3 1 (qa.map I),.own Aqbr qb.length cqbr 3 1 (qb.map I)]):=by
 refine fE (N:=69) Tryz.func130 r0 (by kernel_rfl) r0 ?_
 have hs0:SH w w [] []:=SH.refl w []
 have hbs_m:bs.length≤9223372036854775807:=Nat.le_trans hbs.cap hbs.capMax
 refine sr (al (cs:=Z5) hs0 tz112 r0 trivial r0 (fun b1 w1 hs1=>?_))
 refine tA ns r0 (tA (I 0) r0 (tA Z6 r0 (nx (tm (Z14 Abs bs cbs) r0 (cL r0 (newReader _ _ (hbs.up0 hs1)) ?_)))))
 rintro _ w2 ⟨g1,rfl,hs2⟩
 replace hs2:=hs1.call0 hs2
 refine tA (pB g1) r0 (nx (tm (pB g1) r0 (cS2 hs2 r0 (iHeadStart _) (fun A1 c1 w3 hs3=>?_))))
 refine cL r0 (rdExpect _ 0 _ _ _ (blk_heap hs3 1 r0) (hbs.up hs3 (by simp) (fun k h=>.inr (hs3.lo1 1 r0 k h))) (by(simp; done)) (by omega) (hs3.sl 2 r0 (by intro k hk; simp at hk; subst hk; exact⟨_,memi 1 r0,rfl⟩)) (by(have hhl:headP.length=14:=rfl; omega))) ?_
 rintro _ w4 ⟨qa1,qf1,rfl,p1,p2,p3,hs4⟩
 replace hs4:=hs3.cK [1] [0,2] hs4 r0
 refine nx (tm (pB g1) r0 (tm (pB g1) r0 (cL r0 (rdNumber _ _ _ _ _ (blk_heap hs4 2 r0) (hbs.up hs4 (by simp) (fun k h=>.inr (hs4.lo1 2 r0 k h))) (‹_›) (‹_›) (by omega)) ?_)))
 rintro _ w5 ⟨qa2,qf2,rfl,p4,p5,p6,hs5⟩
 replace hs5:=hs4.cK [2] [0,1] hs5 r0
 refine cL r0 (rdTake _ _ _ _ _ (blk_heap hs5 2 r0) (hbs.up hs5 (by simp) (fun k h=>.inr (hs5.lo1 2 r0 k h))) (‹_›) (‹_›) (by(have hot:=ofB_tk (s:=(qa1,qf1)) p2; exact hot))) ?_
 rintro _ w6 ⟨A2,c2,qa3,qf3,rfl,p7,p8,p9,hs6⟩
 replace hs6:SH w w6 [] [.blk b1 112 Z5,.own A1 headP.length c1 3 1 (headP.map I),.blk g1 162 [(Z4 Abs bs cbs),I (qa3:Int),.bool qf3],.own A2 ((tkL bs (qa2,qf2) (ofB (tkL bs (qa1,qf1) (2:Int).toNat)).toNat).length) c2 3 1 ((tkL bs (qa2,qf2) (ofB (tkL bs (qa1,qf1) (2:Int).toNat)).toNat).map I)]:=SH.callK (K:=[.blk g1 162 [(Z4 Abs bs cbs),I (qa2:Int),.bool qf2]]) (R:=[.blk b1 112 Z5,.own A1 headP.length c1 3 1 (headP.map I)]) (hs5.pk [2,0,1] r0) hs6 r0
 refine cL r0 (newReader _ _ (hs6.sl0 3 r0)) ?_
 rintro _ w7 ⟨g2,rfl,hs7⟩
 replace hs7:=hs6.call0 hs7
 refine tA (pB g2) r0 (nx (tm (pB g2) r0 (cL r0 (rdTake _ 0 _ _ _ (blk_heap hs7 4 r0) (hs7.sl 3 r0 (by intro k hk; simp at hk; subst hk; exact⟨_,memi 3 r0,rfl⟩)) (by(simp; done)) (by omega) (by omega)) ?_)))
 rintro _ w8 ⟨A3,c3,qa4,qf4,rfl,p10,p11,p12,hs8⟩
 replace hs8:=hs7.cK [4] [0,1,2,3] hs8 r0
 refine qt r0 (bdv (v:=.agg #[I 1,.slice A3 ((tkL (tkL bs (qa2,qf2) (ofB (tkL bs (qa1,qf1) (2:Int).toNat)).toNat) (0,(!isBytes (tkL bs (qa2,qf2) (ofB (tkL bs (qa1,qf1) (2:Int).toNat)).toNat))) (4:Int).toNat).length) c3,Str [],I 0]) [(0,I 1),(1,.slice A3 ((tkL (tkL bs (qa2,qf2) (ofB (tkL bs (qa1,qf1) (2:Int).toNat)).toNat) (0,(!isBytes (tkL bs (qa2,qf2) (ofB (tkL bs (qa1,qf1) (2:Int).toNat)).toNat))) (4:Int).toNat).length) c3)] r0 (fun _=>by kernel_rfl)) (al (cs:=Z17) hs8 tz54 r0 trivial r0 (fun b2 w9 (hs9:SH w w9 [] [.blk b1 112 Z5,.own A1 headP.length c1 3 1 (headP.map I),.blk g1 162 [(Z4 Abs bs cbs),I (qa3:Int),.bool qf3],.own A2 ((tkL bs (qa2,qf2) (ofB (tkL bs (qa1,qf1) (2:Int).toNat)).toNat).length) c2 3 1 ((tkL bs (qa2,qf2) (ofB (tkL bs (qa1,qf1) (2:Int).toNat)).toNat).map I),.blk g2 162 [.slice A2 ((tkL bs (qa2,qf2) (ofB (tkL bs (qa1,qf1) (2:Int).toNat)).toNat).length) c2,I (qa4:Int),.bool qf4],.own A3 ((tkL (tkL bs (qa2,qf2) (ofB (tkL bs (qa1,qf1) (2:Int).toNat)).toNat) (0,(!isBytes (tkL bs (qa2,qf2) (ofB (tkL bs (qa1,qf1) (2:Int).toNat)).toNat))) (4:Int).toNat).length) c3 3 1 ((tkL (tkL bs (qa2,qf2) (ofB (tkL bs (qa1,qf1) (2:Int).toNat)).toNat) (0,(!isBytes (tkL bs (qa2,qf2) (ofB (tkL bs (qa1,qf1) (2:Int).toNat)).toNat))) (4:Int).toNat).map I),.blk b2 54 Z17])=>?_))
 refine sG [I 1,.slice A3 ((tkL (tkL bs (qa2,qf2) (ofB (tkL bs (qa1,qf1) (2:Int).toNat)).toNat) (0,(!isBytes (tkL bs (qa2,qf2) (ofB (tkL bs (qa1,qf1) (2:Int).toNat)).toNat))) (4:Int).toNat).length) c3,Str [],I 0] hs9 6 r0 ag54 (fun w10 hs10=>?_)
 refine nx (tm (pB g2) r0 (cL r0 (rdTake _ _ _ _ _ (blk_heap hs10 4 r0) (hs10.sl 3 r0 (by intro k hk; simp at hk; subst hk; exact⟨_,memi 3 r0,rfl⟩)) (‹_›) (‹_›) (by omega)) ?_))
 rintro _ w11 ⟨A4,c4,qa5,qf5,rfl,p13,p14,p15,hs11⟩
 replace hs11:=hs10.cK [4] [0,1,2,3,5,6] hs11 r0
 refine qt r0 (bdv (v:=.agg #[I 1,.slice A4 ((tkL (tkL bs (qa2,qf2) (ofB (tkL bs (qa1,qf1) (2:Int).toNat)).toNat) (qa4,qf4) (4:Int).toNat).length) c4,Str [],I 0]) [(0,I 1),(1,.slice A4 ((tkL (tkL bs (qa2,qf2) (ofB (tkL bs (qa1,qf1) (2:Int).toNat)).toNat) (qa4,qf4) (4:Int).toNat).length) c4)] r0 (fun _=>by kernel_rfl)) (al (cs:=Z17) hs11 tz54 r0 trivial r0 (fun b3 w12 (hs12:SH w w12 [] [.blk b1 112 Z5,.own A1 headP.length c1 3 1 (headP.map I),.blk g1 162 [(Z4 Abs bs cbs),I (qa3:Int),.bool qf3],.own A2 ((tkL bs (qa2,qf2) (ofB (tkL bs (qa1,qf1) (2:Int).toNat)).toNat).length) c2 3 1 ((tkL bs (qa2,qf2) (ofB (tkL bs (qa1,qf1) (2:Int).toNat)).toNat).map I),.own A3 ((tkL (tkL bs (qa2,qf2) (ofB (tkL bs (qa1,qf1) (2:Int).toNat)).toNat) (0,(!isBytes (tkL bs (qa2,qf2) (ofB (tkL bs (qa1,qf1) (2:Int).toNat)).toNat))) (4:Int).toNat).length) c3 3 1 ((tkL (tkL bs (qa2,qf2) (ofB (tkL bs (qa1,qf1) (2:Int).toNat)).toNat) (0,(!isBytes (tkL bs (qa2,qf2) (ofB (tkL bs (qa1,qf1) (2:Int).toNat)).toNat))) (4:Int).toNat).map I),.blk b2 54 [I 1,.slice A3 ((tkL (tkL bs (qa2,qf2) (ofB (tkL bs (qa1,qf1) (2:Int).toNat)).toNat) (0,(!isBytes (tkL bs (qa2,qf2) (ofB (tkL bs (qa1,qf1) (2:Int).toNat)).toNat))) (4:Int).toNat).length) c3,Str [],I 0],.blk g2 162 [.slice A2 ((tkL bs (qa2,qf2) (ofB (tkL bs (qa1,qf1) (2:Int).toNat)).toNat).length) c2,I (qa5:Int),.bool qf5],.own A4 ((tkL (tkL bs (qa2,qf2) (ofB (tkL bs (qa1,qf1) (2:Int).toNat)).toNat) (qa4,qf4) (4:Int).toNat).length) c4 3 1 ((tkL (tkL bs (qa2,qf2) (ofB (tkL bs (qa1,qf1) (2:Int).toNat)).toNat) (qa4,qf4) (4:Int).toNat).map I),.blk b3 54 Z17])=>?_))
 refine sG [I 1,.slice A4 ((tkL (tkL bs (qa2,qf2) (ofB (tkL bs (qa1,qf1) (2:Int).toNat)).toNat) (qa4,qf4) (4:Int).toNat).length) c4,Str [],I 0] hs12 8 r0 ag54 (fun w13 hs13=>?_)
 refine nx (tm (pB g2) r0 (cL r0 (rdNumber _ _ _ _ _ (blk_heap hs13 6 r0) (hs13.sl 3 r0 (by intro k hk; simp at hk; subst hk; exact⟨_,memi 5 r0,rfl⟩)) (‹_›) (‹_›) (by omega)) ?_))
 rintro _ w14 ⟨qa6,qf6,rfl,p16,p17,p18,hs14⟩
 replace hs14:=hs13.cK [6] [0,1,2,3,4,5,7,8] hs14 r0
 refine qt r0 (fa 3 fo54_3 r0) (sT (I (ofB (tkL (tkL bs (qa2,qf2) (ofB (tkL bs (qa1,qf1) (2:Int).toNat)).toNat) (qa5,qf5) (2:Int).toNat))) hs14 5 r0 one3 (fun w15 (hs15:SH w w15 [] [.blk b1 112 Z5,.own A1 headP.length c1 3 1 (headP.map I),.blk g1 162 [(Z4 Abs bs cbs),I (qa3:Int),.bool qf3],.own A2 ((tkL bs (qa2,qf2) (ofB (tkL bs (qa1,qf1) (2:Int).toNat)).toNat).length) c2 3 1 ((tkL bs (qa2,qf2) (ofB (tkL bs (qa1,qf1) (2:Int).toNat)).toNat).map I),.own A3 ((tkL (tkL bs (qa2,qf2) (ofB (tkL bs (qa1,qf1) (2:Int).toNat)).toNat) (0,(!isBytes (tkL bs (qa2,qf2) (ofB (tkL bs (qa1,qf1) (2:Int).toNat)).toNat))) (4:Int).toNat).length) c3 3 1 ((tkL (tkL bs (qa2,qf2) (ofB (tkL bs (qa1,qf1) (2:Int).toNat)).toNat) (0,(!isBytes (tkL bs (qa2,qf2) (ofB (tkL bs (qa1,qf1) (2:Int).toNat)).toNat))) (4:Int).toNat).map I),.own A4 ((tkL (tkL bs (qa2,qf2) (ofB (tkL bs (qa1,qf1) (2:Int).toNat)).toNat) (qa4,qf4) (4:Int).toNat).length) c4 3 1 ((tkL (tkL bs (qa2,qf2) (ofB (tkL bs (qa1,qf1) (2:Int).toNat)).toNat) (qa4,qf4) (4:Int).toNat).map I),.blk b3 54 [I 1,.slice A4 ((tkL (tkL bs (qa2,qf2) (ofB (tkL bs (qa1,qf1) (2:Int).toNat)).toNat) (qa4,qf4) (4:Int).toNat).length) c4,Str [],I 0],.blk g2 162 [.slice A2 ((tkL bs (qa2,qf2) (ofB (tkL bs (qa1,qf1) (2:Int).toNat)).toNat).length) c2,I (qa6:Int),.bool qf6],.blk b2 54 [I 1,.slice A3 ((tkL (tkL bs (qa2,qf2) (ofB (tkL bs (qa1,qf1) (2:Int).toNat)).toNat) (0,(!isBytes (tkL bs (qa2,qf2) (ofB (tkL bs (qa1,qf1) (2:Int).toNat)).toNat))) (4:Int).toNat).length) c3,Str [],I (ofB (tkL (tkL bs (qa2,qf2) (ofB (tkL bs (qa1,qf1) (2:Int).toNat)).toNat) (qa5,qf5) (2:Int).toNat))]])=>?_))
 refine nx (tm (pB g2) r0 (cL r0 (rdNumber _ _ _ _ _ (blk_heap hs15 7 r0) (hs15.sl 3 r0 (by intro k hk; simp at hk; subst hk; exact⟨_,memi 6 r0,rfl⟩)) (‹_›) (‹_›) (by omega)) ?_))
 rintro _ w16 ⟨qa7,qf7,rfl,p19,p20,p21,hs16⟩
 replace hs16:=hs15.cK [7] [0,1,2,3,4,5,6,8] hs16 r0
 refine qt r0 (fa 3 fo54_3 r0) (sT (I (ofB (tkL (tkL bs (qa2,qf2) (ofB (tkL bs (qa1,qf1) (2:Int).toNat)).toNat) (qa6,qf6) (2:Int).toNat))) hs16 6 r0 one3 (fun w17 hs17=>?_))
 refine nn (sq (sr (tm (pB g1) r0 (tn r0 (qt r0 (fa 2 fo162_2 r0) (qt r0 (lD (.bool qf3) hs17 2 r0 one4) (tm (.bool qf3) r0 (spl 38 r0 (fun h1=>?_) (fun h1=>?_)))))))))
 ·refine gt5 r0 (gt5 r0 (gt5 r0 (gt5 r0 (qt r0 (pt (v:=.bool true) r0 r0) (nn (cdt r0 (sr (qt r0 (bdv (v:=.agg #[I 0,ns,Str [],I 0,I 0,ns,Str [],I 0]) [] r0 (fun _=>by kernel_rfl)) (sG Z5 hs17 0 r0 ag112 (fun w18 (hs18:SH w w18 [] [.own A1 headP.length c1 3 1 (headP.map I),.blk g1 162 [(Z4 Abs bs cbs),I (qa3:Int),.bool qf3],.own A2 ((tkL bs (qa2,qf2) (ofB (tkL bs (qa1,qf1) (2:Int).toNat)).toNat).length) c2 3 1 ((tkL bs (qa2,qf2) (ofB (tkL bs (qa1,qf1) (2:Int).toNat)).toNat).map I),.own A3 ((tkL (tkL bs (qa2,qf2) (ofB (tkL bs (qa1,qf1) (2:Int).toNat)).toNat) (0,(!isBytes (tkL bs (qa2,qf2) (ofB (tkL bs (qa1,qf1) (2:Int).toNat)).toNat))) (4:Int).toNat).length) c3 3 1 ((tkL (tkL bs (qa2,qf2) (ofB (tkL bs (qa1,qf1) (2:Int).toNat)).toNat) (0,(!isBytes (tkL bs (qa2,qf2) (ofB (tkL bs (qa1,qf1) (2:Int).toNat)).toNat))) (4:Int).toNat).map I),.own A4 ((tkL (tkL bs (qa2,qf2) (ofB (tkL bs (qa1,qf1) (2:Int).toNat)).toNat) (qa4,qf4) (4:Int).toNat).length) c4 3 1 ((tkL (tkL bs (qa2,qf2) (ofB (tkL bs (qa1,qf1) (2:Int).toNat)).toNat) (qa4,qf4) (4:Int).toNat).map I),.blk b2 54 [I 1,.slice A3 ((tkL (tkL bs (qa2,qf2) (ofB (tkL bs (qa1,qf1) (2:Int).toNat)).toNat) (0,(!isBytes (tkL bs (qa2,qf2) (ofB (tkL bs (qa1,qf1) (2:Int).toNat)).toNat))) (4:Int).toNat).length) c3,Str [],I (ofB (tkL (tkL bs (qa2,qf2) (ofB (tkL bs (qa1,qf1) (2:Int).toNat)).toNat) (qa5,qf5) (2:Int).toNat))],.blk g2 162 [.slice A2 ((tkL bs (qa2,qf2) (ofB (tkL bs (qa1,qf1) (2:Int).toNat)).toNat).length) c2,I (qa7:Int),.bool qf7],.blk b3 54 [I 1,.slice A4 ((tkL (tkL bs (qa2,qf2) (ofB (tkL bs (qa1,qf1) (2:Int).toNat)).toNat) (qa4,qf4) (4:Int).toNat).length) c4,Str [],I (ofB (tkL (tkL bs (qa2,qf2) (ofB (tkL bs (qa1,qf1) (2:Int).toNat)).toNat) (qa6,qf6) (2:Int).toNat))],.blk b1 112 Z5])=>?_))))))))))
  refine tA ns r0 (tA (I 0) r0 (tA Z6 r0 (nn ?_)))
  have hs19:=hs18.pq [8] r0
  refine rt (tR (fret (resC hs19 0 r0 r0 ag112 r0 (.tmp (.tmp (.tmp .nil)))) r0 ?_))
  have hs20:=hs19.nl [Z0] r0
  have hs21:SH w w18 [] [.blk b1 112 Z5,Z0,Z0]:=SH.nils (by intro i hi; simp at hi; subst hi; exact nilItem) hs20
  have e1:headFrom bs=(0,false):=by(have hh:=hdI (b:=bs) p3 p6 p9 r0 p12 p15 p18 p21; exact hdI_n1 hh (.inl ‹_›))
  rw[e1]
  exact⟨none,0,none,0,none,0,0,0,([]:List Int),[],0,0,([]:List Int),[],0,rfl,(hs21.pk [1,2] r0)⟩
 refine qh r0 (mv (v:=pB g2) r0) (qh r0 (nc r0) (qh r0 (fa 2 fo162_2 r0) (qh r0 (lD (.bool qf7) hs17 7 r0 one4) (qt r0 (pf (v:=.bool qf7) r0 r0) (nn (cd r0 (fun h2=>?_) (fun h2=>?_)))))))
 ·refine sr (qt r0 (bdv (v:=.agg #[I 0,ns,Str [],I 0,I 0,ns,Str [],I 0]) [] r0 (fun _=>by kernel_rfl)) (sG Z5 hs17 0 r0 ag112 (fun w19 hs22=>?_)))
  refine tA ns r0 (tA (I 0) r0 (tA Z6 r0 (nn ?_)))
  have hs23:=hs22.pq [8] r0
  refine rt (tR (fret (resC hs23 0 r0 r0 ag112 r0 (.tmp (.tmp (.tmp .nil)))) r0 ?_))
  have hs24:SH w w19 [] [.blk b1 112 Z5,Z0]:=SH.nils (by intro i hi; simp at hi; subst hi; exact nilItem) hs23
  have hs25:=hs24.nl [Z0] r0
  have e2:headFrom bs=(0,false):=by(have hh:=hdI (b:=bs) p3 p6 p9 r0 p12 p15 p18 p21; exact hdI_n1 hh (.inr ‹_›))
  rw[e2]
  exact⟨none,0,none,0,none,0,0,0,([]:List Int),[],0,0,([]:List Int),[],0,rfl,(hs25.pk [1,2] r0)⟩
 refine sk (nN (sq ?_))
 refine raJ (fun w'=>∃ L,SH w w' [] L∧(.blk b1 112 Z5)∈L∧(.blk g1 162 [(Z4 Abs bs cbs),I (qa3:Int),.bool qf3])∈L∧(.blk b2 54 [I 1,.slice A3 ((tkL (tkL bs (qa2,qf2) (ofB (tkL bs (qa1,qf1) (2:Int).toNat)).toNat) (0,(!isBytes (tkL bs (qa2,qf2) (ofB (tkL bs (qa1,qf1) (2:Int).toNat)).toNat))) (4:Int).toNat).length) c3,Str [],I (ofB (tkL (tkL bs (qa2,qf2) (ofB (tkL bs (qa1,qf1) (2:Int).toNat)).toNat) (qa5,qf5) (2:Int).toNat))])∈L∧(.blk g2 162 [.slice A2 ((tkL bs (qa2,qf2) (ofB (tkL bs (qa1,qf1) (2:Int).toNat)).toNat).length) c2,I (qa7:Int),.bool qf7])∈L∧(.blk b3 54 [I 1,.slice A4 ((tkL (tkL bs (qa2,qf2) (ofB (tkL bs (qa1,qf1) (2:Int).toNat)).toNat) (qa4,qf4) (4:Int).toNat).length) c4,Str [],I (ofB (tkL (tkL bs (qa2,qf2) (ofB (tkL bs (qa1,qf1) (2:Int).toNat)).toNat) (qa6,qf6) (2:Int).toNat))])∈L∧True) (fun f w'=>∃ (At9':Option Addr) (nt9' ct9':Nat),Hz f [(2,pB b1),(6,pB g1),(8,pB b2),(9,pB b3),(10,.slice At9' nt9' ct9'),(11,.bool (tagsFrom ((tkL bs (qa2,qf2) (ofB (tkL bs (qa1,qf1) (2:Int).toNat)).toNat).drop qa7)))]∧SH w w' [] [.blk b1 112 Z5,.own A1 headP.length c1 3 1 (headP.map I),.blk g1 162 [(Z4 Abs bs cbs),I (qa3:Int),.bool qf3],.own A2 ((tkL bs (qa2,qf2) (ofB (tkL bs (qa1,qf1) (2:Int).toNat)).toNat).length) c2 3 1 ((tkL bs (qa2,qf2) (ofB (tkL bs (qa1,qf1) (2:Int).toNat)).toNat).map I),.own A3 ((tkL (tkL bs (qa2,qf2) (ofB (tkL bs (qa1,qf1) (2:Int).toNat)).toNat) (0,(!isBytes (tkL bs (qa2,qf2) (ofB (tkL bs (qa1,qf1) (2:Int).toNat)).toNat))) (4:Int).toNat).length) c3 3 1 ((tkL (tkL bs (qa2,qf2) (ofB (tkL bs (qa1,qf1) (2:Int).toNat)).toNat) (0,(!isBytes (tkL bs (qa2,qf2) (ofB (tkL bs (qa1,qf1) (2:Int).toNat)).toNat))) (4:Int).toNat).map I),.own A4 ((tkL (tkL bs (qa2,qf2) (ofB (tkL bs (qa1,qf1) (2:Int).toNat)).toNat) (qa4,qf4) (4:Int).toNat).length) c4 3 1 ((tkL (tkL bs (qa2,qf2) (ofB (tkL bs (qa1,qf1) (2:Int).toNat)).toNat) (qa4,qf4) (4:Int).toNat).map I),.blk b2 54 [I 1,.slice A3 ((tkL (tkL bs (qa2,qf2) (ofB (tkL bs (qa1,qf1) (2:Int).toNat)).toNat) (0,(!isBytes (tkL bs (qa2,qf2) (ofB (tkL bs (qa1,qf1) (2:Int).toNat)).toNat))) (4:Int).toNat).length) c3,Str [],I (ofB (tkL (tkL bs (qa2,qf2) (ofB (tkL bs (qa1,qf1) (2:Int).toNat)).toNat) (qa5,qf5) (2:Int).toNat))],.blk g2 162 [.slice A2 ((tkL bs (qa2,qf2) (ofB (tkL bs (qa1,qf1) (2:Int).toNat)).toNat).length) c2,I (qa7:Int),.bool qf7],.blk b3 54 [I 1,.slice A4 ((tkL (tkL bs (qa2,qf2) (ofB (tkL bs (qa1,qf1) (2:Int).toNat)).toNat) (qa4,qf4) (4:Int).toNat).length) c4,Str [],I (ofB (tkL (tkL bs (qa2,qf2) (ofB (tkL bs (qa1,qf1) (2:Int).toNat)).toNat) (qa6,qf6) (2:Int).toNat))]]) mixed ?_ ?_
 ·refine dG 6 15 511 (fun f w'=>Hz f [(2,pB b1),(6,pB g1),(8,pB b2),(9,pB b3),(54,.slice (if c2=qa7 then A2 else A2.map (·.add (qa7*1))) (((tkL bs (qa2,qf2) (ofB (tkL bs (qa1,qf1) (2:Int).toNat)).toNat).drop qa7).length) (c2-qa7))]∧SH w w' [] [.blk b1 112 Z5,.own A1 headP.length c1 3 1 (headP.map I),.blk g1 162 [(Z4 Abs bs cbs),I (qa3:Int),.bool qf3],.own A2 ((tkL bs (qa2,qf2) (ofB (tkL bs (qa1,qf1) (2:Int).toNat)).toNat).length) c2 3 1 ((tkL bs (qa2,qf2) (ofB (tkL bs (qa1,qf1) (2:Int).toNat)).toNat).map I),.own A3 ((tkL (tkL bs (qa2,qf2) (ofB (tkL bs (qa1,qf1) (2:Int).toNat)).toNat) (0,(!isBytes (tkL bs (qa2,qf2) (ofB (tkL bs (qa1,qf1) (2:Int).toNat)).toNat))) (4:Int).toNat).length) c3 3 1 ((tkL (tkL bs (qa2,qf2) (ofB (tkL bs (qa1,qf1) (2:Int).toNat)).toNat) (0,(!isBytes (tkL bs (qa2,qf2) (ofB (tkL bs (qa1,qf1) (2:Int).toNat)).toNat))) (4:Int).toNat).map I),.own A4 ((tkL (tkL bs (qa2,qf2) (ofB (tkL bs (qa1,qf1) (2:Int).toNat)).toNat) (qa4,qf4) (4:Int).toNat).length) c4 3 1 ((tkL (tkL bs (qa2,qf2) (ofB (tkL bs (qa1,qf1) (2:Int).toNat)).toNat) (qa4,qf4) (4:Int).toNat).map I),.blk b2 54 [I 1,.slice A3 ((tkL (tkL bs (qa2,qf2) (ofB (tkL bs (qa1,qf1) (2:Int).toNat)).toNat) (0,(!isBytes (tkL bs (qa2,qf2) (ofB (tkL bs (qa1,qf1) (2:Int).toNat)).toNat))) (4:Int).toNat).length) c3,Str [],I (ofB (tkL (tkL bs (qa2,qf2) (ofB (tkL bs (qa1,qf1) (2:Int).toNat)).toNat) (qa5,qf5) (2:Int).toNat))],.blk g2 162 [.slice A2 ((tkL bs (qa2,qf2) (ofB (tkL bs (qa1,qf1) (2:Int).toNat)).toNat).length) c2,I (qa7:Int),.bool qf7],.blk b3 54 [I 1,.slice A4 ((tkL (tkL bs (qa2,qf2) (ofB (tkL bs (qa1,qf1) (2:Int).toNat)).toNat) (qa4,qf4) (4:Int).toNat).length) c4,Str [],I (ofB (tkL (tkL bs (qa2,qf2) (ofB (tkL bs (qa1,qf1) (2:Int).toNat)).toNat) (qa6,qf6) (2:Int).toNat))]]) ?_ (fun D_10_0=>?_)
  ·rintro f w20 ⟨⟨g3,rfl⟩,hs26⟩
   refine aO 9 r0 (cL r0 (iTagsFrom _ _ (Sl.cutlm (hs26.sl0 3 r0) (by omega))) ?_)
   rintro _ w21 ⟨At9',nt9',ct9',rfl,hs27⟩
   replace hs27:=hs26.call0 hs27
   refine nk ⟨_,hs27,memi 0 r0,memi 2 r0,memi 6 r0,memi 7 r0,memi 8 r0,trivial⟩ (tk (fuel:=0) (is:=[10,11,12,13,14]) (.cons r0 (.cons r0 (.cons r0 (.cons r0 (.cons r0 (.nil)))))) (by kernel_rfl) (by kernel_rfl) ⟨_,hs27,memi 0 r0,memi 2 r0,memi 6 r0,memi 7 r0,memi 8 r0,trivial⟩ (yA r0 (mv (v:=.tuple #[.slice At9' nt9' ct9',.bool (tagsFrom ((tkL bs (qa2,qf2) (ofB (tkL bs (qa1,qf1) (2:Int).toNat)).toNat).drop qa7))]) r0) (yA r0 (xt 0 r0 r0) (yA r0 (xt 1 r0 r0) (yA r0 (asg (v:=.slice At9' nt9' ct9') r0) (yA r0 (asg (v:=.bool (tagsFrom ((tkL bs (qa2,qf2) (ofB (tkL bs (qa1,qf1) (2:Int).toNat)).toNat).drop qa7))) r0) (.nil (ad (by kernel_rfl) ?_))))))))
   exact⟨At9',nt9',ct9',(zR r0),hs27⟩
  have hs28:=hs17.drew
  exact tk (fuel:=6) (is:=[0,1,2,3,4,5,6,7,8]) (.cons r0 (.cons r0 (.cons r0 (.cons r0 (.cons r0 (.cons r0 (.cons r0 (.cons r0 (.cons r0 (.nil)))))))))) (by kernel_rfl) (by kernel_rfl) ⟨_,hs28,memi 0 r0,memi 2 r0,memi 6 r0,memi 7 r0,memi 8 r0,trivial⟩ (yA r0 (mv (v:=pB g2) r0) (yA r0 (nc r0) (yA r0 (fa 0 fo162_0 r0) (yB r0 (fun ⟨Lq,hsq,mh0,mh1,mh2,mh3,mh4,_⟩=>lM (.slice A2 ((tkL bs (qa2,qf2) (ofB (tkL bs (qa1,qf1) (2:Int).toNat)).toNat).length) c2) hsq mh3 r0 one24) (yA r0 (mv (v:=pB g2) r0) (yA r0 (nc r0) (yA r0 (fa 1 fo162_1 r0) (yB r0 (fun ⟨Lq,hsq,mh0,mh1,mh2,mh3,mh4,_⟩=>lM (I (qa7:Int)) hsq mh3 r0 one3) (yA r0 (culm (zs:=(tkL bs (qa2,qf2) (ofB (tkL bs (qa1,qf1) (2:Int).toNat)).toNat)) qa7 sl24 r0 r0 (by omega)) (.nil (alc D_10_0 ⟨(zR r0),hs28⟩)))))))))))
 rintro f w22 ⟨At9',nt9',ct9',⟨g4,rfl⟩,hs29⟩
 refine nN ?_
 have hs30:SH w w22 [] [.blk b1 112 Z5,.blk g1 162 [(Z4 Abs bs cbs),I (qa3:Int),.bool qf3],.own A3 ((tkL (tkL bs (qa2,qf2) (ofB (tkL bs (qa1,qf1) (2:Int).toNat)).toNat) (0,(!isBytes (tkL bs (qa2,qf2) (ofB (tkL bs (qa1,qf1) (2:Int).toNat)).toNat))) (4:Int).toNat).length) c3 3 1 ((tkL (tkL bs (qa2,qf2) (ofB (tkL bs (qa1,qf1) (2:Int).toNat)).toNat) (0,(!isBytes (tkL bs (qa2,qf2) (ofB (tkL bs (qa1,qf1) (2:Int).toNat)).toNat))) (4:Int).toNat).map I),.own A4 ((tkL (tkL bs (qa2,qf2) (ofB (tkL bs (qa1,qf1) (2:Int).toNat)).toNat) (qa4,qf4) (4:Int).toNat).length) c4 3 1 ((tkL (tkL bs (qa2,qf2) (ofB (tkL bs (qa1,qf1) (2:Int).toNat)).toNat) (qa4,qf4) (4:Int).toNat).map I),.blk b2 54 [I 1,.slice A3 ((tkL (tkL bs (qa2,qf2) (ofB (tkL bs (qa1,qf1) (2:Int).toNat)).toNat) (0,(!isBytes (tkL bs (qa2,qf2) (ofB (tkL bs (qa1,qf1) (2:Int).toNat)).toNat))) (4:Int).toNat).length) c3,Str [],I (ofB (tkL (tkL bs (qa2,qf2) (ofB (tkL bs (qa1,qf1) (2:Int).toNat)).toNat) (qa5,qf5) (2:Int).toNat))],.blk b3 54 [I 1,.slice A4 ((tkL (tkL bs (qa2,qf2) (ofB (tkL bs (qa1,qf1) (2:Int).toNat)).toNat) (qa4,qf4) (4:Int).toNat).length) c4,Str [],I (ofB (tkL (tkL bs (qa2,qf2) (ofB (tkL bs (qa1,qf1) (2:Int).toNat)).toNat) (qa6,qf6) (2:Int).toNat))]]:=hs29.pk [0,2,4,5,6,8] r0
 refine sq (sr (tm (.bool (tagsFrom ((tkL bs (qa2,qf2) (ofB (tkL bs (qa1,qf1) (2:Int).toNat)).toNat).drop qa7))) r0 (qt r0 (nt r0) (nn (cd r0 (fun h3=>?_) (fun h3=>?_))))))
 ·have h4:=nbF h3
  refine sr (qt r0 (bdv (v:=.agg #[I 0,ns,Str [],I 0,I 0,ns,Str [],I 0]) [] r0 (fun _=>by kernel_rfl)) (sG Z5 hs30 0 r0 ag112 (fun w23 hs31=>?_)))
  refine tA ns r0 (tA (I 0) r0 (tA Z6 r0 (nn ?_)))
  have hs32:=hs31.pq [5] r0
  refine rt (tR (fret (resC hs32 0 r0 r0 ag112 r0 (.tmp (.tmp (.tmp .nil)))) r0 ?_))
  have hs33:SH w w23 [] [.blk b1 112 Z5,Z0]:=SH.nils (by intro i hi; simp at hi; subst hi; exact nilItem) hs32
  have hs34:=hs33.nl [Z0] r0
  have e3:headFrom bs=(0,false):=by(have hh:=hdI (b:=bs) p3 p6 p9 r0 p12 p15 p18 p21; exact hdI_n2 hh ‹_› ‹_› ‹_›)
  rw[e3]
  exact⟨none,0,none,0,none,0,0,0,([]:List Int),[],0,0,([]:List Int),[],0,rfl,(hs34.pk [1,2] r0)⟩
 have h5:=nbT h3
 refine sk (nN (sq ?_))
 refine raJ (fun w'=>∃ L,SH w w' [] L∧(.blk g1 162 [(Z4 Abs bs cbs),I (qa3:Int),.bool qf3])∈L∧(.blk b2 54 [I 1,.slice A3 ((tkL (tkL bs (qa2,qf2) (ofB (tkL bs (qa1,qf1) (2:Int).toNat)).toNat) (0,(!isBytes (tkL bs (qa2,qf2) (ofB (tkL bs (qa1,qf1) (2:Int).toNat)).toNat))) (4:Int).toNat).length) c3,Str [],I (ofB (tkL (tkL bs (qa2,qf2) (ofB (tkL bs (qa1,qf1) (2:Int).toNat)).toNat) (qa5,qf5) (2:Int).toNat))])∈L∧(.blk b3 54 [I 1,.slice A4 ((tkL (tkL bs (qa2,qf2) (ofB (tkL bs (qa1,qf1) (2:Int).toNat)).toNat) (qa4,qf4) (4:Int).toNat).length) c4,Str [],I (ofB (tkL (tkL bs (qa2,qf2) (ofB (tkL bs (qa1,qf1) (2:Int).toNat)).toNat) (qa6,qf6) (2:Int).toNat))])∈L∧True) (fun f w'=>Hz f [(2,pB b1),(3,.slice At9' nt9' ct9'),(4,I (qa3:Int)),(5,.bool true)]∧SH w w' [] [.blk b1 112 [I 1,.slice A3 ((tkL (tkL bs (qa2,qf2) (ofB (tkL bs (qa1,qf1) (2:Int).toNat)).toNat) (0,(!isBytes (tkL bs (qa2,qf2) (ofB (tkL bs (qa1,qf1) (2:Int).toNat)).toNat))) (4:Int).toNat).length) c3,Str [],I (ofB (tkL (tkL bs (qa2,qf2) (ofB (tkL bs (qa1,qf1) (2:Int).toNat)).toNat) (qa5,qf5) (2:Int).toNat)),I 1,.slice A4 ((tkL (tkL bs (qa2,qf2) (ofB (tkL bs (qa1,qf1) (2:Int).toNat)).toNat) (qa4,qf4) (4:Int).toNat).length) c4,Str [],I (ofB (tkL (tkL bs (qa2,qf2) (ofB (tkL bs (qa1,qf1) (2:Int).toNat)).toNat) (qa6,qf6) (2:Int).toNat))],.blk g1 162 [(Z4 Abs bs cbs),I (qa3:Int),.bool qf3],.own A3 ((tkL (tkL bs (qa2,qf2) (ofB (tkL bs (qa1,qf1) (2:Int).toNat)).toNat) (0,(!isBytes (tkL bs (qa2,qf2) (ofB (tkL bs (qa1,qf1) (2:Int).toNat)).toNat))) (4:Int).toNat).length) c3 3 1 ((tkL (tkL bs (qa2,qf2) (ofB (tkL bs (qa1,qf1) (2:Int).toNat)).toNat) (0,(!isBytes (tkL bs (qa2,qf2) (ofB (tkL bs (qa1,qf1) (2:Int).toNat)).toNat))) (4:Int).toNat).map I),.own A4 ((tkL (tkL bs (qa2,qf2) (ofB (tkL bs (qa1,qf1) (2:Int).toNat)).toNat) (qa4,qf4) (4:Int).toNat).length) c4 3 1 ((tkL (tkL bs (qa2,qf2) (ofB (tkL bs (qa1,qf1) (2:Int).toNat)).toNat) (qa4,qf4) (4:Int).toNat).map I),.blk b2 54 [I 1,.slice A3 ((tkL (tkL bs (qa2,qf2) (ofB (tkL bs (qa1,qf1) (2:Int).toNat)).toNat) (0,(!isBytes (tkL bs (qa2,qf2) (ofB (tkL bs (qa1,qf1) (2:Int).toNat)).toNat))) (4:Int).toNat).length) c3,Str [],I (ofB (tkL (tkL bs (qa2,qf2) (ofB (tkL bs (qa1,qf1) (2:Int).toNat)).toNat) (qa5,qf5) (2:Int).toNat))],.blk b3 54 [I 1,.slice A4 ((tkL (tkL bs (qa2,qf2) (ofB (tkL bs (qa1,qf1) (2:Int).toNat)).toNat) (qa4,qf4) (4:Int).toNat).length) c4,Str [],I (ofB (tkL (tkL bs (qa2,qf2) (ofB (tkL bs (qa1,qf1) (2:Int).toNat)).toNat) (qa6,qf6) (2:Int).toNat))]]) mixed ?_ ?_
 ·refine dG 4 12 255 (fun f w'=>Hz f [(2,pB b1),(63,.agg #[I 1,.slice A3 ((tkL (tkL bs (qa2,qf2) (ofB (tkL bs (qa1,qf1) (2:Int).toNat)).toNat) (0,(!isBytes (tkL bs (qa2,qf2) (ofB (tkL bs (qa1,qf1) (2:Int).toNat)).toNat))) (4:Int).toNat).length) c3,Str [],I (ofB (tkL (tkL bs (qa2,qf2) (ofB (tkL bs (qa1,qf1) (2:Int).toNat)).toNat) (qa5,qf5) (2:Int).toNat)),I 1,.slice A4 ((tkL (tkL bs (qa2,qf2) (ofB (tkL bs (qa1,qf1) (2:Int).toNat)).toNat) (qa4,qf4) (4:Int).toNat).length) c4,Str [],I (ofB (tkL (tkL bs (qa2,qf2) (ofB (tkL bs (qa1,qf1) (2:Int).toNat)).toNat) (qa6,qf6) (2:Int).toNat))]),(64,.slice At9' nt9' ct9'),(68,I (qa3:Int))]∧SH w w' [] [.blk b1 112 Z5,.blk g1 162 [(Z4 Abs bs cbs),I (qa3:Int),.bool qf3],.own A3 ((tkL (tkL bs (qa2,qf2) (ofB (tkL bs (qa1,qf1) (2:Int).toNat)).toNat) (0,(!isBytes (tkL bs (qa2,qf2) (ofB (tkL bs (qa1,qf1) (2:Int).toNat)).toNat))) (4:Int).toNat).length) c3 3 1 ((tkL (tkL bs (qa2,qf2) (ofB (tkL bs (qa1,qf1) (2:Int).toNat)).toNat) (0,(!isBytes (tkL bs (qa2,qf2) (ofB (tkL bs (qa1,qf1) (2:Int).toNat)).toNat))) (4:Int).toNat).map I),.own A4 ((tkL (tkL bs (qa2,qf2) (ofB (tkL bs (qa1,qf1) (2:Int).toNat)).toNat) (qa4,qf4) (4:Int).toNat).length) c4 3 1 ((tkL (tkL bs (qa2,qf2) (ofB (tkL bs (qa1,qf1) (2:Int).toNat)).toNat) (qa4,qf4) (4:Int).toNat).map I),.blk b2 54 [I 1,.slice A3 ((tkL (tkL bs (qa2,qf2) (ofB (tkL bs (qa1,qf1) (2:Int).toNat)).toNat) (0,(!isBytes (tkL bs (qa2,qf2) (ofB (tkL bs (qa1,qf1) (2:Int).toNat)).toNat))) (4:Int).toNat).length) c3,Str [],I (ofB (tkL (tkL bs (qa2,qf2) (ofB (tkL bs (qa1,qf1) (2:Int).toNat)).toNat) (qa5,qf5) (2:Int).toNat))],.blk b3 54 [I 1,.slice A4 ((tkL (tkL bs (qa2,qf2) (ofB (tkL bs (qa1,qf1) (2:Int).toNat)).toNat) (qa4,qf4) (4:Int).toNat).length) c4,Str [],I (ofB (tkL (tkL bs (qa2,qf2) (ofB (tkL bs (qa1,qf1) (2:Int).toNat)).toNat) (qa6,qf6) (2:Int).toNat))]]) ?_ (fun D_13_0=>?_)
  ·rintro f w24 ⟨⟨g5,rfl⟩,hs35⟩
   refine aO 8 r0 (sG [I 1,.slice A3 ((tkL (tkL bs (qa2,qf2) (ofB (tkL bs (qa1,qf1) (2:Int).toNat)).toNat) (0,(!isBytes (tkL bs (qa2,qf2) (ofB (tkL bs (qa1,qf1) (2:Int).toNat)).toNat))) (4:Int).toNat).length) c3,Str [],I (ofB (tkL (tkL bs (qa2,qf2) (ofB (tkL bs (qa1,qf1) (2:Int).toNat)).toNat) (qa5,qf5) (2:Int).toNat)),I 1,.slice A4 ((tkL (tkL bs (qa2,qf2) (ofB (tkL bs (qa1,qf1) (2:Int).toNat)).toNat) (qa4,qf4) (4:Int).toNat).length) c4,Str [],I (ofB (tkL (tkL bs (qa2,qf2) (ofB (tkL bs (qa1,qf1) (2:Int).toNat)).toNat) (qa6,qf6) (2:Int).toNat))] hs35 0 r0 ag112 (fun w25 hs36=>?_))
   refine nk ⟨_,hs36,memi 0 r0,memi 3 r0,memi 4 r0,trivial⟩ (tk (fuel:=0) (is:=[9,10,11]) (.cons r0 (.cons r0 (.cons r0 (.nil)))) (by kernel_rfl) (by kernel_rfl) ⟨_,hs36,memi 0 r0,memi 3 r0,memi 4 r0,trivial⟩ (yA r0 (asg (v:=.slice At9' nt9' ct9') r0) (yA r0 (asg (v:=I (qa3:Int)) r0) (yA r0 (asg (v:=.bool true) r0) (.nil (ad (by kernel_rfl) ?_))))))
   exact⟨(zR r0),(hs36.pk [5,0,1,2,3,4] r0)⟩
  have hs37:=hs30.drew
  refine tk (fuel:=4) (is:=[0,1,2,3,4,5,6,7]) (.cons r0 (.cons r0 (.cons r0 (.cons r0 (.cons r0 (.cons r0 (.cons r0 (.cons r0 (.nil))))))))) (by kernel_rfl) (by kernel_rfl) ⟨_,hs37,memi 1 r0,memi 4 r0,memi 5 r0,trivial⟩ (yB r0 (fun ⟨Lq,hsq,mh0,mh1,mh2,_⟩=>ldgm (vs:=[I 1,.slice A3 ((tkL (tkL bs (qa2,qf2) (ofB (tkL bs (qa1,qf1) (2:Int).toNat)).toNat) (0,(!isBytes (tkL bs (qa2,qf2) (ofB (tkL bs (qa1,qf1) (2:Int).toNat)).toNat))) (4:Int).toNat).length) c3,Str [],I (ofB (tkL (tkL bs (qa2,qf2) (ofB (tkL bs (qa1,qf1) (2:Int).toNat)).toNat) (qa5,qf5) (2:Int).toNat))]) hsq mh1 r0 r0 r0 ag54) (yB r0 (fun ⟨Lq,hsq,mh0,mh1,mh2,_⟩=>ldgm (vs:=[I 1,.slice A4 ((tkL (tkL bs (qa2,qf2) (ofB (tkL bs (qa1,qf1) (2:Int).toNat)).toNat) (qa4,qf4) (4:Int).toNat).length) c4,Str [],I (ofB (tkL (tkL bs (qa2,qf2) (ofB (tkL bs (qa1,qf1) (2:Int).toNat)).toNat) (qa6,qf6) (2:Int).toNat))]) hsq mh2 r0 r0 r0 ag54) (yA r0 (bdv (v:=.agg #[I 1,.slice A3 ((tkL (tkL bs (qa2,qf2) (ofB (tkL bs (qa1,qf1) (2:Int).toNat)).toNat) (0,(!isBytes (tkL bs (qa2,qf2) (ofB (tkL bs (qa1,qf1) (2:Int).toNat)).toNat))) (4:Int).toNat).length) c3,Str [],I (ofB (tkL (tkL bs (qa2,qf2) (ofB (tkL bs (qa1,qf1) (2:Int).toNat)).toNat) (qa5,qf5) (2:Int).toNat)),I 1,.slice A4 ((tkL (tkL bs (qa2,qf2) (ofB (tkL bs (qa1,qf1) (2:Int).toNat)).toNat) (qa4,qf4) (4:Int).toNat).length) c4,Str [],I (ofB (tkL (tkL bs (qa2,qf2) (ofB (tkL bs (qa1,qf1) (2:Int).toNat)).toNat) (qa6,qf6) (2:Int).toNat))]) [(0,.agg #[I 1,.slice A3 ((tkL (tkL bs (qa2,qf2) (ofB (tkL bs (qa1,qf1) (2:Int).toNat)).toNat) (0,(!isBytes (tkL bs (qa2,qf2) (ofB (tkL bs (qa1,qf1) (2:Int).toNat)).toNat))) (4:Int).toNat).length) c3,Str [],I (ofB (tkL (tkL bs (qa2,qf2) (ofB (tkL bs (qa1,qf1) (2:Int).toNat)).toNat) (qa5,qf5) (2:Int).toNat))]),(1,.agg #[I 1,.slice A4 ((tkL (tkL bs (qa2,qf2) (ofB (tkL bs (qa1,qf1) (2:Int).toNat)).toNat) (qa4,qf4) (4:Int).toNat).length) c4,Str [],I (ofB (tkL (tkL bs (qa2,qf2) (ofB (tkL bs (qa1,qf1) (2:Int).toNat)).toNat) (qa6,qf6) (2:Int).toNat))])] r0 (fun _=>by kernel_rfl)) (yA r0 (mv (v:=.slice At9' nt9' ct9') r0) (yA r0 (mv (v:=pB g1) r0) (yA r0 (nc r0) (yA r0 (fa 1 fo162_1 r0) ?_)))))))
  exact yB r0 (fun ⟨Lq,hsq,mh0,mh1,mh2,_⟩=>lM (I (qa3:Int)) hsq mh0 r0 one3) (.nil (alc D_13_0 ⟨(zR r0),hs37⟩))
 rintro f w26 ⟨⟨g6,rfl⟩,hs38⟩
 refine nN ?_
 have hs39:SH w w26 [] [.blk b1 112 [I 1,.slice A3 ((tkL (tkL bs (qa2,qf2) (ofB (tkL bs (qa1,qf1) (2:Int).toNat)).toNat) (0,(!isBytes (tkL bs (qa2,qf2) (ofB (tkL bs (qa1,qf1) (2:Int).toNat)).toNat))) (4:Int).toNat).length) c3,Str [],I (ofB (tkL (tkL bs (qa2,qf2) (ofB (tkL bs (qa1,qf1) (2:Int).toNat)).toNat) (qa5,qf5) (2:Int).toNat)),I 1,.slice A4 ((tkL (tkL bs (qa2,qf2) (ofB (tkL bs (qa1,qf1) (2:Int).toNat)).toNat) (qa4,qf4) (4:Int).toNat).length) c4,Str [],I (ofB (tkL (tkL bs (qa2,qf2) (ofB (tkL bs (qa1,qf1) (2:Int).toNat)).toNat) (qa6,qf6) (2:Int).toNat))],.own A3 ((tkL (tkL bs (qa2,qf2) (ofB (tkL bs (qa1,qf1) (2:Int).toNat)).toNat) (0,(!isBytes (tkL bs (qa2,qf2) (ofB (tkL bs (qa1,qf1) (2:Int).toNat)).toNat))) (4:Int).toNat).length) c3 3 1 ((tkL (tkL bs (qa2,qf2) (ofB (tkL bs (qa1,qf1) (2:Int).toNat)).toNat) (0,(!isBytes (tkL bs (qa2,qf2) (ofB (tkL bs (qa1,qf1) (2:Int).toNat)).toNat))) (4:Int).toNat).map I),.own A4 ((tkL (tkL bs (qa2,qf2) (ofB (tkL bs (qa1,qf1) (2:Int).toNat)).toNat) (qa4,qf4) (4:Int).toNat).length) c4 3 1 ((tkL (tkL bs (qa2,qf2) (ofB (tkL bs (qa1,qf1) (2:Int).toNat)).toNat) (qa4,qf4) (4:Int).toNat).map I)]:=hs38.pk [0,2,3] r0
 refine rt (fret (resC hs39 0 r0 r0 ag112 r0 (.tmp (.tmp (.tmp .nil)))) r0 ?_)
 have e4:headFrom bs=((qa3:Int),true):=by(have hh:=hdI (b:=bs) p3 p6 p9 r0 p12 p15 p18 p21; exact hdI_y hh ‹_› ‹_› ‹_›)
 rw[e4]
 exact⟨A3,c3,A4,c4,At9',nt9',ct9',1,tkL (tkL bs (qa2,qf2) (ofB (tkL bs (qa1,qf1) (2:Int).toNat)).toNat) (0,(!isBytes (tkL bs (qa2,qf2) (ofB (tkL bs (qa1,qf1) (2:Int).toNat)).toNat))) (4:Int).toNat,[],ofB (tkL (tkL bs (qa2,qf2) (ofB (tkL bs (qa1,qf1) (2:Int).toNat)).toNat) (qa5,qf5) (2:Int).toNat),1,tkL (tkL bs (qa2,qf2) (ofB (tkL bs (qa1,qf1) (2:Int).toNat)).toNat) (qa4,qf4) (4:Int).toNat,[],ofB (tkL (tkL bs (qa2,qf2) (ofB (tkL bs (qa1,qf1) (2:Int).toNat)).toNat) (qa6,qf6) (2:Int).toNat),rfl,(hs39.pk [1,2] r0)⟩
theorem stCut2 (s:List UInt8) (t:List UInt8) (w:World) (hs_n:s.length≤2147483648) (ht_n:t.length≤2147483648) (hMl:VarP Tryz.prog w [] "internal/bytealg.MaxLen" isI64):Does Tryz.prog 108 [Str s,Str t] w (fun v w'=>v=.tuple #[Str ((Lib.cut s t).1),Str ((Lib.cut s t).2.1),.bool ((Lib.cut s t).2.2)]∧SH w w' [] []):=by
 obtain ⟨m,hm⟩:=VarP.cell hMl (by kernel_rfl)
 have h:=Tryz.strings_Cut ⟨s.toArray⟩ ⟨t.toArray⟩ m w (by show s.toArray.size<_; rw[List.size_toArray]; omega) hm
 simp only[List.toList_toArray]at h
 exact does_drew ⟨_,_,Tryz.func108,by kernel_rfl,rfl⟩ r0 h

end Go.Proofs.YtbopieehnmljkaaGreatDoor
