/-
  Part of the proofs over this seat: what each function of the program computes, function by function (the text is written by a program of this hand-in's own).
  Conditions: each theorem states its own.
-/
import Derived.Test.YtklbiemlpkhlhaaGreatDoorPfWalks4
namespace Go.Proofs.YtklbiemlpkhlhaaGreatDoor
open Go.PF Tryz
set_option maxRecDepth 100000
set_option linter.unusedSimpArgs false
set_option linter.unusedVariables false

theorem Nq {Acs:aM} {ccs:Nat} (cs:aD) (w:World) (hcs:Sl w [] 1 Acs cs.length ccs (cs.map U)) (hMl:bZ prog w [] "internal/bytealg.MaxLen" l4) (hGp:bZ prog w [] "internal/strconv.uint64pow10" jH) (hEr:bZ prog w [] "strconv.ErrRange" fH) (hEs:bZ prog w [] "strconv.ErrSyntax" fH) (hGk:PA w [] ⟨1,0,none⟩ (jY.map aA)) (hSt:PA w [] ⟨0,0,none⟩ (j5.map aA)):bF prog 5 [.slice Acs cs.length ccs] w (fun v w'=>v=.bool true∧SH w w' [] []):=by
 refine fE (N:=50) func5 r0 (by kernel_rfl) r0 ?_
 have aK:=SH.refl w []
 have BD:cs.length≤9223372036854775807:=cB hcs.cap hcs.cO
 refine sr (tA (.bool false) r0 (nn (sq (sr ?_))))
 refine tm (mA Acs cs ccs) r0 (qt r0 (dK (n:=cs.length) l9 r0) (qt r0 (gtr (k:=.i64) (a:=(cs.length:Int)) (b:=1048576) r0 r0) (nn ?_)))
 refine bI (p:=(1048576:Int)<(cs.length:Int)) r0 (fun h1=>?_) (fun h1=>?_)
 ·refine sr (tA (.bool true) r0 (nn (rt (tR ?_))))
  refine fT (.bool true) r0 ?_
  exact⟨rfl,aK⟩
 ·refine sk (nN (sr (tm (mA Acs cs ccs) r0 (cL r0 (CL (Acs:=Acs) (ccs:=ccs) (cs:=cs) (w:=_) (hcs:=(hcs.aP aK))) ?_))))
  rintro _ w1 ⟨s1,rfl,p1,aE⟩
  replace aE:SH w w1 [] []:=aK.cJ aE
  refine tA (aA s1) r0 (nx (tm (aA s1) r0 (cL r0 (r6 (s:=s1) (w:=_) (hs_n:=(by first | omega | (simp; done) | (have hcl:=qG s1; have hxl:=rT (s:=dE s1); have hll:=r8 (bL (dE s1)); (try simp only[bH,bP,bK,dV]); omega))) (hMl:=(hMl.aP aE)) (hGp:=(hGp.aP aE)) (hGk:=(hGk.aP aE)) (hSt:=(hSt.aP aE)) (hEr:=(hEr.aP aE)) (hEs:=(hEs.aP aE))) ?_)))
  rintro _ w2 ⟨rfl,aI⟩
  replace aI:SH w w2 [] []:=aE.cJ aI
  refine tA (aA (bL s1)) r0 (nx (tm (aA s1) r0 (cL r0 (DK (s:=s1) (w:=_) (hs_n:=(by first | omega | (simp; done) | (have hcl:=qG s1; have hxl:=rT (s:=dE s1); have hll:=r8 (bL (dE s1)); (try simp only[bH,bP,bK,dV]); omega)))) ?_)))
  rintro _ w3 ⟨rfl,aN⟩
  replace aN:SH w w3 [] []:=aI.cJ aN
  refine tA (aA (bL s1)) r0 (nn (sq (sr (tm (aA (bL s1)) r0 (tm (aA (bL s1)) r0 ?_)))))
  refine qt r0 (v8 (l:=bL s1) (m:=bL s1) r0 r0) (tm (.bool (decide (bL s1≠bL s1))) r0 ?_)
  refine fF (p:=bL s1≠bL s1) 21 r0 (fun h2=>absurd h2 (by exact fun h=>h r0)) (fun h2=>?_)
  refine q ⟨_,rfl,rfl⟩ r0 r0 (mv (v:=aA s1) r0) (q ⟨_,rfl,rfl⟩ r0 r0 (gG (l:=s1) dI r0) (q ⟨_,rfl,rfl⟩ r0 r0 (add (a:=(s1.length:Int)) (b:=4) r0 r0 (by first | (exact⟨by omega,by omega⟩) | (have hcl:=qG s1; have hxl:=rT (s:=dE s1); have hll:=r8 (bL (dE s1)); (try simp only[bH,bP,bK,dV]); exact⟨by omega,by omega⟩))) (q ⟨_,rfl,rfl⟩ r0 r0 (gtr (k:=.i64) (a:=(s1.length:Int)+4) (b:=400) r0 r0) (qt r0 (pf (v:=.bool (decide ((400:Int)<((s1.length:Int)+4)))) r0 r0) (nn ?_)))))
  refine bI (p:=(400:Int)<((s1.length:Int)+4)) r0 (fun h3=>?_) (fun h3=>?_)
  ·refine sr (tm (aA (bL s1)) r0 (tm (aA (bL s1)) r0 (qt r0 (eqs (l:=bL s1) (m:=bL s1) r0 r0) (tA (.bool (decide (bL s1=bL s1))) r0 (nn ?_)))))
   refine rt (tR ?_)
   refine fT (.bool (decide (bL s1=bL s1))) r0 ?_
   have e1:(decide (bL s1=bL s1))=true:=by first | rfl | (simp; done) | (have e9_:((((bL (dE s1)).length:Nat):Int)-(((k7 (bL (dE s1))).length:Nat):Int)).toNat=(bL (dE s1)).length-(k7 (bL (dE s1))).length:=(by omega); rw[e9_]; exact decide_eq_true (VW (by omega)))
   exact⟨(aS (Value.bool) e1),aN⟩
  ·refine sk (nN (sr (tm (aA s1) r0 (cL r0 (U1 (s:=s1) (w:=_) (hs_n:=(by first | omega | (simp; done) | (have hcl:=qG s1; have hxl:=rT (s:=dE s1); have hll:=r8 (bL (dE s1)); (try simp only[bH,bP,bK,dV]); omega)))) ?_))))
   rintro _ w4 ⟨rfl,aR⟩
   replace aR:SH w w4 [] []:=aN.cJ aR
   refine tA (aA (dE s1)) r0 (nx (tm (aA (dE s1)) r0 (cL r0 (r6 (s:=dE s1) (w:=_) (hs_n:=(by first | omega | (simp; done) | (have hcl:=qG s1; have hxl:=rT (s:=dE s1); have hll:=r8 (bL (dE s1)); (try simp only[bH,bP,bK,dV]); omega))) (hMl:=(hMl.aP aR)) (hGp:=(hGp.aP aR)) (hGk:=(hGk.aP aR)) (hSt:=(hSt.aP aR)) (hEr:=(hEr.aP aR)) (hEs:=(hEs.aP aR))) ?_)))
   rintro _ w5 ⟨rfl,aZ⟩
   replace aZ:SH w w5 [] []:=aR.cJ aZ
   refine tA (aA (bL (dE s1))) r0 (nx (tm (aA (bL (dE s1))) r0 (cL r0 (Nr (s:=bL (dE s1)) (w:=_) (hs_n:=(by first | omega | (simp; done) | (have hcl:=qG s1; have hxl:=rT (s:=dE s1); have hll:=r8 (bL (dE s1)); (try simp only[bH,bP,bK,dV]); omega)))) ?_)))
   rintro _ w6 ⟨rfl,bG⟩
   replace bG:SH w w6 [] []:=aZ.cJ bG
   refine tA (aA (k7 (bL (dE s1)))) r0 (nn (sq (rq (fun w'=>SH w w' [] []) mixed (by kernel_rfl) bG.drew (qA r0 (mv (v:=aA (dE s1)) r0) (qA r0 (cat (l:=dE s1) (m:=[122,122,122,10]) r0 r0 (by first | omega | (have hcl:=qG s1; have hxl:=rT (s:=dE s1); have hll:=r8 (bL (dE s1)); (try simp only[bH,bP,bK,dV]); omega))) (qc (aA (bL ((dE s1)++[122,122,122,10]))) trivial r0 (fun wq aU=>(r6 (s:=(dE s1)++[122,122,122,10]) (w:=_) (hs_n:=(by first | omega | (simp; done) | (have hcl:=qG s1; have hxl:=rT (s:=dE s1); have hll:=r8 (bL (dE s1)); (try simp only[bH,bP,bK,dV]); omega))) (hMl:=(hMl.aP aU)) (hGp:=(hGp.aP aU)) (hGk:=(hGk.aP aU)) (hSt:=(hSt.aP aU)) (hEr:=(hEr.aP aU)) (hEs:=(hEs.aP aU))).mono (fun v w' h=>⟨h.1,by simpa using aU.cJ h.2⟩)) ?_))))))
   refine qA r0 (mv (v:=aA (bL (dE s1))) r0) (qA r0 (mv (v:=aA (bL (dE s1))) r0) (qA r0 (gG (l:=bL (dE s1)) dI r0) (qA r0 (mv (v:=aA (k7 (bL (dE s1)))) r0) (qA r0 (gG (l:=k7 (bL (dE s1))) dI r0) (qA r0 (sub (a:=(((bL (dE s1)).length:Nat):Int)) (b:=(((k7 (bL (dE s1))).length:Nat):Int)) r0 r0 (by(have hcl:=qG s1; have hxl:=rT (s:=dE s1); have hll:=r8 (bL (dE s1)); (try simp only[bH,bP,bK,dV]); exact⟨by omega,by omega⟩))) (qA r0 (xU (l:=bL (dE s1)) (((((bL (dE s1)).length:Nat):Int)-(((k7 (bL (dE s1))).length:Nat):Int)).toNat) dI r0 (jK (x:=(((bL (dE s1)).length:Nat):Int)-(((k7 (bL (dE s1))).length:Nat):Int)) (by first | omega | (have hcl:=qG s1; have hxl:=rT (s:=dE s1); have hll:=r8 (bL (dE s1)); (try simp only[bH,bP,bK,dV]); omega))) (by first | omega | (have hcl:=qG s1; have hxl:=rT (s:=dE s1); have hll:=r8 (bL (dE s1)); (try simp only[bH,bP,bK,dV]); omega))) (qA r0 (cat (l:=(bL (dE s1)).take (((((bL (dE s1)).length:Nat):Int)-(((k7 (bL (dE s1))).length:Nat):Int)).toNat)) (m:=[119,104,97,116,10]) r0 r0 (by first | omega | (have hcl:=qG s1; have hxl:=rT (s:=dE s1); have hll:=r8 (bL (dE s1)); (try simp only[bH,bP,bK,dV]); omega))) ?_)))))))
   refine qA r0 (mv (v:=aA (k7 (bL (dE s1)))) r0) (qA r0 (cat (l:=((bL (dE s1)).take (((((bL (dE s1)).length:Nat):Int)-(((k7 (bL (dE s1))).length:Nat):Int)).toNat))++[119,104,97,116,10]) (m:=k7 (bL (dE s1))) r0 r0 (by first | omega | (have hcl:=qG s1; have hxl:=rT (s:=dE s1); have hll:=r8 (bL (dE s1)); (try simp only[bH,bP,bK,dV]); omega))) (qA r0 (eqs (l:=bL ((dE s1)++[122,122,122,10])) (m:=(((bL (dE s1)).take (((((bL (dE s1)).length:Nat):Int)-(((k7 (bL (dE s1))).length:Nat):Int)).toNat))++[119,104,97,116,10])++(k7 (bL (dE s1)))) r0 r0) (qA r0 (fW (v:=.bool (decide (bL ((dE s1)++[122,122,122,10])=(((bL (dE s1)).take (((((bL (dE s1)).length:Nat):Int)-(((k7 (bL (dE s1))).length:Nat):Int)).toNat))++[119,104,97,116,10])++(k7 (bL (dE s1)))))) r0) (qn (fun w7 bU=>?_)))))
   refine nN (rt (fT (.bool (decide (bL ((dE s1)++[122,122,122,10])=(((bL (dE s1)).take (((((bL (dE s1)).length:Nat):Int)-(((k7 (bL (dE s1))).length:Nat):Int)).toNat))++[119,104,97,116,10])++(k7 (bL (dE s1)))))) r0 ?_))
   have e2:(decide (bL ((dE s1)++[122,122,122,10])=(((bL (dE s1)).take (((((bL (dE s1)).length:Nat):Int)-(((k7 (bL (dE s1))).length:Nat):Int)).toNat))++[119,104,97,116,10])++(k7 (bL (dE s1)))))=true:=by first | rfl | (simp; done) | (have e9_:((((bL (dE s1)).length:Nat):Int)-(((k7 (bL (dE s1))).length:Nat):Int)).toNat=(bL (dE s1)).length-(k7 (bL (dE s1))).length:=(by omega); rw[e9_]; exact decide_eq_true (VW (by omega)))
   exact⟨(aS (Value.bool) e2),bU⟩
end Go.Proofs.YtklbiemlpkhlhaaGreatDoor
