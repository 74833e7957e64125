/-
  Part of the proofs over this seat: what each function of the program computes, function by function (the text is written by a program of this hand-in's own).
  Conditions: each theorem states its own.
-/
import Derived.Test.YtklbiemlpkhlhaaGreatDoorPfWalks4
namespace Go.Proofs.YtklbiemlpkhlhaaGreatDoor
open Go.PF Tryz
set_option maxRecDepth 100000
set_option linter.unusedSimpArgs false
set_option linter.unusedVariables false

theorem Np {Acs:aM} {ccs:Nat} (cs:aD) (w:World) (hcs:Sl w [] 1 Acs cs.length ccs (cs.map U)) (hMl:bZ prog w [] "internal/bytealg.MaxLen" l4) (hGp:bZ prog w [] "internal/strconv.uint64pow10" jH) (hEr:bZ prog w [] "strconv.ErrRange" fH) (hEs:bZ prog w [] "strconv.ErrSyntax" fH) (hGk:PA w [] ⟨1,0,none⟩ (jY.map aA)) (hSt:PA w [] ⟨0,0,none⟩ (j5.map aA)):bF prog 3 [.slice Acs cs.length ccs] w (fun v w'=>v=.bool true∧SH w w' [] []):=by
 refine fE (N:=23) func3 r0 (by kernel_rfl) r0 ?_
 have aK:=SH.refl w []
 have BD:cs.length≤9223372036854775807:=cB hcs.cap hcs.cO
 refine sr (tA (.bool false) r0 (nn (sq (sr ?_))))
 refine tm (mA Acs cs ccs) r0 (qt r0 (dK (n:=cs.length) l9 r0) (qt r0 (gtr (k:=.i64) (a:=(cs.length:Int)) (b:=1048576) r0 r0) (nn ?_)))
 refine bI (p:=(1048576:Int)<(cs.length:Int)) r0 (fun h1=>?_) (fun h1=>?_)
 ·refine sr (tA (.bool true) r0 (nn (rt (tR ?_))))
  refine fT (.bool true) r0 ?_
  exact⟨rfl,aK⟩
 ·refine sk (nN (sr (tm (mA Acs cs ccs) r0 (cL r0 (CL (Acs:=Acs) (ccs:=ccs) (cs:=cs) (w:=_) (hcs:=(hcs.aP aK))) ?_))))
  rintro _ w1 ⟨s1,rfl,p1,aE⟩
  replace aE:SH w w1 [] []:=aK.cJ aE
  refine tA (aA s1) r0 (nx (tm (aA s1) r0 (cL r0 (r6 (s:=s1) (w:=_) (hs_n:=(by first | omega | (simp; done) | (simp; omega))) (hMl:=(hMl.aP aE)) (hGp:=(hGp.aP aE)) (hGk:=(hGk.aP aE)) (hSt:=(hSt.aP aE)) (hEr:=(hEr.aP aE)) (hEs:=(hEs.aP aE))) ?_)))
  rintro _ w2 ⟨rfl,aI⟩
  replace aI:SH w w2 [] []:=aE.cJ aI
  refine tA (aA (bL s1)) r0 (nx (tm (aA s1) r0 (cL r0 (DK (s:=s1) (w:=_) (hs_n:=(by first | omega | (simp; done) | (simp; omega)))) ?_)))
  rintro _ w3 ⟨rfl,aN⟩
  replace aN:SH w w3 [] []:=aI.cJ aN
  refine tA (aA (bL s1)) r0 (nn (sq (sr (tm (aA (bL s1)) r0 (tm (aA (bL s1)) r0 ?_)))))
  refine qt r0 (v8 (l:=bL s1) (m:=bL s1) r0 r0) (nn ?_)
  refine bI (p:=bL s1≠bL s1) r0 (fun h2=>absurd h2 (by exact fun h=>h r0)) (fun h2=>?_)
  refine sk (nN (sr (cL r0 (r6 (s:=[115,97,121,32,48,53,48,50,48,48,48,50,10,115,97,121,32,48,49,48,51,54,49,54,101,54,101,48,51,54,49,54,50,54,51,10,115,97,121,32,48,53,48,49,48,48,48,51,48,53,55,56,50,101,54,102,55,50,54,55,48,48,53,48,10]) (w:=_) (hs_n:=(by first | omega | (simp; done) | (simp; omega))) (hMl:=(hMl.aP aN)) (hGp:=(hGp.aP aN)) (hGk:=(hGk.aP aN)) (hSt:=(hSt.aP aN)) (hEr:=(hEr.aP aN)) (hEs:=(hEs.aP aN))) ?_)))
  rintro _ w4 ⟨rfl,aR⟩
  replace aR:SH w w4 [] []:=aN.cJ aR
  refine qt r0 (eqs (l:=bL [115,97,121,32,48,53,48,50,48,48,48,50,10,115,97,121,32,48,49,48,51,54,49,54,101,54,101,48,51,54,49,54,50,54,51,10,115,97,121,32,48,53,48,49,48,48,48,51,48,53,55,56,50,101,54,102,55,50,54,55,48,48,53,48,10]) (m:=[108,111,103,105,110,32,48,53,48,50,10,114,101,113,117,101,115,116,32,48,49,48,48,10,111,112,101,110,32,48,53,48,48,48,48,48,51,48,53,55,56,50,101,54,102,55,50,54,55,48,48,53,48,10,111,112,101,110,10]) r0 r0) (tA (.bool (decide (bL [115,97,121,32,48,53,48,50,48,48,48,50,10,115,97,121,32,48,49,48,51,54,49,54,101,54,101,48,51,54,49,54,50,54,51,10,115,97,121,32,48,53,48,49,48,48,48,51,48,53,55,56,50,101,54,102,55,50,54,55,48,48,53,48,10]=[108,111,103,105,110,32,48,53,48,50,10,114,101,113,117,101,115,116,32,48,49,48,48,10,111,112,101,110,32,48,53,48,48,48,48,48,51,48,53,55,56,50,101,54,102,55,50,54,55,48,48,53,48,10,111,112,101,110,10]))) r0 (nn (rt (fT (.bool (decide (bL [115,97,121,32,48,53,48,50,48,48,48,50,10,115,97,121,32,48,49,48,51,54,49,54,101,54,101,48,51,54,49,54,50,54,51,10,115,97,121,32,48,53,48,49,48,48,48,51,48,53,55,56,50,101,54,102,55,50,54,55,48,48,53,48,10]=[108,111,103,105,110,32,48,53,48,50,10,114,101,113,117,101,115,116,32,48,49,48,48,10,111,112,101,110,32,48,53,48,48,48,48,48,51,48,53,55,56,50,101,54,102,55,50,54,55,48,48,53,48,10,111,112,101,110,10]))) r0 ?_))))
  have e1:(decide (bL [115,97,121,32,48,53,48,50,48,48,48,50,10,115,97,121,32,48,49,48,51,54,49,54,101,54,101,48,51,54,49,54,50,54,51,10,115,97,121,32,48,53,48,49,48,48,48,51,48,53,55,56,50,101,54,102,55,50,54,55,48,48,53,48,10]=[108,111,103,105,110,32,48,53,48,50,10,114,101,113,117,101,115,116,32,48,49,48,48,10,111,112,101,110,32,48,53,48,48,48,48,48,51,48,53,55,56,50,101,54,102,55,50,54,55,48,48,53,48,10,111,112,101,110,10]))=true:=by first | rfl | (simp; done) | exact decide_eq_true Ix
  exact⟨(aS (Value.bool) e1),aR⟩
end Go.Proofs.YtklbiemlpkhlhaaGreatDoor
