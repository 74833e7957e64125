/-
  Part of the proofs over this seat: what each function of the program computes, function by function (the text is written by a program of this hand-in's own).
  Conditions: each theorem states its own.
-/
import Derived.Test.YtbopieehnmljkaaGreatDoorPfWalks4
namespace Go.Proofs.YtbopieehnmljkaaGreatDoor
open Go.PF
set_option maxRecDepth 100000
set_option linter.unusedSimpArgs false
set_option linter.unusedVariables false

theorem lExactExecute (s:List UInt8) (w:World) (hMl:VarP Tryz.prog w [] "internal/bytealg.MaxLen" isI64) (hGp:VarP Tryz.prog w [] "internal/strconv.uint64pow10" isPow) (hEr:VarP Tryz.prog w [] "strconv.ErrRange" isIfc) (hEs:VarP Tryz.prog w [] "strconv.ErrSyntax" isIfc) (hGk:PA w [] ⟨1,0,none⟩ (kindTs.map Str)) (hSt:PA w [] ⟨0,0,none⟩ (stateTs.map Str)):Does Tryz.prog 3 [Str s] w (fun v w'=>v=.bool true∧SH w w' [] []):=by
 refine fE (N:=15) Tryz.func3 r0 (by kernel_rfl) r0 ?_
 have hs0:=SH.refl w []
 refine sr (tA Z6 r0 (nn (sq (sr ?_))))
 refine tm (Str s) r0 (qt r0 (lnS (l:=s) st9 r0) (qt r0 (gtr (k:=.i64) (a:=(s.length:Int)) (b:=1048576) r0 r0) (nn ?_)))
 refine cdd (p:=(1048576:Int)<(s.length:Int)) r0 (fun h1=>?_) (fun h1=>?_)
 ·refine sr (tA Z35 r0 (nn (rt (tR ?_))))
  refine fT Z35 r0 ?_
  exact⟨rfl,hs0⟩
 ·refine sk (nN (sr (tm (Str s) r0 (cL r0 (sExecute (s:=s) (w:=_) (hs_n:=(by first | omega | (simp; done) | (simp; omega)))) ?_))))
  rintro _ w1 ⟨rfl,hs1⟩
  replace hs1:SH w w1 [] []:=hs0.call0 hs1
  refine tA (Str (execT s)) r0 (nx (tm (Str s) r0 (cL r0 (iExecute (s:=s) (w:=_) (hs_n:=(by first | omega | (simp; done) | (simp; omega))) (hMl:=(hMl.up0 hs1)) (hGp:=(hGp.up0 hs1)) (hGk:=(hGk.up0 hs1)) (hSt:=(hSt.up0 hs1)) (hEr:=(hEr.up0 hs1)) (hEs:=(hEs.up0 hs1))) ?_)))
  rintro _ w2 ⟨rfl,hs2⟩
  replace hs2:SH w w2 [] []:=hs1.call0 hs2
  refine tA (Str (execT s)) r0 (nn (sq (sr (tm (Str (execT s)) r0 (tm (Str (execT s)) r0 ?_)))))
  refine qt r0 (nes (l:=execT s) (m:=execT s) r0 r0) (nn ?_)
  refine cdd (p:=execT s≠execT s) r0 (fun h2=>absurd h2 (by exact fun h=>h r0)) (fun h2=>?_)
  refine sk (nN (sr (tA Z35 r0 (nn (rt ?_)))))
  refine fT Z35 r0 ?_
  exact⟨rfl,hs2⟩
end Go.Proofs.YtbopieehnmljkaaGreatDoor
