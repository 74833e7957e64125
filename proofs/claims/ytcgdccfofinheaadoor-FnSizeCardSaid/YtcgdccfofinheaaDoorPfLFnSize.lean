/-
  Part of the proofs over this seat: what each function of the program computes, function by function (the text is written by a program of this hand-in's own).
  Conditions: each theorem states its own.
-/
import Derived.Test.YtcgdccfofinheaaDoorPfWalks5
namespace Go.Proofs.YtcgdccfofinheaaDoor
open Go.PF
set_option maxRecDepth 100000
set_option linter.unusedSimpArgs false
set_option linter.unusedVariables false

theorem lSize {Acs : Option Addr} {ccs : Nat} (cs : List UInt8) (w : World) (hcs : Sl w [] 1 Acs cs.length ccs (cs.map U)) (hGp : Lib.TabIs Tryd.prog w "internal/strconv.uint64pow10" .u64 Lib.pow10Tab) : Does Tryd.prog 6 [.slice Acs cs.length ccs] w (fun v w' => v = .bool true ∧ SH w w' [] []) := by
 refine fn_enter (N := 80) Tryd.func6 rfl (by kernel_rfl) rfl rfl rfl ?_
 have hs0 : SH w w [] [] := SH.refl w []
 have hcs_m : cs.length ≤ 9223372036854775807 := Nat.le_trans hcs.cap hcs.capMax
 refine sq ?_
 refine rg ?_
 refine q trivial rfl rfl (asg (v := .bool false) rfl) ?_
 refine nl ?_
 refine nN ?_
 refine sq ?_
 refine sq ?_
 refine rg ?_
 refine q trivial rfl rfl (mv (v := .slice Acs cs.length ccs) rfl) ?_
 refine q trivial rfl rfl (lnA (n := cs.length) sl22 rfl) ?_
 refine q trivial rfl rfl (gtr (k := .i64) (a := ((cs.length : Nat) : Int)) (b := 1048576) rfl rfl) ?_
 refine nl ?_
 refine nN ?_
 refine cdd (p := (1048576 : Int) < ((cs.length : Nat) : Int)) rfl (fun h1 => ?_) (fun h1 => ?_)
 · refine sq ?_
   refine rg ?_
   refine q trivial rfl rfl (asg (v := .bool true) rfl) ?_
   refine nl ?_
   refine nN ?_
   refine rt (tR ?_)
   refine fret (v := .bool true) (.tmp .nil) rfl ?_
   exact ⟨rfl, hs0⟩
 · refine sk ?_
   refine nN ?_
   refine sq ?_
   refine rg ?_
   refine q trivial rfl rfl (mv (v := .slice Acs cs.length ccs) rfl) ?_
   refine cl trivial rfl (drawCountSize (Acs := Acs) (ccs := ccs) (cs := cs) (w := _) (hcs := (hcs.up0 hs0))) ?_
   rintro _ w1 ⟨Aq1, cq1, ak1, aq1, an1, apt1, rfl, p1, p2, hs1'⟩
   have hs1 : SH w w1 [] [.own Aq1 aq1.length cq1 3 1 (aq1.map I)] := hs0.call0 hs1'
   clear hs1'
   refine al (v := .agg #[I 0, ns, Str [], I 0]) (cs := [I 0, ns, Str [], I 0]) hs1 tz25 rfl trivial rfl (fun b1 w2 (hs2 : SH w w2 [] [.own Aq1 aq1.length cq1 3 1 (aq1.map I), .blk b1 25 [I 0, ns, Str [], I 0]]) => ?_)
   refine stg (vs := [I ak1, .slice Aq1 aq1.length cq1, Str an1, I apt1]) hs2 1 rfl rfl rfl rfl rfl rfl rfl ag25 trivial (fun w3 (hs3 : SH w w3 [] [.own Aq1 aq1.length cq1 3 1 (aq1.map I), .blk b1 25 [I ak1, .slice Aq1 aq1.length cq1, Str an1, I apt1]]) => ?_)
   refine nl ?_
   refine nN ?_
   refine sq ?_
   refine rg ?_
   refine q trivial rfl rfl (ldg (vs := [I ak1, .slice Aq1 aq1.length cq1, Str an1, I apt1]) hs3 1 rfl rfl rfl rfl ag25) ?_
   refine cl trivial rfl (iCountSize (ak := ak1) (Aaq := Aq1) (caq := cq1) (aq := aq1) (an := an1) (apt := apt1) (w := _) (haq := (hs3.sl0 0 rfl)) (han_n := (by first | omega | (simp; done) | (simp; omega))) (hGp := (tab_up hGp hs3))) ?_
   rintro _ w4 ⟨rfl, hs4'⟩
   have hs4 : SH w w4 [] [.own Aq1 aq1.length cq1 3 1 (aq1.map I), .blk b1 25 [I ak1, .slice Aq1 aq1.length cq1, Str an1, I apt1]] := hs3.call0 hs4'
   clear hs4'
   refine q trivial rfl rfl (mv (v := .tuple #[I (((sizeP ak1 aq1 an1 apt1).1 : Nat) : Int), I (((sizeP ak1 aq1 an1 apt1).2.1 : Nat) : Int), I (((sizeP ak1 aq1 an1 apt1).2.2 : Nat) : Int)]) rfl) ?_
   refine q trivial rfl rfl (xt 0 (v := I (((sizeP ak1 aq1 an1 apt1).1 : Nat) : Int)) rfl rfl) ?_
   refine q trivial rfl rfl (xt 1 (v := I (((sizeP ak1 aq1 an1 apt1).2.1 : Nat) : Int)) rfl rfl) ?_
   refine q trivial rfl rfl (xt 2 (v := I (((sizeP ak1 aq1 an1 apt1).2.2 : Nat) : Int)) rfl rfl) ?_
   refine q trivial rfl rfl (asg (v := I (((sizeP ak1 aq1 an1 apt1).1 : Nat) : Int)) rfl) ?_
   refine q trivial rfl rfl (asg (v := I (((sizeP ak1 aq1 an1 apt1).2.1 : Nat) : Int)) rfl) ?_
   refine q trivial rfl rfl (asg (v := I (((sizeP ak1 aq1 an1 apt1).2.2 : Nat) : Int)) rfl) ?_
   refine nl ?_
   refine nN ?_
   refine sq ?_
   refine rg ?_
   refine q trivial rfl rfl (ldg (vs := [I ak1, .slice Aq1 aq1.length cq1, Str an1, I apt1]) hs4 1 rfl rfl rfl rfl ag25) ?_
   refine cl trivial rfl (sCountSize (ak := ak1) (Aaq := Aq1) (caq := cq1) (aq := aq1) (an := an1) (apt := apt1) (w := _) (haq := (hs4.sl0 0 rfl)) (han_n := (by first | omega | (simp; done) | (simp; omega)))) ?_
   rintro _ w5 ⟨rfl, hs5'⟩
   have hs5 : SH w w5 [] [.own Aq1 aq1.length cq1 3 1 (aq1.map I), .blk b1 25 [I ak1, .slice Aq1 aq1.length cq1, Str an1, I apt1]] := hs4.call0 hs5'
   clear hs5'
   refine q trivial rfl rfl (mv (v := .tuple #[I (((sizeP ak1 aq1 an1 apt1).1 : Nat) : Int), I (((sizeP ak1 aq1 an1 apt1).2.1 : Nat) : Int), I (((sizeP ak1 aq1 an1 apt1).2.2 : Nat) : Int)]) rfl) ?_
   refine q trivial rfl rfl (xt 0 (v := I (((sizeP ak1 aq1 an1 apt1).1 : Nat) : Int)) rfl rfl) ?_
   refine q trivial rfl rfl (xt 1 (v := I (((sizeP ak1 aq1 an1 apt1).2.1 : Nat) : Int)) rfl rfl) ?_
   refine q trivial rfl rfl (xt 2 (v := I (((sizeP ak1 aq1 an1 apt1).2.2 : Nat) : Int)) rfl rfl) ?_
   refine q trivial rfl rfl (asg (v := I (((sizeP ak1 aq1 an1 apt1).1 : Nat) : Int)) rfl) ?_
   refine q trivial rfl rfl (asg (v := I (((sizeP ak1 aq1 an1 apt1).2.1 : Nat) : Int)) rfl) ?_
   refine q trivial rfl rfl (asg (v := I (((sizeP ak1 aq1 an1 apt1).2.2 : Nat) : Int)) rfl) ?_
   refine nl ?_
   refine nN ?_
   refine sq ?_
   refine sq ?_
   refine rg ?_
   refine q trivial rfl rfl (mv (v := I (((sizeP ak1 aq1 an1 apt1).1 : Nat) : Int)) rfl) ?_
   refine q trivial rfl rfl (mv (v := I (((sizeP ak1 aq1 an1 apt1).1 : Nat) : Int)) rfl) ?_
   refine q trivial rfl rfl (nei (k := .i64) (a := (((sizeP ak1 aq1 an1 apt1).1 : Nat) : Int)) (b := (((sizeP ak1 aq1 an1 apt1).1 : Nat) : Int)) rfl rfl) ?_
   refine q trivial rfl rfl (mv (v := .bool (decide ((((sizeP ak1 aq1 an1 apt1).1 : Nat) : Int) ≠ (((sizeP ak1 aq1 an1 apt1).1 : Nat) : Int)))) rfl) ?_
   refine spd (p := (((sizeP ak1 aq1 an1 apt1).1 : Nat) : Int) ≠ (((sizeP ak1 aq1 an1 apt1).1 : Nat) : Int)) 32 rfl (fun h2 => absurd h2 (by exact fun h => h rfl)) (fun h2 => ?_)
   refine q ⟨_, rfl, rfl⟩ rfl rfl (mv (v := I (((sizeP ak1 aq1 an1 apt1).2.1 : Nat) : Int)) rfl) ?_
   refine q ⟨_, rfl, rfl⟩ rfl rfl (mv (v := I (((sizeP ak1 aq1 an1 apt1).2.1 : Nat) : Int)) rfl) ?_
   refine q ⟨_, rfl, rfl⟩ rfl rfl (nei (k := .i64) (a := (((sizeP ak1 aq1 an1 apt1).2.1 : Nat) : Int)) (b := (((sizeP ak1 aq1 an1 apt1).2.1 : Nat) : Int)) rfl rfl) ?_
   refine q trivial rfl rfl (pf (v := .bool (decide ((((sizeP ak1 aq1 an1 apt1).2.1 : Nat) : Int) ≠ (((sizeP ak1 aq1 an1 apt1).2.1 : Nat) : Int)))) rfl rfl) ?_
   refine q trivial rfl rfl (mv (v := .bool (decide ((((sizeP ak1 aq1 an1 apt1).2.1 : Nat) : Int) ≠ (((sizeP ak1 aq1 an1 apt1).2.1 : Nat) : Int)))) rfl) ?_
   refine spd (p := (((sizeP ak1 aq1 an1 apt1).2.1 : Nat) : Int) ≠ (((sizeP ak1 aq1 an1 apt1).2.1 : Nat) : Int)) 37 rfl (fun h3 => absurd h3 (by exact fun h => h rfl)) (fun h3 => ?_)
   refine q ⟨_, rfl, rfl⟩ rfl rfl (mv (v := I (((sizeP ak1 aq1 an1 apt1).2.2 : Nat) : Int)) rfl) ?_
   refine q ⟨_, rfl, rfl⟩ rfl rfl (mv (v := I (((sizeP ak1 aq1 an1 apt1).2.2 : Nat) : Int)) rfl) ?_
   refine q ⟨_, rfl, rfl⟩ rfl rfl (nei (k := .i64) (a := (((sizeP ak1 aq1 an1 apt1).2.2 : Nat) : Int)) (b := (((sizeP ak1 aq1 an1 apt1).2.2 : Nat) : Int)) rfl rfl) ?_
   refine q trivial rfl rfl (pf (v := .bool (decide ((((sizeP ak1 aq1 an1 apt1).2.2 : Nat) : Int) ≠ (((sizeP ak1 aq1 an1 apt1).2.2 : Nat) : Int)))) rfl rfl) ?_
   refine q trivial rfl rfl (mv (v := .bool (decide ((((sizeP ak1 aq1 an1 apt1).2.2 : Nat) : Int) ≠ (((sizeP ak1 aq1 an1 apt1).2.2 : Nat) : Int)))) rfl) ?_
   refine spd (p := (((sizeP ak1 aq1 an1 apt1).2.2 : Nat) : Int) ≠ (((sizeP ak1 aq1 an1 apt1).2.2 : Nat) : Int)) 42 rfl (fun h4 => absurd h4 (by exact fun h => h rfl)) (fun h4 => ?_)
   refine q ⟨_, rfl, rfl⟩ rfl rfl (ldg (vs := [I ak1, .slice Aq1 aq1.length cq1, Str an1, I apt1]) hs5 1 rfl rfl rfl rfl ag25) ?_
   refine cl ⟨_, rfl, rfl⟩ rfl (sAddressValid (ak := ak1) (Aaq := Aq1) (caq := cq1) (aq := aq1) (an := an1) (apt := apt1) (w := _) (haq := (hs5.sl0 0 rfl)) (han_n := (by first | omega | (simp; done) | (simp; omega)))) ?_
   rintro _ w6 ⟨rfl, hs6'⟩
   have hs6 : SH w w6 [] [.own Aq1 aq1.length cq1 3 1 (aq1.map I), .blk b1 25 [I ak1, .slice Aq1 aq1.length cq1, Str an1, I apt1]] := hs5.call0 hs6'
   clear hs6'
   refine q ⟨_, rfl, rfl⟩ rfl rfl (nt (b := addrOk ak1 aq1 an1 apt1) rfl) ?_
   refine q trivial rfl rfl (pf (v := .bool (!(addrOk ak1 aq1 an1 apt1))) rfl rfl) ?_
   refine nl ?_
   refine nN ?_
   refine cd (b := !(addrOk ak1 aq1 an1 apt1)) rfl (fun h5 => ?_) (fun h5 => ?_)
   · have h6 : (addrOk ak1 aq1 an1 apt1) = false := by simpa using h5
     refine sq ?_
     refine rg ?_
     refine q trivial rfl rfl (mv (v := I (((sizeP ak1 aq1 an1 apt1).1 : Nat) : Int)) rfl) ?_
     refine q trivial rfl rfl (mv (v := I (((sizeP ak1 aq1 an1 apt1).1 : Nat) : Int)) rfl) ?_
     refine q trivial rfl rfl (eqi (k := .i64) (a := (((sizeP ak1 aq1 an1 apt1).1 : Nat) : Int)) (b := (((sizeP ak1 aq1 an1 apt1).1 : Nat) : Int)) rfl rfl) ?_
     refine q trivial rfl rfl (mv (v := .bool (decide ((((sizeP ak1 aq1 an1 apt1).1 : Nat) : Int) = (((sizeP ak1 aq1 an1 apt1).1 : Nat) : Int)))) rfl) ?_
     refine spd (p := (((sizeP ak1 aq1 an1 apt1).1 : Nat) : Int) = (((sizeP ak1 aq1 an1 apt1).1 : Nat) : Int)) 50 rfl (fun h7 => ?_) (fun h7 => absurd (by rfl) h7)
     refine q ⟨_, rfl, rfl⟩ rfl rfl (mv (v := I (((sizeP ak1 aq1 an1 apt1).2.1 : Nat) : Int)) rfl) ?_
     refine q ⟨_, rfl, rfl⟩ rfl rfl (mv (v := I (((sizeP ak1 aq1 an1 apt1).2.1 : Nat) : Int)) rfl) ?_
     refine q ⟨_, rfl, rfl⟩ rfl rfl (eqi (k := .i64) (a := (((sizeP ak1 aq1 an1 apt1).2.1 : Nat) : Int)) (b := (((sizeP ak1 aq1 an1 apt1).2.1 : Nat) : Int)) rfl rfl) ?_
     refine q trivial rfl rfl (pt (v := .bool (decide ((((sizeP ak1 aq1 an1 apt1).2.1 : Nat) : Int) = (((sizeP ak1 aq1 an1 apt1).2.1 : Nat) : Int)))) rfl rfl) ?_
     refine q trivial rfl rfl (mv (v := .bool (decide ((((sizeP ak1 aq1 an1 apt1).2.1 : Nat) : Int) = (((sizeP ak1 aq1 an1 apt1).2.1 : Nat) : Int)))) rfl) ?_
     refine spd (p := (((sizeP ak1 aq1 an1 apt1).2.1 : Nat) : Int) = (((sizeP ak1 aq1 an1 apt1).2.1 : Nat) : Int)) 55 rfl (fun h8 => ?_) (fun h8 => absurd (by rfl) h8)
     refine q ⟨_, rfl, rfl⟩ rfl rfl (mv (v := I (((sizeP ak1 aq1 an1 apt1).2.2 : Nat) : Int)) rfl) ?_
     refine q ⟨_, rfl, rfl⟩ rfl rfl (mv (v := I (((sizeP ak1 aq1 an1 apt1).2.2 : Nat) : Int)) rfl) ?_
     refine q ⟨_, rfl, rfl⟩ rfl rfl (eqi (k := .i64) (a := (((sizeP ak1 aq1 an1 apt1).2.2 : Nat) : Int)) (b := (((sizeP ak1 aq1 an1 apt1).2.2 : Nat) : Int)) rfl rfl) ?_
     refine q trivial rfl rfl (pt (v := .bool (decide ((((sizeP ak1 aq1 an1 apt1).2.2 : Nat) : Int) = (((sizeP ak1 aq1 an1 apt1).2.2 : Nat) : Int)))) rfl rfl) ?_
     refine q trivial rfl rfl (asg (v := .bool (decide ((((sizeP ak1 aq1 an1 apt1).2.2 : Nat) : Int) = (((sizeP ak1 aq1 an1 apt1).2.2 : Nat) : Int)))) rfl) ?_
     refine nl ?_
     refine nN ?_
     refine rt (tR ?_)
     refine fret (v := .bool (decide ((((sizeP ak1 aq1 an1 apt1).2.2 : Nat) : Int) = (((sizeP ak1 aq1 an1 apt1).2.2 : Nat) : Int)))) (.tmp .nil) rfl ?_
     have e1 : (decide ((((sizeP ak1 aq1 an1 apt1).2.2 : Nat) : Int) = (((sizeP ak1 aq1 an1 apt1).2.2 : Nat) : Int))) = true := by first | rfl | (simp; done) | (have hsq := size_req (by assumption : addrOk ak1 aq1 an1 apt1 = true); have hsc : (sizeP ak1 aq1 an1 apt1).2.2 = (connT ak1 aq1 an1 apt1).length := rfl; simp [hsq, hsc]; done) | (exfalso; have hsq := size_req (by assumption : addrOk ak1 aq1 an1 apt1 = true); simp_all; done) | (exfalso; have hsq := size_req (by assumption : addrOk ak1 aq1 an1 apt1 = true); omega)
     exact ⟨(congrArg (Value.bool) e1), (hs6.pick [] rfl (by decide))⟩
   · have h9 : (addrOk ak1 aq1 an1 apt1) = true := by simpa using h5
     refine sk ?_
     refine nN ?_
     refine sq ?_
     refine rg ?_
     refine q trivial rfl rfl (ldg (vs := [I ak1, .slice Aq1 aq1.length cq1, Str an1, I apt1]) hs6 1 rfl rfl rfl rfl ag25) ?_
     refine cl trivial rfl (iAddressBytesP (ak := ak1) (Aaq := Aq1) (caq := cq1) (aq := aq1) (an := an1) (apt := apt1) (w := _) (haq := (hs6.sl0 0 rfl)) (han_n := (by first | omega | (simp; done) | (simp; omega)))) ?_
     rintro _ w7 ⟨A1, c1, rfl, hs7'⟩
     have hs7 : SH w w7 [] [.own Aq1 aq1.length cq1 3 1 (aq1.map I), .blk b1 25 [I ak1, .slice Aq1 aq1.length cq1, Str an1, I apt1], .own A1 (((addrP ak1 aq1 an1 apt1).1).length) c1 3 1 (((addrP ak1 aq1 an1 apt1).1).map I)] := hs6.call0 hs7'
     clear hs7'
     refine q trivial rfl rfl (mv (v := .tuple #[.slice A1 (((addrP ak1 aq1 an1 apt1).1).length) c1, .bool ((addrP ak1 aq1 an1 apt1).2)]) rfl) ?_
     refine q trivial rfl rfl (xt 0 (v := .slice A1 (((addrP ak1 aq1 an1 apt1).1).length) c1) rfl rfl) ?_
     refine q trivial rfl rfl (xt 1 (v := .bool ((addrP ak1 aq1 an1 apt1).2)) rfl rfl) ?_
     refine q trivial rfl rfl (asg (v := .slice A1 (((addrP ak1 aq1 an1 apt1).1).length) c1) rfl) ?_
     refine q trivial rfl rfl (asg (v := .bool ((addrP ak1 aq1 an1 apt1).2)) rfl) ?_
     refine nl ?_
     refine nN ?_
     refine sq ?_
     refine rg ?_
     refine q trivial rfl rfl (mv (v := .bool ((addrP ak1 aq1 an1 apt1).2)) rfl) ?_
     refine q trivial rfl rfl (mv (v := .bool ((addrP ak1 aq1 an1 apt1).2)) rfl) ?_
     refine spl (b := (addrP ak1 aq1 an1 apt1).2) 66 rfl (fun h10 => ?_) (fun h10 => ?_)
     · refine q ⟨_, rfl, rfl⟩ rfl rfl (mv (v := I (((sizeP ak1 aq1 an1 apt1).2.1 : Nat) : Int)) rfl) ?_
       refine q ⟨_, rfl, rfl⟩ rfl rfl (mv (v := .slice A1 (((addrP ak1 aq1 an1 apt1).1).length) c1) rfl) ?_
       refine q ⟨_, rfl, rfl⟩ rfl rfl (lnA (n := ((addrP ak1 aq1 an1 apt1).1).length) sl23 rfl) ?_
       refine q ⟨_, rfl, rfl⟩ rfl rfl (add (a := ((((addrP ak1 aq1 an1 apt1).1).length : Nat) : Int)) (b := 3) rfl rfl (by have hsq := size_req (by assumption : addrOk ak1 aq1 an1 apt1 = true); exact ⟨by omega, by omega⟩)) ?_
       refine q ⟨_, rfl, rfl⟩ rfl rfl (eqi (k := .i64) (a := (((sizeP ak1 aq1 an1 apt1).2.1 : Nat) : Int)) (b := ((((addrP ak1 aq1 an1 apt1).1).length : Nat) : Int) + 3) rfl rfl) ?_
       refine q trivial rfl rfl (pt (v := .bool (decide ((((sizeP ak1 aq1 an1 apt1).2.1 : Nat) : Int) = (((((addrP ak1 aq1 an1 apt1).1).length : Nat) : Int) + 3)))) rfl rfl) ?_
       refine q trivial rfl rfl (mv (v := .bool (decide ((((sizeP ak1 aq1 an1 apt1).2.1 : Nat) : Int) = (((((addrP ak1 aq1 an1 apt1).1).length : Nat) : Int) + 3)))) rfl) ?_
       refine spd (p := (((sizeP ak1 aq1 an1 apt1).2.1 : Nat) : Int) = (((((addrP ak1 aq1 an1 apt1).1).length : Nat) : Int) + 3)) 73 rfl (fun h11 => ?_) (fun h11 => ?_)
       · refine q ⟨_, rfl, rfl⟩ rfl rfl (mv (v := I (((sizeP ak1 aq1 an1 apt1).2.2 : Nat) : Int)) rfl) ?_
         refine q ⟨_, rfl, rfl⟩ rfl rfl (ldg (vs := [I ak1, .slice Aq1 aq1.length cq1, Str an1, I apt1]) hs7 1 rfl rfl rfl rfl ag25) ?_
         refine cl ⟨_, rfl, rfl⟩ rfl (iConnectText (ak := ak1) (Aaq := Aq1) (caq := cq1) (aq := aq1) (an := an1) (apt := apt1) (w := _) (haq := (hs7.sl0 0 rfl)) (han_n := (by first | omega | (simp; done) | (simp; omega))) (hGp := (tab_up hGp hs7))) ?_
         rintro _ w8 ⟨rfl, hs8'⟩
         have hs8 : SH w w8 [] [.own Aq1 aq1.length cq1 3 1 (aq1.map I), .blk b1 25 [I ak1, .slice Aq1 aq1.length cq1, Str an1, I apt1], .own A1 (((addrP ak1 aq1 an1 apt1).1).length) c1 3 1 (((addrP ak1 aq1 an1 apt1).1).map I)] := hs7.call0 hs8'
         clear hs8'
         refine q ⟨_, rfl, rfl⟩ rfl rfl (lnS (l := connT ak1 aq1 an1 apt1) st9 rfl) ?_
         refine q ⟨_, rfl, rfl⟩ rfl rfl (eqi (k := .i64) (a := (((sizeP ak1 aq1 an1 apt1).2.2 : Nat) : Int)) (b := (((connT ak1 aq1 an1 apt1).length : Nat) : Int)) rfl rfl) ?_
         refine q trivial rfl rfl (pt (v := .bool (decide ((((sizeP ak1 aq1 an1 apt1).2.2 : Nat) : Int) = (((connT ak1 aq1 an1 apt1).length : Nat) : Int)))) rfl rfl) ?_
         refine q trivial rfl rfl (asg (v := .bool (decide ((((sizeP ak1 aq1 an1 apt1).2.2 : Nat) : Int) = (((connT ak1 aq1 an1 apt1).length : Nat) : Int)))) rfl) ?_
         refine nl ?_
         refine nN ?_
         refine rt ?_
         refine fret (v := .bool (decide ((((sizeP ak1 aq1 an1 apt1).2.2 : Nat) : Int) = (((connT ak1 aq1 an1 apt1).length : Nat) : Int)))) (.tmp .nil) rfl ?_
         have e2 : (decide ((((sizeP ak1 aq1 an1 apt1).2.2 : Nat) : Int) = (((connT ak1 aq1 an1 apt1).length : Nat) : Int))) = true := by first | rfl | (simp; done) | (have hsq := size_req (by assumption : addrOk ak1 aq1 an1 apt1 = true); have hsc : (sizeP ak1 aq1 an1 apt1).2.2 = (connT ak1 aq1 an1 apt1).length := rfl; simp [hsq, hsc]; done) | (exfalso; have hsq := size_req (by assumption : addrOk ak1 aq1 an1 apt1 = true); simp_all; done) | (exfalso; have hsq := size_req (by assumption : addrOk ak1 aq1 an1 apt1 = true); omega)
         exact ⟨(congrArg (Value.bool) e2), (hs8.pick [] rfl (by decide))⟩
       · refine gk false rfl rfl rfl rfl rfl ?_
         refine gk false rfl rfl rfl rfl rfl ?_
         refine gk false rfl rfl rfl rfl rfl ?_
         refine gk false rfl rfl rfl rfl rfl ?_
         refine gk false rfl rfl rfl rfl rfl ?_
         refine q trivial rfl rfl (pf (v := .bool false) rfl rfl) ?_
         refine q trivial rfl rfl (asg (v := .bool false) rfl) ?_
         refine nl ?_
         refine nN ?_
         refine rt ?_
         refine fret (v := .bool false) (.tmp .nil) rfl ?_
         have e3 : false = true := by first | rfl | (simp; done) | (have hsq := size_req (by assumption : addrOk ak1 aq1 an1 apt1 = true); have hsc : (sizeP ak1 aq1 an1 apt1).2.2 = (connT ak1 aq1 an1 apt1).length := rfl; simp [hsq, hsc]; done) | (exfalso; have hsq := size_req (by assumption : addrOk ak1 aq1 an1 apt1 = true); simp_all; done) | (exfalso; have hsq := size_req (by assumption : addrOk ak1 aq1 an1 apt1 = true); omega)
         exact ⟨(congrArg (Value.bool) e3), (hs7.pick [] rfl (by decide))⟩
     · refine gk false rfl rfl rfl rfl rfl ?_
       refine gk false rfl rfl rfl rfl rfl ?_
       refine gk false rfl rfl rfl rfl rfl ?_
       refine gk false rfl rfl rfl rfl rfl ?_
       refine gk false rfl rfl rfl rfl rfl ?_
       refine q trivial rfl rfl (pf (v := .bool false) rfl rfl) ?_
       refine q trivial rfl rfl (mv (v := .bool false) rfl) ?_
       refine gk false rfl rfl rfl rfl rfl ?_
       refine gk false rfl rfl rfl rfl rfl ?_
       refine gk false rfl rfl rfl rfl rfl ?_
       refine gk false rfl rfl rfl rfl rfl ?_
       refine gk false rfl rfl rfl rfl rfl ?_
       refine q trivial rfl rfl (pf (v := .bool false) rfl rfl) ?_
       refine q trivial rfl rfl (asg (v := .bool false) rfl) ?_
       refine nl ?_
       refine nN ?_
       refine rt ?_
       refine fret (v := .bool false) (.tmp .nil) rfl ?_
       have e4 : false = true := by first | rfl | (simp; done) | (have hsq := size_req (by assumption : addrOk ak1 aq1 an1 apt1 = true); have hsc : (sizeP ak1 aq1 an1 apt1).2.2 = (connT ak1 aq1 an1 apt1).length := rfl; simp [hsq, hsc]; done) | (exfalso; have hsq := size_req (by assumption : addrOk ak1 aq1 an1 apt1 = true); simp_all; done) | (exfalso; have hsq := size_req (by assumption : addrOk ak1 aq1 an1 apt1 = true); omega)
       exact ⟨(congrArg (Value.bool) e4), (hs7.pick [] rfl (by decide))⟩

end Go.Proofs.YtcgdccfofinheaaDoor
