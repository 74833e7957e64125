/-
  Part of the proofs over this seat: what each function of the program computes, function by function (the text is written by a program of this hand-in's own).
  Conditions: each theorem states its own.
-/
import Derived.Test.YtogejeniggngjaaDoorPfWalks3
namespace Go.Proofs.YtogejeniggngjaaDoor
open Go.PF
set_option maxRecDepth 100000
set_option linter.unusedSimpArgs false
set_option linter.unusedVariables false

theorem lAllowPort {Acs : Option Addr} {ccs : Nat} (cs : List UInt8) (w : World) (hcs : Sl w [] 1 Acs cs.length ccs (cs.map U)) (hGp : Lib.TabIs Tryd.prog w "internal/strconv.uint64pow10" .u64 Lib.pow10Tab) : Does Tryd.prog 5 [.slice Acs cs.length ccs] w (fun v w' => v = .bool true ∧ SH w w' [] []) := by
 refine fn_enter (N := 58) Tryd.func5 rfl (by kernel_rfl) rfl rfl rfl ?_
 have hs0 : SH w w [] [] := SH.refl w []
 have hcs_m : cs.length ≤ 9223372036854775807 := Nat.le_trans hcs.cap hcs.capMax
 refine sq ?_
 refine rg ?_
 refine q trivial rfl rfl (asg (v := .bool false) rfl) ?_
 refine nl ?_
 refine nN ?_
 refine sq ?_
 refine sq ?_
 refine rg ?_
 refine q trivial rfl rfl (mv (v := .slice Acs cs.length ccs) rfl) ?_
 refine q trivial rfl rfl (lnA (n := cs.length) sl22 rfl) ?_
 refine q trivial rfl rfl (gtr (k := .i64) (a := ((cs.length : Nat) : Int)) (b := 1048576) rfl rfl) ?_
 refine nl ?_
 refine nN ?_
 refine cdd (p := (1048576 : Int) < ((cs.length : Nat) : Int)) rfl (fun h1 => ?_) (fun h1 => ?_)
 · refine sq ?_
   refine rg ?_
   refine q trivial rfl rfl (asg (v := .bool true) rfl) ?_
   refine nl ?_
   refine nN ?_
   refine rt (tR ?_)
   refine fret (v := .bool true) (.tmp .nil) rfl ?_
   exact ⟨rfl, hs0⟩
 · refine sk ?_
   refine nN ?_
   refine sq ?_
   refine rg ?_
   refine q trivial rfl rfl (mv (v := .slice Acs cs.length ccs) rfl) ?_
   refine cl trivial rfl (drawRulesAllow (Acs := Acs) (ccs := ccs) (cs := cs) (w := _) (hcs := (hcs.up0 hs0))) ?_
   rintro _ w1 ⟨A1, c1, Aq1, cq1, r1, ak1, aq1, an1, apt1, rfl, p1, p2, p3, p4, hs1'⟩
   have hs1 : SH w w1 [] [.own A1 r1.length c1 33 3 (r1.flatMap gRule), .own Aq1 aq1.length cq1 3 1 (aq1.map I)] := hs0.call0 hs1'
   clear hs1'
   refine q trivial rfl rfl (mv (v := .tuple #[.slice A1 r1.length c1, .agg #[I ak1, .slice Aq1 aq1.length cq1, Str an1, I apt1]]) rfl) ?_
   refine q trivial rfl rfl (xt 0 (v := .slice A1 r1.length c1) rfl rfl) ?_
   refine q trivial rfl rfl (xt 1 (v := .agg #[I ak1, .slice Aq1 aq1.length cq1, Str an1, I apt1]) rfl rfl) ?_
   refine al (v := .agg #[I 0, ns, Str [], I 0]) (cs := [I 0, ns, Str [], I 0]) hs1 tz26 rfl trivial rfl (fun b1 w2 (hs2 : SH w w2 [] [.own A1 r1.length c1 33 3 (r1.flatMap gRule), .own Aq1 aq1.length cq1 3 1 (aq1.map I), .blk b1 26 [I 0, ns, Str [], I 0]]) => ?_)
   refine q trivial rfl rfl (asg (v := .slice A1 r1.length c1) rfl) ?_
   refine stg (vs := [I ak1, .slice Aq1 aq1.length cq1, Str an1, I apt1]) hs2 2 rfl rfl rfl rfl rfl rfl rfl ag26 trivial (fun w3 (hs3 : SH w w3 [] [.own A1 r1.length c1 33 3 (r1.flatMap gRule), .own Aq1 aq1.length cq1 3 1 (aq1.map I), .blk b1 26 [I ak1, .slice Aq1 aq1.length cq1, Str an1, I apt1]]) => ?_)
   refine nl ?_
   refine nN ?_
   refine sq ?_
   refine rg ?_
   refine q trivial rfl rfl (mv (v := .slice A1 r1.length c1) rfl) ?_
   refine q trivial rfl rfl (ldg (vs := [I ak1, .slice Aq1 aq1.length cq1, Str an1, I apt1]) hs3 2 rfl rfl rfl rfl ag26) ?_
   refine cl trivial rfl (iRulesAllow (Azs := A1) (czs := c1) (zs := r1) (ak := ak1) (Aaq := Aq1) (caq := cq1) (aq := aq1) (an := an1) (apt := apt1) (w := _) (hzs := (hs3.sl0 0 rfl)) (hzs_e := (by first | assumption | (simp; done) | exact fun u hu => Nat.le_trans (by first | exact p1 u hu | exact p2 u hu | exact p3 u hu) (by decide) | (intro u hu; simp at hu; simp [hu]))) (haq := (hs3.sl0 1 rfl)) (han_n := (by first | omega | (simp; done) | (simp; omega))) (hGp := (tab_up hGp hs3))) ?_
   rintro _ w4 ⟨rfl, hs4'⟩
   have hs4 : SH w w4 [] [.own A1 r1.length c1 33 3 (r1.flatMap gRule), .own Aq1 aq1.length cq1 3 1 (aq1.map I), .blk b1 26 [I ak1, .slice Aq1 aq1.length cq1, Str an1, I apt1]] := hs3.call0 hs4'
   clear hs4'
   refine q trivial rfl rfl (asg (v := .bool (rulesAllow r1 ak1 aq1 an1 apt1)) rfl) ?_
   refine nl ?_
   refine nN ?_
   refine sq ?_
   refine rg ?_
   refine q trivial rfl rfl (mv (v := .slice A1 r1.length c1) rfl) ?_
   refine q trivial rfl rfl (ldg (vs := [I ak1, .slice Aq1 aq1.length cq1, Str an1, I apt1]) hs4 2 rfl rfl rfl rfl ag26) ?_
   refine cl trivial rfl (sRulesAllow (Azs := A1) (czs := c1) (zs := r1) (ak := ak1) (Aaq := Aq1) (caq := cq1) (aq := aq1) (an := an1) (apt := apt1) (w := _) (hzs := (hs4.sl0 0 rfl)) (hzs_e := (by first | assumption | (simp; done) | exact fun u hu => Nat.le_trans (by first | exact p1 u hu | exact p2 u hu | exact p3 u hu) (by decide) | (intro u hu; simp at hu; simp [hu]))) (haq := (hs4.sl0 1 rfl)) (han_n := (by first | omega | (simp; done) | (simp; omega)))) ?_
   rintro _ w5 ⟨rfl, hs5'⟩
   have hs5 : SH w w5 [] [.own A1 r1.length c1 33 3 (r1.flatMap gRule), .own Aq1 aq1.length cq1 3 1 (aq1.map I), .blk b1 26 [I ak1, .slice Aq1 aq1.length cq1, Str an1, I apt1]] := hs4.call0 hs5'
   clear hs5'
   refine q trivial rfl rfl (asg (v := .bool (rulesAllow r1 ak1 aq1 an1 apt1)) rfl) ?_
   refine nl ?_
   refine nN ?_
   refine sq ?_
   refine sq ?_
   refine rg ?_
   refine q trivial rfl rfl (mv (v := .bool (rulesAllow r1 ak1 aq1 an1 apt1)) rfl) ?_
   refine q trivial rfl rfl (mv (v := .bool (rulesAllow r1 ak1 aq1 an1 apt1)) rfl) ?_
   refine q trivial rfl rfl (neb (a := (rulesAllow r1 ak1 aq1 an1 apt1)) (b := (rulesAllow r1 ak1 aq1 an1 apt1)) tb4 rfl rfl) ?_
   refine q trivial rfl rfl (mv (v := .bool (decide ((rulesAllow r1 ak1 aq1 an1 apt1) ≠ (rulesAllow r1 ak1 aq1 an1 apt1)))) rfl) ?_
   refine spd (p := (rulesAllow r1 ak1 aq1 an1 apt1) ≠ (rulesAllow r1 ak1 aq1 an1 apt1)) 26 rfl (fun h2 => absurd h2 (by exact fun h => h rfl)) (fun h2 => ?_)
   refine q ⟨_, rfl, rfl⟩ rfl rfl (ldg (vs := [I ak1, .slice Aq1 aq1.length cq1, Str an1, I apt1]) hs5 2 rfl rfl rfl rfl ag26) ?_
   refine cl ⟨_, rfl, rfl⟩ rfl (sAddressValid (ak := ak1) (Aaq := Aq1) (caq := cq1) (aq := aq1) (an := an1) (apt := apt1) (w := _) (haq := (hs5.sl0 1 rfl)) (han_n := (by first | omega | (simp; done) | (simp; omega)))) ?_
   rintro _ w6 ⟨rfl, hs6'⟩
   have hs6 : SH w w6 [] [.own A1 r1.length c1 33 3 (r1.flatMap gRule), .own Aq1 aq1.length cq1 3 1 (aq1.map I), .blk b1 26 [I ak1, .slice Aq1 aq1.length cq1, Str an1, I apt1]] := hs5.call0 hs6'
   clear hs6'
   refine q ⟨_, rfl, rfl⟩ rfl rfl (nt (b := addrOk ak1 aq1 an1 apt1) rfl) ?_
   refine q trivial rfl rfl (pf (v := .bool (!(addrOk ak1 aq1 an1 apt1))) rfl rfl) ?_
   refine q trivial rfl rfl (mv (v := .bool (!(addrOk ak1 aq1 an1 apt1))) rfl) ?_
   refine spl (b := !(addrOk ak1 aq1 an1 apt1)) 31 rfl (fun h3 => ?_) (fun h3 => ?_)
   · have h4 : (addrOk ak1 aq1 an1 apt1) = false := by simpa using h3
     refine gk true rfl rfl rfl rfl rfl ?_
     refine gk true rfl rfl rfl rfl rfl ?_
     refine gk true rfl rfl rfl rfl rfl ?_
     refine q trivial rfl rfl (pt (v := .bool true) rfl rfl) ?_
     refine nl ?_
     refine nN ?_
     refine cdt rfl ?_
     refine sq ?_
     refine rg ?_
     refine q trivial rfl rfl (mv (v := .bool (rulesAllow r1 ak1 aq1 an1 apt1)) rfl) ?_
     refine q trivial rfl rfl (mv (v := .bool (rulesAllow r1 ak1 aq1 an1 apt1)) rfl) ?_
     refine q trivial rfl rfl (eqb (a := (rulesAllow r1 ak1 aq1 an1 apt1)) (b := (rulesAllow r1 ak1 aq1 an1 apt1)) tb4 rfl rfl) ?_
     refine q trivial rfl rfl (asg (v := .bool (decide ((rulesAllow r1 ak1 aq1 an1 apt1) = (rulesAllow r1 ak1 aq1 an1 apt1)))) rfl) ?_
     refine nl ?_
     refine nN ?_
     refine rt (tR ?_)
     refine fret (v := .bool (decide ((rulesAllow r1 ak1 aq1 an1 apt1) = (rulesAllow r1 ak1 aq1 an1 apt1)))) (.tmp .nil) rfl ?_
     have e1 : (decide ((rulesAllow r1 ak1 aq1 an1 apt1) = (rulesAllow r1 ak1 aq1 an1 apt1))) = true := by first | rfl | (simp; done) | (have y1 := allow_port (by assumption : addrOk ak1 aq1 an1 apt1 = true); have y2 := allow_port2 (by assumption : addrOk ak1 aq1 an1 apt1 = true); simp_all; done)
     exact ⟨(congrArg (Value.bool) e1), (hs6.pick [] rfl (by decide))⟩
   · have h5 : (addrOk ak1 aq1 an1 apt1) = true := by simpa using h3
     refine q ⟨_, rfl, rfl⟩ rfl rfl (fa 3 fo26_3 rfl) ?_
     refine q ⟨_, rfl, rfl⟩ rfl rfl (ld (v := I apt1) hs6 2 rfl rfl rfl one3) ?_
     refine q ⟨_, rfl, rfl⟩ rfl rfl (eqi (k := .i64) (a := apt1) (b := 0) rfl rfl) ?_
     refine q trivial rfl rfl (pf (v := .bool (decide (apt1 = 0))) rfl rfl) ?_
     refine nl ?_
     refine nN ?_
     refine cdd (p := apt1 = 0) rfl (fun h6 => ?_) (fun h6 => ?_)
     · refine sq ?_
       refine rg ?_
       refine q trivial rfl rfl (mv (v := .bool (rulesAllow r1 ak1 aq1 an1 apt1)) rfl) ?_
       refine q trivial rfl rfl (mv (v := .bool (rulesAllow r1 ak1 aq1 an1 apt1)) rfl) ?_
       refine q trivial rfl rfl (eqb (a := (rulesAllow r1 ak1 aq1 an1 apt1)) (b := (rulesAllow r1 ak1 aq1 an1 apt1)) tb4 rfl rfl) ?_
       refine q trivial rfl rfl (asg (v := .bool (decide ((rulesAllow r1 ak1 aq1 an1 apt1) = (rulesAllow r1 ak1 aq1 an1 apt1)))) rfl) ?_
       refine nl ?_
       refine nN ?_
       refine rt (tR ?_)
       refine fret (v := .bool (decide ((rulesAllow r1 ak1 aq1 an1 apt1) = (rulesAllow r1 ak1 aq1 an1 apt1)))) (.tmp .nil) rfl ?_
       have e2 : (decide ((rulesAllow r1 ak1 aq1 an1 apt1) = (rulesAllow r1 ak1 aq1 an1 apt1))) = true := by first | rfl | (simp; done) | (have y1 := allow_port (by assumption : addrOk ak1 aq1 an1 apt1 = true); have y2 := allow_port2 (by assumption : addrOk ak1 aq1 an1 apt1 = true); simp_all; done)
       exact ⟨(congrArg (Value.bool) e2), (hs6.pick [] rfl (by decide))⟩
     · refine sk ?_
       refine nN ?_
       refine sq ?_
       refine rg ?_
       refine q trivial rfl rfl (fa 3 fo26_3 rfl) ?_
       refine q trivial rfl rfl (ld (v := I apt1) hs6 2 rfl rfl rfl one3) ?_
       refine q trivial rfl rfl (bdv (v := .agg #[Str [], I apt1, .bool true]) [(1, I apt1), (2, .bool true)] rfl (fun _ => by kernel_rfl)) ?_
       refine bsk hs6 sl23 [.agg #[Str [], I apt1, .bool true]] [Str [], I apt1, .bool true] trivial rfl (fun b2 w7 (hs7 : SH w w7 [] [.own A1 r1.length c1 33 3 (r1.flatMap gRule), .own Aq1 aq1.length cq1 3 1 (aq1.map I), .blk b1 26 [I ak1, .slice Aq1 aq1.length cq1, Str an1, I apt1], .own (some ⟨b2, 0, none⟩) (([(([], apt1, true) : List UInt8 × Int × Bool)] : List (List UInt8 × Int × Bool)).length) 1 33 3 (([(([], apt1, true) : List UInt8 × Int × Bool)] : List (List UInt8 × Int × Bool)).flatMap gRule)]) => ?_)
       refine q trivial rfl rfl (ldg (vs := [I ak1, .slice Aq1 aq1.length cq1, Str an1, I apt1]) hs7 2 rfl rfl rfl rfl ag26) ?_
       refine cl trivial rfl (iRulesAllow (Azs := (some ⟨b2, 0, none⟩)) (czs := 1) (zs := ([(([], apt1, true) : List UInt8 × Int × Bool)] : List (List UInt8 × Int × Bool))) (ak := ak1) (Aaq := Aq1) (caq := cq1) (aq := aq1) (an := an1) (apt := apt1) (w := _) (hzs := (hs7.sl0 3 rfl)) (hzs_e := (by first | assumption | (simp; done) | exact fun u hu => Nat.le_trans (by first | exact p1 u hu | exact p2 u hu | exact p3 u hu) (by decide) | (intro u hu; simp at hu; simp [hu]))) (haq := (hs7.sl0 1 rfl)) (han_n := (by first | omega | (simp; done) | (simp; omega))) (hGp := (tab_up hGp hs7))) ?_
       rintro _ w8 ⟨rfl, hs8'⟩
       have hs8 : SH w w8 [] [.own A1 r1.length c1 33 3 (r1.flatMap gRule), .own Aq1 aq1.length cq1 3 1 (aq1.map I), .blk b1 26 [I ak1, .slice Aq1 aq1.length cq1, Str an1, I apt1], .own (some ⟨b2, 0, none⟩) (([(([], apt1, true) : List UInt8 × Int × Bool)] : List (List UInt8 × Int × Bool)).length) 1 33 3 (([(([], apt1, true) : List UInt8 × Int × Bool)] : List (List UInt8 × Int × Bool)).flatMap gRule)] := hs7.call0 hs8'
       clear hs8'
       refine q trivial rfl rfl (asg (v := .bool (rulesAllow ([(([], apt1, true) : List UInt8 × Int × Bool)] : List (List UInt8 × Int × Bool)) ak1 aq1 an1 apt1)) rfl) ?_
       refine nl ?_
       refine nN ?_
       have hs9 : SH w w8 [] [.own Aq1 aq1.length cq1 3 1 (aq1.map I), .blk b1 26 [I ak1, .slice Aq1 aq1.length cq1, Str an1, I apt1]] := hs8.pick [1, 2] rfl (by decide)
       refine sq ?_
       refine rg ?_
       refine q trivial rfl rfl (fa 3 fo26_3 rfl) ?_
       refine q trivial rfl rfl (ld (v := I apt1) hs9 1 rfl rfl rfl one3) ?_
       refine q trivial rfl rfl (rem (a := apt1) (b := 65535) rfl rfl (by have haf := addrOk_fit (by assumption); omega) (by omega)) ?_
       refine q trivial rfl rfl (add (a := apt1 % 65535) (b := 1) rfl rfl (by have haf := addrOk_fit (by assumption); exact ⟨by omega, by omega⟩)) ?_
       refine q trivial rfl rfl (bdv (v := .agg #[Str [], I ((apt1 % 65535) + 1), .bool true]) [(1, I ((apt1 % 65535) + 1)), (2, .bool true)] rfl (fun _ => by kernel_rfl)) ?_
       refine bsk hs9 sl23 [.agg #[Str [], I ((apt1 % 65535) + 1), .bool true]] [Str [], I ((apt1 % 65535) + 1), .bool true] trivial rfl (fun b3 w9 (hs10 : SH w w9 [] [.own Aq1 aq1.length cq1 3 1 (aq1.map I), .blk b1 26 [I ak1, .slice Aq1 aq1.length cq1, Str an1, I apt1], .own (some ⟨b3, 0, none⟩) (([(([], (apt1 % 65535) + 1, true) : List UInt8 × Int × Bool)] : List (List UInt8 × Int × Bool)).length) 1 33 3 (([(([], (apt1 % 65535) + 1, true) : List UInt8 × Int × Bool)] : List (List UInt8 × Int × Bool)).flatMap gRule)]) => ?_)
       refine q trivial rfl rfl (ldg (vs := [I ak1, .slice Aq1 aq1.length cq1, Str an1, I apt1]) hs10 1 rfl rfl rfl rfl ag26) ?_
       refine cl trivial rfl (iRulesAllow (Azs := (some ⟨b3, 0, none⟩)) (czs := 1) (zs := ([(([], (apt1 % 65535) + 1, true) : List UInt8 × Int × Bool)] : List (List UInt8 × Int × Bool))) (ak := ak1) (Aaq := Aq1) (caq := cq1) (aq := aq1) (an := an1) (apt := apt1) (w := _) (hzs := (hs10.sl0 2 rfl)) (hzs_e := (by first | assumption | (simp; done) | exact fun u hu => Nat.le_trans (by first | exact p1 u hu | exact p2 u hu | exact p3 u hu) (by decide) | (intro u hu; simp at hu; simp [hu]))) (haq := (hs10.sl0 0 rfl)) (han_n := (by first | omega | (simp; done) | (simp; omega))) (hGp := (tab_up hGp hs10))) ?_
       rintro _ w10 ⟨rfl, hs11'⟩
       have hs11 : SH w w10 [] [.own Aq1 aq1.length cq1 3 1 (aq1.map I), .blk b1 26 [I ak1, .slice Aq1 aq1.length cq1, Str an1, I apt1], .own (some ⟨b3, 0, none⟩) (([(([], (apt1 % 65535) + 1, true) : List UInt8 × Int × Bool)] : List (List UInt8 × Int × Bool)).length) 1 33 3 (([(([], (apt1 % 65535) + 1, true) : List UInt8 × Int × Bool)] : List (List UInt8 × Int × Bool)).flatMap gRule)] := hs10.call0 hs11'
       clear hs11'
       refine q trivial rfl rfl (asg (v := .bool (rulesAllow ([(([], (apt1 % 65535) + 1, true) : List UInt8 × Int × Bool)] : List (List UInt8 × Int × Bool)) ak1 aq1 an1 apt1)) rfl) ?_
       refine nl ?_
       refine nN ?_
       refine sq ?_
       refine rg ?_
       refine q trivial rfl rfl (mv (v := .bool (rulesAllow ([(([], apt1, true) : List UInt8 × Int × Bool)] : List (List UInt8 × Int × Bool)) ak1 aq1 an1 apt1)) rfl) ?_
       refine q trivial rfl rfl (mv (v := .bool (rulesAllow ([(([], apt1, true) : List UInt8 × Int × Bool)] : List (List UInt8 × Int × Bool)) ak1 aq1 an1 apt1)) rfl) ?_
       refine spl (b := rulesAllow ([(([], apt1, true) : List UInt8 × Int × Bool)] : List (List UInt8 × Int × Bool)) ak1 aq1 an1 apt1) 54 rfl (fun h7 => ?_) (fun h7 => ?_)
       · refine q ⟨_, rfl, rfl⟩ rfl rfl (mv (v := .bool (rulesAllow ([(([], (apt1 % 65535) + 1, true) : List UInt8 × Int × Bool)] : List (List UInt8 × Int × Bool)) ak1 aq1 an1 apt1)) rfl) ?_
         refine q ⟨_, rfl, rfl⟩ rfl rfl (nt (b := rulesAllow ([(([], (apt1 % 65535) + 1, true) : List UInt8 × Int × Bool)] : List (List UInt8 × Int × Bool)) ak1 aq1 an1 apt1) rfl) ?_
         refine q trivial rfl rfl (pt (v := .bool (!(rulesAllow ([(([], (apt1 % 65535) + 1, true) : List UInt8 × Int × Bool)] : List (List UInt8 × Int × Bool)) ak1 aq1 an1 apt1))) rfl rfl) ?_
         refine q trivial rfl rfl (asg (v := .bool (!(rulesAllow ([(([], (apt1 % 65535) + 1, true) : List UInt8 × Int × Bool)] : List (List UInt8 × Int × Bool)) ak1 aq1 an1 apt1))) rfl) ?_
         refine nl ?_
         refine nN ?_
         refine rt ?_
         refine fret (v := .bool (!(rulesAllow ([(([], (apt1 % 65535) + 1, true) : List UInt8 × Int × Bool)] : List (List UInt8 × Int × Bool)) ak1 aq1 an1 apt1))) (.tmp .nil) rfl ?_
         have e3 : (!(rulesAllow ([(([], (apt1 % 65535) + 1, true) : List UInt8 × Int × Bool)] : List (List UInt8 × Int × Bool)) ak1 aq1 an1 apt1)) = true := by first | rfl | (simp; done) | (have y1 := allow_port (by assumption : addrOk ak1 aq1 an1 apt1 = true); have y2 := allow_port2 (by assumption : addrOk ak1 aq1 an1 apt1 = true); simp_all; done)
         exact ⟨(congrArg (Value.bool) e3), (hs11.pick [] rfl (by decide))⟩
       · refine gk false rfl rfl rfl rfl rfl ?_
         refine gk false rfl rfl rfl rfl rfl ?_
         refine q trivial rfl rfl (pf (v := .bool false) rfl rfl) ?_
         refine q trivial rfl rfl (asg (v := .bool false) rfl) ?_
         refine nl ?_
         refine nN ?_
         refine rt ?_
         refine fret (v := .bool false) (.tmp .nil) rfl ?_
         have e4 : false = true := by first | rfl | (simp; done) | (have y1 := allow_port (by assumption : addrOk ak1 aq1 an1 apt1 = true); have y2 := allow_port2 (by assumption : addrOk ak1 aq1 an1 apt1 = true); simp_all; done)
         exact ⟨(congrArg (Value.bool) e4), (hs11.pick [] rfl (by decide))⟩

end Go.Proofs.YtogejeniggngjaaDoor
