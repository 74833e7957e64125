/-
  Part of the proofs over this seat: what each function of the program computes, function by function (the text is written by a program of this hand-in's own).
  Conditions: each theorem states its own.
-/
import Derived.Test.YtogejeniggngjaaDoorPfWalks3
namespace Go.Proofs.YtogejeniggngjaaDoor
open Go.PF
set_option maxRecDepth 100000
set_option linter.unusedSimpArgs false
set_option linter.unusedVariables false

theorem lAllowTwice {Acs : Option Addr} {ccs : Nat} (cs : List UInt8) (w : World) (hcs : Sl w [] 1 Acs cs.length ccs (cs.map U)) (hGp : Lib.TabIs Tryd.prog w "internal/strconv.uint64pow10" .u64 Lib.pow10Tab) : Does Tryd.prog 7 [.slice Acs cs.length ccs] w (fun v w' => v = .bool true ∧ SH w w' [] []) := by
 refine fn_enter (N := 44) Tryd.func7 rfl (by kernel_rfl) rfl rfl rfl ?_
 have hs0 : SH w w [] [] := SH.refl w []
 have hcs_m : cs.length ≤ 9223372036854775807 := Nat.le_trans hcs.cap hcs.capMax
 refine sq ?_
 refine rg ?_
 refine q trivial rfl rfl (asg (v := .bool false) rfl) ?_
 refine nl ?_
 refine nN ?_
 refine sq ?_
 refine sq ?_
 refine rg ?_
 refine q trivial rfl rfl (mv (v := .slice Acs cs.length ccs) rfl) ?_
 refine q trivial rfl rfl (lnA (n := cs.length) sl22 rfl) ?_
 refine q trivial rfl rfl (gtr (k := .i64) (a := ((cs.length : Nat) : Int)) (b := 1048576) rfl rfl) ?_
 refine nl ?_
 refine nN ?_
 refine cdd (p := (1048576 : Int) < ((cs.length : Nat) : Int)) rfl (fun h1 => ?_) (fun h1 => ?_)
 · refine sq ?_
   refine rg ?_
   refine q trivial rfl rfl (asg (v := .bool true) rfl) ?_
   refine nl ?_
   refine nN ?_
   refine rt (tR ?_)
   refine fret (v := .bool true) (.tmp .nil) rfl ?_
   exact ⟨rfl, hs0⟩
 · refine sk ?_
   refine nN ?_
   refine sq ?_
   refine rg ?_
   refine q trivial rfl rfl (mv (v := .slice Acs cs.length ccs) rfl) ?_
   refine cl trivial rfl (drawRulesAllow (Acs := Acs) (ccs := ccs) (cs := cs) (w := _) (hcs := (hcs.up0 hs0))) ?_
   rintro _ w1 ⟨A1, c1, Aq1, cq1, r1, ak1, aq1, an1, apt1, rfl, p1, p2, p3, p4, hs1'⟩
   have hs1 : SH w w1 [] [.own A1 r1.length c1 33 3 (r1.flatMap gRule), .own Aq1 aq1.length cq1 3 1 (aq1.map I)] := hs0.call0 hs1'
   clear hs1'
   refine q trivial rfl rfl (mv (v := .tuple #[.slice A1 r1.length c1, .agg #[I ak1, .slice Aq1 aq1.length cq1, Str an1, I apt1]]) rfl) ?_
   refine q trivial rfl rfl (xt 0 (v := .slice A1 r1.length c1) rfl rfl) ?_
   refine q trivial rfl rfl (xt 1 (v := .agg #[I ak1, .slice Aq1 aq1.length cq1, Str an1, I apt1]) rfl rfl) ?_
   refine al (v := .agg #[I 0, ns, Str [], I 0]) (cs := [I 0, ns, Str [], I 0]) hs1 tz26 rfl trivial rfl (fun b1 w2 (hs2 : SH w w2 [] [.own A1 r1.length c1 33 3 (r1.flatMap gRule), .own Aq1 aq1.length cq1 3 1 (aq1.map I), .blk b1 26 [I 0, ns, Str [], I 0]]) => ?_)
   refine q trivial rfl rfl (asg (v := .slice A1 r1.length c1) rfl) ?_
   refine stg (vs := [I ak1, .slice Aq1 aq1.length cq1, Str an1, I apt1]) hs2 2 rfl rfl rfl rfl rfl rfl rfl ag26 trivial (fun w3 (hs3 : SH w w3 [] [.own A1 r1.length c1 33 3 (r1.flatMap gRule), .own Aq1 aq1.length cq1 3 1 (aq1.map I), .blk b1 26 [I ak1, .slice Aq1 aq1.length cq1, Str an1, I apt1]]) => ?_)
   refine nl ?_
   refine nN ?_
   refine sq ?_
   refine rg ?_
   refine q trivial rfl rfl (mv (v := .slice A1 r1.length c1) rfl) ?_
   refine q trivial rfl rfl (ldg (vs := [I ak1, .slice Aq1 aq1.length cq1, Str an1, I apt1]) hs3 2 rfl rfl rfl rfl ag26) ?_
   refine cl trivial rfl (iRulesAllow (Azs := A1) (czs := c1) (zs := r1) (ak := ak1) (Aaq := Aq1) (caq := cq1) (aq := aq1) (an := an1) (apt := apt1) (w := _) (hzs := (hs3.sl0 0 rfl)) (hzs_e := (by exact fun u hu => Nat.le_trans (p2 u (by first | exact hu | simpa using hu)) (by decide))) (haq := (hs3.sl0 1 rfl)) (han_n := (by first | omega | (simp; done) | (simp; omega))) (hGp := (tab_up hGp hs3))) ?_
   rintro _ w4 ⟨rfl, hs4'⟩
   have hs4 : SH w w4 [] [.own A1 r1.length c1 33 3 (r1.flatMap gRule), .own Aq1 aq1.length cq1 3 1 (aq1.map I), .blk b1 26 [I ak1, .slice Aq1 aq1.length cq1, Str an1, I apt1]] := hs3.call0 hs4'
   clear hs4'
   refine q trivial rfl rfl (asg (v := .bool (rulesAllow r1 ak1 aq1 an1 apt1)) rfl) ?_
   refine nl ?_
   refine nN ?_
   refine sq ?_
   refine rg ?_
   refine q trivial rfl rfl (mv (v := .slice A1 r1.length c1) rfl) ?_
   refine q trivial rfl rfl (ldg (vs := [I ak1, .slice Aq1 aq1.length cq1, Str an1, I apt1]) hs4 2 rfl rfl rfl rfl ag26) ?_
   refine cl trivial rfl (sRulesAllow (Azs := A1) (czs := c1) (zs := r1) (ak := ak1) (Aaq := Aq1) (caq := cq1) (aq := aq1) (an := an1) (apt := apt1) (w := _) (hzs := (hs4.sl0 0 rfl)) (hzs_e := (by exact fun u hu => Nat.le_trans (p2 u (by first | exact hu | simpa using hu)) (by decide))) (haq := (hs4.sl0 1 rfl)) (han_n := (by first | omega | (simp; done) | (simp; omega)))) ?_
   rintro _ w5 ⟨rfl, hs5'⟩
   have hs5 : SH w w5 [] [.own A1 r1.length c1 33 3 (r1.flatMap gRule), .own Aq1 aq1.length cq1 3 1 (aq1.map I), .blk b1 26 [I ak1, .slice Aq1 aq1.length cq1, Str an1, I apt1]] := hs4.call0 hs5'
   clear hs5'
   refine q trivial rfl rfl (asg (v := .bool (rulesAllow r1 ak1 aq1 an1 apt1)) rfl) ?_
   refine nl ?_
   refine nN ?_
   refine sq ?_
   refine sq ?_
   refine rg ?_
   refine q trivial rfl rfl (mv (v := .bool (rulesAllow r1 ak1 aq1 an1 apt1)) rfl) ?_
   refine q trivial rfl rfl (mv (v := .bool (rulesAllow r1 ak1 aq1 an1 apt1)) rfl) ?_
   refine q trivial rfl rfl (neb (a := (rulesAllow r1 ak1 aq1 an1 apt1)) (b := (rulesAllow r1 ak1 aq1 an1 apt1)) tb4 rfl rfl) ?_
   refine q trivial rfl rfl (mv (v := .bool (decide ((rulesAllow r1 ak1 aq1 an1 apt1) ≠ (rulesAllow r1 ak1 aq1 an1 apt1)))) rfl) ?_
   refine spd (p := (rulesAllow r1 ak1 aq1 an1 apt1) ≠ (rulesAllow r1 ak1 aq1 an1 apt1)) 24 rfl (fun h2 => absurd h2 (by exact fun h => h rfl)) (fun h2 => ?_)
   refine q ⟨_, rfl, rfl⟩ rfl rfl (mv (v := .bool (rulesAllow r1 ak1 aq1 an1 apt1)) rfl) ?_
   refine q ⟨_, rfl, rfl⟩ rfl rfl (nt (b := rulesAllow r1 ak1 aq1 an1 apt1) rfl) ?_
   refine q trivial rfl rfl (pf (v := .bool (!(rulesAllow r1 ak1 aq1 an1 apt1))) rfl rfl) ?_
   refine q trivial rfl rfl (mv (v := .bool (!(rulesAllow r1 ak1 aq1 an1 apt1))) rfl) ?_
   refine spl (b := !(rulesAllow r1 ak1 aq1 an1 apt1)) 28 rfl (fun h3 => ?_) (fun h3 => ?_)
   · have h4 : (rulesAllow r1 ak1 aq1 an1 apt1) = false := by simpa using h3
     refine gk true rfl rfl rfl rfl rfl ?_
     refine gk true rfl rfl rfl rfl rfl ?_
     refine gk true rfl rfl rfl rfl rfl ?_
     refine gk true rfl rfl rfl rfl rfl ?_
     refine q trivial rfl rfl (pt (v := .bool true) rfl rfl) ?_
     refine nl ?_
     refine nN ?_
     refine cdt rfl ?_
     refine sq ?_
     refine rg ?_
     refine q trivial rfl rfl (mv (v := .bool (rulesAllow r1 ak1 aq1 an1 apt1)) rfl) ?_
     refine q trivial rfl rfl (mv (v := .bool (rulesAllow r1 ak1 aq1 an1 apt1)) rfl) ?_
     refine q trivial rfl rfl (eqb (a := (rulesAllow r1 ak1 aq1 an1 apt1)) (b := (rulesAllow r1 ak1 aq1 an1 apt1)) tb4 rfl rfl) ?_
     refine q trivial rfl rfl (asg (v := .bool (decide ((rulesAllow r1 ak1 aq1 an1 apt1) = (rulesAllow r1 ak1 aq1 an1 apt1)))) rfl) ?_
     refine nl ?_
     refine nN ?_
     refine rt (tR ?_)
     refine fret (v := .bool (decide ((rulesAllow r1 ak1 aq1 an1 apt1) = (rulesAllow r1 ak1 aq1 an1 apt1)))) (.tmp .nil) rfl ?_
     have e1 : (decide ((rulesAllow r1 ak1 aq1 an1 apt1) = (rulesAllow r1 ak1 aq1 an1 apt1))) = true := by first | rfl | (simp; done) | exact allow_twice (by assumption) (by assumption)
     exact ⟨(congrArg (Value.bool) e1), (hs5.pick [] rfl (by decide))⟩
   · have h5 : (rulesAllow r1 ak1 aq1 an1 apt1) = true := by simpa using h3
     refine q ⟨_, rfl, rfl⟩ rfl rfl (mv (v := .slice A1 r1.length c1) rfl) ?_
     refine q ⟨_, rfl, rfl⟩ rfl rfl (lnA (n := r1.length) sl23 rfl) ?_
     refine q ⟨_, rfl, rfl⟩ rfl rfl (mul (a := 2) (b := ((r1.length : Nat) : Int)) rfl rfl (by exact ⟨by omega, by omega⟩)) ?_
     refine q ⟨_, rfl, rfl⟩ rfl rfl (gtr (k := .i64) (a := 2 * ((r1.length : Nat) : Int)) (b := 6) rfl rfl) ?_
     refine q trivial rfl rfl (pf (v := .bool (decide ((6 : Int) < (2 * ((r1.length : Nat) : Int))))) rfl rfl) ?_
     refine nl ?_
     refine nN ?_
     refine cdd (p := (6 : Int) < (2 * ((r1.length : Nat) : Int))) rfl (fun h6 => ?_) (fun h6 => ?_)
     · refine sq ?_
       refine rg ?_
       refine q trivial rfl rfl (mv (v := .bool (rulesAllow r1 ak1 aq1 an1 apt1)) rfl) ?_
       refine q trivial rfl rfl (mv (v := .bool (rulesAllow r1 ak1 aq1 an1 apt1)) rfl) ?_
       refine q trivial rfl rfl (eqb (a := (rulesAllow r1 ak1 aq1 an1 apt1)) (b := (rulesAllow r1 ak1 aq1 an1 apt1)) tb4 rfl rfl) ?_
       refine q trivial rfl rfl (asg (v := .bool (decide ((rulesAllow r1 ak1 aq1 an1 apt1) = (rulesAllow r1 ak1 aq1 an1 apt1)))) rfl) ?_
       refine nl ?_
       refine nN ?_
       refine rt (tR ?_)
       refine fret (v := .bool (decide ((rulesAllow r1 ak1 aq1 an1 apt1) = (rulesAllow r1 ak1 aq1 an1 apt1)))) (.tmp .nil) rfl ?_
       have e2 : (decide ((rulesAllow r1 ak1 aq1 an1 apt1) = (rulesAllow r1 ak1 aq1 an1 apt1))) = true := by first | rfl | (simp; done) | exact allow_twice (by assumption) (by assumption)
       exact ⟨(congrArg (Value.bool) e2), (hs5.pick [] rfl (by decide))⟩
     · refine sk ?_
       refine nN ?_
       refine sq ?_
       refine ra (fun w' => ∃ L, SH w w' [] L ∧ (.blk b1 26 [I ak1, .slice Aq1 aq1.length cq1, Str an1, I apt1]) ∈ L ∧ True) mixed ?_
       have hs6 := hs5.drew
       refine tk (fuel := 5) (is := [1, 3, 5]) (.cons rfl (.cons rfl (.cons rfl (.nil)))) (by kernel_rfl) (by kernel_rfl) ⟨_, hs6, memi 2 rfl, trivial⟩ ?_
       refine .op trivial rfl rfl (fun wq _ => mv (v := .slice A1 r1.length c1) rfl) ?_
       refine .op trivial rfl rfl (fun wq _ => mv (v := .slice A1 r1.length c1) rfl) ?_
       refine .op trivial rfl rfl (fun wq ⟨Lq, hsq, mh0, _⟩ => ldgm (vs := [I ak1, .slice Aq1 aq1.length cq1, Str an1, I apt1]) hsq mh0 rfl rfl rfl ag26) ?_
       refine .nil ?_
       refine a1 (i := 0) (by kernel_rfl) ?_
       refine one_ rfl ?_
       refine bsk hs6 sl23 [] [] trivial rfl (fun b_8_0 w6 (hs7 : SH w w6 [] [.own A1 r1.length c1 33 3 (r1.flatMap gRule), .own Aq1 aq1.length cq1 3 1 (aq1.map I), .blk b1 26 [I ak1, .slice Aq1 aq1.length cq1, Str an1, I apt1], .own (some ⟨b_8_0, 0, none⟩) (([] : List (List UInt8 × Int × Bool)).length) 0 33 3 (([] : List (List UInt8 × Int × Bool)).flatMap gRule)]) => ?_)
       refine nl (kq ⟨_, hs7, memi 2 rfl, trivial⟩ ?_)
       refine a1 (i := 2) (by kernel_rfl) ?_
       refine one_ rfl ?_
       refine apf (g := gRule) (ys := ([] : List (List UInt8 × Int × Bool))) (zs := r1) hs7 3 rfl sl23 rfl (by decide) rfl rfl (hs7.sl0 0 rfl) (fun _ => rfl) (by unfold maxLen; first | omega | (simp; done) | (simp; omega)) (by first | omega | (simp; done) | (simp; omega)) trivial rfl (fun A_8_2 c_8_2 w7 (hs8 : SH w w7 [] [.own A1 r1.length c1 33 3 (r1.flatMap gRule), .own Aq1 aq1.length cq1 3 1 (aq1.map I), .blk b1 26 [I ak1, .slice Aq1 aq1.length cq1, Str an1, I apt1], .own A_8_2 r1.length c_8_2 33 3 (r1.flatMap gRule)]) => ?_)
       refine nl (kq ⟨_, hs8, memi 2 rfl, trivial⟩ ?_)
       refine a1 (i := 4) (by kernel_rfl) ?_
       refine one_ rfl ?_
       refine apf (g := gRule) (ys := r1) (zs := r1) hs8 3 rfl sl23 rfl (by decide) rfl rfl (hs8.sl0 0 rfl) (fun _ => rfl) (by unfold maxLen; first | omega | (simp; done) | (simp; omega)) (by first | omega | (simp; done) | (simp; omega)) trivial rfl (fun A_8_4 c_8_4 w8 (hs9 : SH w w8 [] [.own A1 r1.length c1 33 3 (r1.flatMap gRule), .own Aq1 aq1.length cq1 3 1 (aq1.map I), .blk b1 26 [I ak1, .slice Aq1 aq1.length cq1, Str an1, I apt1], .own A_8_4 ((r1 ++ r1).length) c_8_4 33 3 ((r1 ++ r1).flatMap gRule)]) => ?_)
       refine nl (kq ⟨_, hs9, memi 2 rfl, trivial⟩ ?_)
       refine a1 (i := 6) (by kernel_rfl) ?_
       refine one_ rfl ?_
       refine cl trivial rfl (iRulesAllow (Azs := A_8_4) (czs := c_8_4) (zs := r1 ++ r1) (ak := ak1) (Aaq := Aq1) (caq := cq1) (aq := aq1) (an := an1) (apt := apt1) (w := _) (hzs := (hs9.sl0 3 rfl)) (hzs_e := (by exact fun u hu => Nat.le_trans (p2 u (by first | exact hu | simpa using hu)) (by decide))) (haq := (hs9.sl0 1 rfl)) (han_n := (by first | omega | (simp; done) | (simp; omega))) (hGp := (tab_up hGp hs9))) ?_
       rintro _ w9 ⟨rfl, hs10'⟩
       have hs10 : SH w w9 [] [.own A1 r1.length c1 33 3 (r1.flatMap gRule), .own Aq1 aq1.length cq1 3 1 (aq1.map I), .blk b1 26 [I ak1, .slice Aq1 aq1.length cq1, Str an1, I apt1], .own A_8_4 ((r1 ++ r1).length) c_8_4 33 3 ((r1 ++ r1).flatMap gRule)] := hs9.call0 hs10'
       clear hs10'
       refine nl (kq ⟨_, hs10, memi 2 rfl, trivial⟩ ?_)
       refine tk (fuel := 0) (is := [7]) (.cons rfl (.nil)) (by kernel_rfl) (by kernel_rfl) ⟨_, hs10, memi 2 rfl, trivial⟩ ?_
       refine .op trivial rfl rfl (fun wq _ => asg (v := .bool (rulesAllow (r1 ++ r1) ak1 aq1 an1 apt1)) rfl) ?_
       refine .nil ?_
       refine ad (by kernel_rfl) ?_
       refine nN ?_
       have hs11 : SH w w9 [] [] := hs10.pick [] rfl (by decide)
       refine rt ?_
       refine fret (v := .bool (rulesAllow (r1 ++ r1) ak1 aq1 an1 apt1)) (.tmp .nil) rfl ?_
       have e3 : (rulesAllow (r1 ++ r1) ak1 aq1 an1 apt1) = true := by first | rfl | (simp; done) | exact allow_twice (by assumption) (by assumption)
       exact ⟨(congrArg (Value.bool) e3), hs11⟩

end Go.Proofs.YtogejeniggngjaaDoor
