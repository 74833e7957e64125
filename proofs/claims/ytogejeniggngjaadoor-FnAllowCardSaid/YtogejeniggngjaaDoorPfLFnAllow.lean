/-
  Part of the proofs over this seat: what each function of the program computes, function by function (the text is written by a program of this hand-in's own).
  Conditions: each theorem states its own.
-/
import Derived.Test.YtogejeniggngjaaDoorPfWalks3
namespace Go.Proofs.YtogejeniggngjaaDoor
open Go.PF
set_option maxRecDepth 100000
set_option linter.unusedSimpArgs false
set_option linter.unusedVariables false

theorem lAllow {Acs : Option Addr} {ccs : Nat} (cs : List UInt8) (w : World) (hcs : Sl w [] 1 Acs cs.length ccs (cs.map U)) (hGp : Lib.TabIs Tryd.prog w "internal/strconv.uint64pow10" .u64 Lib.pow10Tab) : Does Tryd.prog 3 [.slice Acs cs.length ccs] w (fun v w' => v = .bool true ∧ SH w w' [] []) := by
 refine fn_enter (N := 65) Tryd.func3 rfl (by kernel_rfl) rfl rfl rfl ?_
 have hs0 : SH w w [] [] := SH.refl w []
 have hcs_m : cs.length ≤ 9223372036854775807 := Nat.le_trans hcs.cap hcs.capMax
 refine sq ?_
 refine rg ?_
 refine q trivial rfl rfl (asg (v := .bool false) rfl) ?_
 refine nl ?_
 refine nN ?_
 refine sq ?_
 refine sq ?_
 refine rg ?_
 refine q trivial rfl rfl (mv (v := .slice Acs cs.length ccs) rfl) ?_
 refine q trivial rfl rfl (lnA (n := cs.length) sl22 rfl) ?_
 refine q trivial rfl rfl (gtr (k := .i64) (a := ((cs.length : Nat) : Int)) (b := 1048576) rfl rfl) ?_
 refine nl ?_
 refine nN ?_
 refine cdd (p := (1048576 : Int) < ((cs.length : Nat) : Int)) rfl (fun h1 => ?_) (fun h1 => ?_)
 · refine sq ?_
   refine rg ?_
   refine q trivial rfl rfl (asg (v := .bool true) rfl) ?_
   refine nl ?_
   refine nN ?_
   refine rt (tR ?_)
   refine fret (v := .bool true) (.tmp .nil) rfl ?_
   exact ⟨rfl, hs0⟩
 · refine sk ?_
   refine nN ?_
   refine sq ?_
   refine rg ?_
   refine q trivial rfl rfl (mv (v := .slice Acs cs.length ccs) rfl) ?_
   refine cl trivial rfl (drawRulesAllow (Acs := Acs) (ccs := ccs) (cs := cs) (w := _) (hcs := (hcs.up0 hs0))) ?_
   rintro _ w1 ⟨A1, c1, Aq1, cq1, r1, ak1, aq1, an1, apt1, rfl, p1, p2, p3, p4, hs1'⟩
   have hs1 : SH w w1 [] [.own A1 r1.length c1 33 3 (r1.flatMap gRule), .own Aq1 aq1.length cq1 3 1 (aq1.map I)] := hs0.call0 hs1'
   clear hs1'
   refine q trivial rfl rfl (mv (v := .tuple #[.slice A1 r1.length c1, .agg #[I ak1, .slice Aq1 aq1.length cq1, Str an1, I apt1]]) rfl) ?_
   refine q trivial rfl rfl (xt 0 (v := .slice A1 r1.length c1) rfl rfl) ?_
   refine q trivial rfl rfl (xt 1 (v := .agg #[I ak1, .slice Aq1 aq1.length cq1, Str an1, I apt1]) rfl rfl) ?_
   refine al (v := .agg #[I 0, ns, Str [], I 0]) (cs := [I 0, ns, Str [], I 0]) hs1 tz26 rfl trivial rfl (fun b1 w2 (hs2 : SH w w2 [] [.own A1 r1.length c1 33 3 (r1.flatMap gRule), .own Aq1 aq1.length cq1 3 1 (aq1.map I), .blk b1 26 [I 0, ns, Str [], I 0]]) => ?_)
   refine q trivial rfl rfl (asg (v := .slice A1 r1.length c1) rfl) ?_
   refine stg (vs := [I ak1, .slice Aq1 aq1.length cq1, Str an1, I apt1]) hs2 2 rfl rfl rfl rfl rfl rfl rfl ag26 trivial (fun w3 (hs3 : SH w w3 [] [.own A1 r1.length c1 33 3 (r1.flatMap gRule), .own Aq1 aq1.length cq1 3 1 (aq1.map I), .blk b1 26 [I ak1, .slice Aq1 aq1.length cq1, Str an1, I apt1]]) => ?_)
   refine nl ?_
   refine nN ?_
   refine sq ?_
   refine rg ?_
   refine q trivial rfl rfl (mv (v := .slice A1 r1.length c1) rfl) ?_
   refine q trivial rfl rfl (ldg (vs := [I ak1, .slice Aq1 aq1.length cq1, Str an1, I apt1]) hs3 2 rfl rfl rfl rfl ag26) ?_
   refine cl trivial rfl (iRulesAllow (Azs := A1) (czs := c1) (zs := r1) (ak := ak1) (Aaq := Aq1) (caq := cq1) (aq := aq1) (an := an1) (apt := apt1) (w := _) (hzs := (hs3.sl0 0 rfl)) (hzs_e := (by first | exact fun u hu => Nat.le_trans (p2 u hu) (by decide) | (intro u hu; rcases List.mem_append.1 hu with hu | hu; (simp at hu; subst hu; simp); exact Nat.le_trans (p2 u hu) (by decide)))) (haq := (hs3.sl0 1 rfl)) (han_n := (by first | omega | (simp; done) | (simp; omega))) (hGp := (tab_up hGp hs3))) ?_
   rintro _ w4 ⟨rfl, hs4'⟩
   have hs4 : SH w w4 [] [.own A1 r1.length c1 33 3 (r1.flatMap gRule), .own Aq1 aq1.length cq1 3 1 (aq1.map I), .blk b1 26 [I ak1, .slice Aq1 aq1.length cq1, Str an1, I apt1]] := hs3.call0 hs4'
   clear hs4'
   refine q trivial rfl rfl (asg (v := .bool (rulesAllow r1 ak1 aq1 an1 apt1)) rfl) ?_
   refine nl ?_
   refine nN ?_
   refine sq ?_
   refine rg ?_
   refine q trivial rfl rfl (mv (v := .slice A1 r1.length c1) rfl) ?_
   refine q trivial rfl rfl (ldg (vs := [I ak1, .slice Aq1 aq1.length cq1, Str an1, I apt1]) hs4 2 rfl rfl rfl rfl ag26) ?_
   refine cl trivial rfl (sRulesAllow (Azs := A1) (czs := c1) (zs := r1) (ak := ak1) (Aaq := Aq1) (caq := cq1) (aq := aq1) (an := an1) (apt := apt1) (w := _) (hzs := (hs4.sl0 0 rfl)) (hzs_e := (by first | exact fun u hu => Nat.le_trans (p2 u hu) (by decide) | (intro u hu; rcases List.mem_append.1 hu with hu | hu; (simp at hu; subst hu; simp); exact Nat.le_trans (p2 u hu) (by decide)))) (haq := (hs4.sl0 1 rfl)) (han_n := (by first | omega | (simp; done) | (simp; omega)))) ?_
   rintro _ w5 ⟨rfl, hs5'⟩
   have hs5 : SH w w5 [] [.own A1 r1.length c1 33 3 (r1.flatMap gRule), .own Aq1 aq1.length cq1 3 1 (aq1.map I), .blk b1 26 [I ak1, .slice Aq1 aq1.length cq1, Str an1, I apt1]] := hs4.call0 hs5'
   clear hs5'
   refine q trivial rfl rfl (asg (v := .bool (rulesAllow r1 ak1 aq1 an1 apt1)) rfl) ?_
   refine nl ?_
   refine nN ?_
   refine sq ?_
   refine sq ?_
   refine rg ?_
   refine q trivial rfl rfl (mv (v := .bool (rulesAllow r1 ak1 aq1 an1 apt1)) rfl) ?_
   refine q trivial rfl rfl (mv (v := .bool (rulesAllow r1 ak1 aq1 an1 apt1)) rfl) ?_
   refine q trivial rfl rfl (neb (a := (rulesAllow r1 ak1 aq1 an1 apt1)) (b := (rulesAllow r1 ak1 aq1 an1 apt1)) tb4 rfl rfl) ?_
   refine nl ?_
   refine nN ?_
   refine cdd (p := (rulesAllow r1 ak1 aq1 an1 apt1) ≠ (rulesAllow r1 ak1 aq1 an1 apt1)) rfl (fun h2 => absurd h2 (by exact fun h => h rfl)) (fun h2 => ?_)
   refine sk ?_
   refine nN ?_
   refine sq ?_
   refine sq ?_
   refine rg ?_
   refine q trivial rfl rfl (mv (v := .slice A1 r1.length c1) rfl) ?_
   refine cl trivial rfl (iRulesValid (Azs := A1) (czs := c1) (zs := r1) (w := _) (hzs := (hs5.sl0 0 rfl)) (hzs_e := (by first | exact fun u hu => Nat.le_trans (p2 u hu) (by decide) | (intro u hu; rcases List.mem_append.1 hu with hu | hu; (simp at hu; subst hu; simp); exact Nat.le_trans (p2 u hu) (by decide))))) ?_
   rintro _ w6 ⟨rfl, hs6'⟩
   have hs6 : SH w w6 [] [.own A1 r1.length c1 33 3 (r1.flatMap gRule), .own Aq1 aq1.length cq1 3 1 (aq1.map I), .blk b1 26 [I ak1, .slice Aq1 aq1.length cq1, Str an1, I apt1]] := hs5.call0 hs6'
   clear hs6'
   refine q trivial rfl rfl (nt (b := rulesOk r1) rfl) ?_
   refine q trivial rfl rfl (mv (v := .bool (!(rulesOk r1))) rfl) ?_
   refine spl (b := !(rulesOk r1)) 32 rfl (fun h3 => ?_) (fun h3 => ?_)
   · have h4 : (rulesOk r1) = false := by simpa using h3
     refine gk true rfl rfl rfl rfl rfl ?_
     refine gk true rfl rfl rfl rfl rfl ?_
     refine gk true rfl rfl rfl rfl rfl ?_
     refine q trivial rfl rfl (pt (v := .bool true) rfl rfl) ?_
     refine q trivial rfl rfl (mv (v := .bool true) rfl) ?_
     refine gk true rfl rfl rfl rfl rfl ?_
     refine gk true rfl rfl rfl rfl rfl ?_
     refine gk true rfl rfl rfl rfl rfl ?_
     refine q trivial rfl rfl (pt (v := .bool true) rfl rfl) ?_
     refine nl ?_
     refine nN ?_
     refine cdt rfl ?_
     refine sq ?_
     refine rg ?_
     refine q trivial rfl rfl (mv (v := .bool (rulesAllow r1 ak1 aq1 an1 apt1)) rfl) ?_
     refine q trivial rfl rfl (nt (b := rulesAllow r1 ak1 aq1 an1 apt1) rfl) ?_
     refine q trivial rfl rfl (mv (v := .bool (!(rulesAllow r1 ak1 aq1 an1 apt1))) rfl) ?_
     refine spl (b := !(rulesAllow r1 ak1 aq1 an1 apt1)) 44 rfl (fun h5 => ?_) (fun h5 => ?_)
     · have h6 : (rulesAllow r1 ak1 aq1 an1 apt1) = false := by simpa using h5
       refine gk true rfl rfl rfl rfl rfl ?_
       refine gk true rfl rfl rfl rfl rfl ?_
       refine q trivial rfl rfl (pt (v := .bool true) rfl rfl) ?_
       refine q trivial rfl rfl (asg (v := .bool true) rfl) ?_
       refine nl ?_
       refine nN ?_
       refine rt (tR ?_)
       refine fret (v := .bool true) (.tmp .nil) rfl ?_
       exact ⟨rfl, (hs6.pick [] rfl (by decide))⟩
     · have h7 : (rulesAllow r1 ak1 aq1 an1 apt1) = true := by simpa using h5
       refine q ⟨_, rfl, rfl⟩ rfl rfl (mv (v := .slice A1 r1.length c1) rfl) ?_
       refine cl ⟨_, rfl, rfl⟩ rfl (iRulesValid (Azs := A1) (czs := c1) (zs := r1) (w := _) (hzs := (hs6.sl0 0 rfl)) (hzs_e := (by first | exact fun u hu => Nat.le_trans (p2 u hu) (by decide) | (intro u hu; rcases List.mem_append.1 hu with hu | hu; (simp at hu; subst hu; simp); exact Nat.le_trans (p2 u hu) (by decide))))) ?_
       rintro _ w7 ⟨rfl, hs7'⟩
       have hs7 : SH w w7 [] [.own A1 r1.length c1 33 3 (r1.flatMap gRule), .own Aq1 aq1.length cq1 3 1 (aq1.map I), .blk b1 26 [I ak1, .slice Aq1 aq1.length cq1, Str an1, I apt1]] := hs6.call0 hs7'
       clear hs7'
       refine q trivial rfl rfl (pf (v := .bool (rulesOk r1)) rfl rfl) ?_
       refine q trivial rfl rfl (asg (v := .bool (rulesOk r1)) rfl) ?_
       refine nl ?_
       refine nN ?_
       refine rt (tR ?_)
       refine fret (v := .bool (rulesOk r1)) (.tmp .nil) rfl ?_
       have e1 : (rulesOk r1) = true := by first | rfl | (simp; done) | (have y := rulesAllow_parts (l := r1) (by assumption); simp_all; done) | (simp [h1, h4, h7]; done) | (simp [allow_first, h1, h4, h7]; done) | (have y1 := allow_first (l := r1) true (by assumption) (by assumption) (by omega); have y2 := allow_first (l := r1) false (by assumption) (by assumption) (by omega); simp_all; done)
       exact ⟨(congrArg (Value.bool) e1), (hs7.pick [] rfl (by decide))⟩
   · have h8 : (rulesOk r1) = true := by simpa using h3
     refine q ⟨_, rfl, rfl⟩ rfl rfl (ldg (vs := [I ak1, .slice Aq1 aq1.length cq1, Str an1, I apt1]) hs6 2 rfl rfl rfl rfl ag26) ?_
     refine cl ⟨_, rfl, rfl⟩ rfl (iAddressValid (ak := ak1) (Aaq := Aq1) (caq := cq1) (aq := aq1) (an := an1) (apt := apt1) (w := _) (haq := (hs6.sl0 1 rfl)) (han_n := (by first | omega | (simp; done) | (simp; omega)))) ?_
     rintro _ w8 ⟨rfl, hs8'⟩
     have hs8 : SH w w8 [] [.own A1 r1.length c1 33 3 (r1.flatMap gRule), .own Aq1 aq1.length cq1 3 1 (aq1.map I), .blk b1 26 [I ak1, .slice Aq1 aq1.length cq1, Str an1, I apt1]] := hs6.call0 hs8'
     clear hs8'
     refine q ⟨_, rfl, rfl⟩ rfl rfl (nt (b := addrOk ak1 aq1 an1 apt1) rfl) ?_
     refine q trivial rfl rfl (pf (v := .bool (!(addrOk ak1 aq1 an1 apt1))) rfl rfl) ?_
     refine q trivial rfl rfl (mv (v := .bool (!(addrOk ak1 aq1 an1 apt1))) rfl) ?_
     refine spl (b := !(addrOk ak1 aq1 an1 apt1)) 37 rfl (fun h9 => ?_) (fun h9 => ?_)
     · have h10 : (addrOk ak1 aq1 an1 apt1) = false := by simpa using h9
       refine gk true rfl rfl rfl rfl rfl ?_
       refine gk true rfl rfl rfl rfl rfl ?_
       refine gk true rfl rfl rfl rfl rfl ?_
       refine q trivial rfl rfl (pt (v := .bool true) rfl rfl) ?_
       refine nl ?_
       refine nN ?_
       refine cdt rfl ?_
       refine sq ?_
       refine rg ?_
       refine q trivial rfl rfl (mv (v := .bool (rulesAllow r1 ak1 aq1 an1 apt1)) rfl) ?_
       refine q trivial rfl rfl (nt (b := rulesAllow r1 ak1 aq1 an1 apt1) rfl) ?_
       refine q trivial rfl rfl (mv (v := .bool (!(rulesAllow r1 ak1 aq1 an1 apt1))) rfl) ?_
       refine spl (b := !(rulesAllow r1 ak1 aq1 an1 apt1)) 44 rfl (fun h11 => ?_) (fun h11 => ?_)
       · have h12 : (rulesAllow r1 ak1 aq1 an1 apt1) = false := by simpa using h11
         refine gk true rfl rfl rfl rfl rfl ?_
         refine gk true rfl rfl rfl rfl rfl ?_
         refine q trivial rfl rfl (pt (v := .bool true) rfl rfl) ?_
         refine q trivial rfl rfl (asg (v := .bool true) rfl) ?_
         refine nl ?_
         refine nN ?_
         refine rt (tR ?_)
         refine fret (v := .bool true) (.tmp .nil) rfl ?_
         exact ⟨rfl, (hs8.pick [] rfl (by decide))⟩
       · have h13 : (rulesAllow r1 ak1 aq1 an1 apt1) = true := by simpa using h11
         refine q ⟨_, rfl, rfl⟩ rfl rfl (mv (v := .slice A1 r1.length c1) rfl) ?_
         refine cl ⟨_, rfl, rfl⟩ rfl (iRulesValid (Azs := A1) (czs := c1) (zs := r1) (w := _) (hzs := (hs8.sl0 0 rfl)) (hzs_e := (by first | exact fun u hu => Nat.le_trans (p2 u hu) (by decide) | (intro u hu; rcases List.mem_append.1 hu with hu | hu; (simp at hu; subst hu; simp); exact Nat.le_trans (p2 u hu) (by decide))))) ?_
         rintro _ w9 ⟨rfl, hs9'⟩
         have hs9 : SH w w9 [] [.own A1 r1.length c1 33 3 (r1.flatMap gRule), .own Aq1 aq1.length cq1 3 1 (aq1.map I), .blk b1 26 [I ak1, .slice Aq1 aq1.length cq1, Str an1, I apt1]] := hs8.call0 hs9'
         clear hs9'
         refine q trivial rfl rfl (pf (v := .bool (rulesOk r1)) rfl rfl) ?_
         refine q trivial rfl rfl (asg (v := .bool (rulesOk r1)) rfl) ?_
         refine nl ?_
         refine nN ?_
         refine rt (tR ?_)
         refine fret (v := .bool (rulesOk r1)) (.tmp .nil) rfl ?_
         have e2 : (rulesOk r1) = true := by first | rfl | (simp; done) | (have y := rulesAllow_parts (l := r1) (by assumption); simp_all; done) | (simp [h1, h8, h10, h13]; done) | (simp [allow_first, h1, h8, h10, h13]; done) | (have y1 := allow_first (l := r1) true (by assumption) (by assumption) (by omega); have y2 := allow_first (l := r1) false (by assumption) (by assumption) (by omega); simp_all; done)
         exact ⟨(congrArg (Value.bool) e2), (hs9.pick [] rfl (by decide))⟩
     · have h14 : (addrOk ak1 aq1 an1 apt1) = true := by simpa using h9
       refine q ⟨_, rfl, rfl⟩ rfl rfl (mv (v := .slice A1 r1.length c1) rfl) ?_
       refine q ⟨_, rfl, rfl⟩ rfl rfl (lnA (n := r1.length) sl23 rfl) ?_
       refine q ⟨_, rfl, rfl⟩ rfl rfl (eqi (k := .i64) (a := ((r1.length : Nat) : Int)) (b := 6) rfl rfl) ?_
       refine q trivial rfl rfl (pf (v := .bool (decide (((r1.length : Nat) : Int) = 6))) rfl rfl) ?_
       refine nl ?_
       refine nN ?_
       refine cdd (p := ((r1.length : Nat) : Int) = 6) rfl (fun h15 => ?_) (fun h15 => ?_)
       · refine sq ?_
         refine rg ?_
         refine q trivial rfl rfl (mv (v := .bool (rulesAllow r1 ak1 aq1 an1 apt1)) rfl) ?_
         refine q trivial rfl rfl (nt (b := rulesAllow r1 ak1 aq1 an1 apt1) rfl) ?_
         refine q trivial rfl rfl (mv (v := .bool (!(rulesAllow r1 ak1 aq1 an1 apt1))) rfl) ?_
         refine spl (b := !(rulesAllow r1 ak1 aq1 an1 apt1)) 44 rfl (fun h16 => ?_) (fun h16 => ?_)
         · have h17 : (rulesAllow r1 ak1 aq1 an1 apt1) = false := by simpa using h16
           refine gk true rfl rfl rfl rfl rfl ?_
           refine gk true rfl rfl rfl rfl rfl ?_
           refine q trivial rfl rfl (pt (v := .bool true) rfl rfl) ?_
           refine q trivial rfl rfl (asg (v := .bool true) rfl) ?_
           refine nl ?_
           refine nN ?_
           refine rt (tR ?_)
           refine fret (v := .bool true) (.tmp .nil) rfl ?_
           exact ⟨rfl, (hs8.pick [] rfl (by decide))⟩
         · have h18 : (rulesAllow r1 ak1 aq1 an1 apt1) = true := by simpa using h16
           refine q ⟨_, rfl, rfl⟩ rfl rfl (mv (v := .slice A1 r1.length c1) rfl) ?_
           refine cl ⟨_, rfl, rfl⟩ rfl (iRulesValid (Azs := A1) (czs := c1) (zs := r1) (w := _) (hzs := (hs8.sl0 0 rfl)) (hzs_e := (by first | exact fun u hu => Nat.le_trans (p2 u hu) (by decide) | (intro u hu; rcases List.mem_append.1 hu with hu | hu; (simp at hu; subst hu; simp); exact Nat.le_trans (p2 u hu) (by decide))))) ?_
           rintro _ w10 ⟨rfl, hs10'⟩
           have hs10 : SH w w10 [] [.own A1 r1.length c1 33 3 (r1.flatMap gRule), .own Aq1 aq1.length cq1 3 1 (aq1.map I), .blk b1 26 [I ak1, .slice Aq1 aq1.length cq1, Str an1, I apt1]] := hs8.call0 hs10'
           clear hs10'
           refine q trivial rfl rfl (pf (v := .bool (rulesOk r1)) rfl rfl) ?_
           refine q trivial rfl rfl (asg (v := .bool (rulesOk r1)) rfl) ?_
           refine nl ?_
           refine nN ?_
           refine rt (tR ?_)
           refine fret (v := .bool (rulesOk r1)) (.tmp .nil) rfl ?_
           have e3 : (rulesOk r1) = true := by first | rfl | (simp; done) | (have y := rulesAllow_parts (l := r1) (by assumption); simp_all; done) | (simp [h1, h8, h14, h15, h18]; done) | (simp [allow_first, h1, h8, h14, h15, h18]; done) | (have y1 := allow_first (l := r1) true (by assumption) (by assumption) (by omega); have y2 := allow_first (l := r1) false (by assumption) (by assumption) (by omega); simp_all; done)
           exact ⟨(congrArg (Value.bool) e3), (hs10.pick [] rfl (by decide))⟩
       · refine sk ?_
         refine nN ?_
         refine sq ?_
         refine rg ?_
         refine q trivial rfl rfl (bdv (v := .agg #[Str [], I 0, .bool true]) [(2, .bool true)] rfl (fun _ => by kernel_rfl)) ?_
         refine bsk hs8 sl23 [.agg #[Str [], I 0, .bool true]] [Str [], I 0, .bool true] trivial rfl (fun b2 w11 (hs11 : SH w w11 [] [.own A1 r1.length c1 33 3 (r1.flatMap gRule), .own Aq1 aq1.length cq1 3 1 (aq1.map I), .blk b1 26 [I ak1, .slice Aq1 aq1.length cq1, Str an1, I apt1], .own (some ⟨b2, 0, none⟩) (([(([], 0, true) : List UInt8 × Int × Bool)] : List (List UInt8 × Int × Bool)).length) 1 33 3 (([(([], 0, true) : List UInt8 × Int × Bool)] : List (List UInt8 × Int × Bool)).flatMap gRule)]) => ?_)
         refine q trivial rfl rfl (mv (v := .slice A1 r1.length c1) rfl) ?_
         refine apf (g := gRule) (ys := ([(([], 0, true) : List UInt8 × Int × Bool)] : List (List UInt8 × Int × Bool))) (zs := r1) hs11 3 rfl sl23 rfl (by decide) rfl rfl (hs11.sl0 0 rfl) (fun _ => rfl) (by unfold maxLen; first | omega | (simp; done) | (simp; omega)) (by first | omega | (simp; done) | (simp; omega)) trivial rfl (fun A2 c2 w12 (hs12 : SH w w12 [] [.own A1 r1.length c1 33 3 (r1.flatMap gRule), .own Aq1 aq1.length cq1 3 1 (aq1.map I), .blk b1 26 [I ak1, .slice Aq1 aq1.length cq1, Str an1, I apt1], .own A2 ((([(([], 0, true) : List UInt8 × Int × Bool)] : List (List UInt8 × Int × Bool)) ++ r1).length) c2 33 3 ((([(([], 0, true) : List UInt8 × Int × Bool)] : List (List UInt8 × Int × Bool)) ++ r1).flatMap gRule)]) => ?_)
         refine q trivial rfl rfl (asg (v := .slice A2 ((([(([], 0, true) : List UInt8 × Int × Bool)] : List (List UInt8 × Int × Bool)) ++ r1).length) c2) rfl) ?_
         refine nl ?_
         refine nN ?_
         refine sq ?_
         refine rg ?_
         refine q trivial rfl rfl (bdv (v := .agg #[Str [], I 0, .bool false]) [(2, .bool false)] rfl (fun _ => by kernel_rfl)) ?_
         refine bsk hs12 sl23 [.agg #[Str [], I 0, .bool false]] [Str [], I 0, .bool false] trivial rfl (fun b3 w13 (hs13 : SH w w13 [] [.own A1 r1.length c1 33 3 (r1.flatMap gRule), .own Aq1 aq1.length cq1 3 1 (aq1.map I), .blk b1 26 [I ak1, .slice Aq1 aq1.length cq1, Str an1, I apt1], .own A2 ((([(([], 0, true) : List UInt8 × Int × Bool)] : List (List UInt8 × Int × Bool)) ++ r1).length) c2 33 3 ((([(([], 0, true) : List UInt8 × Int × Bool)] : List (List UInt8 × Int × Bool)) ++ r1).flatMap gRule), .own (some ⟨b3, 0, none⟩) (([(([], 0, false) : List UInt8 × Int × Bool)] : List (List UInt8 × Int × Bool)).length) 1 33 3 (([(([], 0, false) : List UInt8 × Int × Bool)] : List (List UInt8 × Int × Bool)).flatMap gRule)]) => ?_)
         refine q trivial rfl rfl (mv (v := .slice A1 r1.length c1) rfl) ?_
         refine apf (g := gRule) (ys := ([(([], 0, false) : List UInt8 × Int × Bool)] : List (List UInt8 × Int × Bool))) (zs := r1) hs13 4 rfl sl23 rfl (by decide) rfl rfl (hs13.sl0 0 rfl) (fun _ => rfl) (by unfold maxLen; first | omega | (simp; done) | (simp; omega)) (by first | omega | (simp; done) | (simp; omega)) trivial rfl (fun A3 c3 w14 (hs14 : SH w w14 [] [.own A1 r1.length c1 33 3 (r1.flatMap gRule), .own Aq1 aq1.length cq1 3 1 (aq1.map I), .blk b1 26 [I ak1, .slice Aq1 aq1.length cq1, Str an1, I apt1], .own A2 ((([(([], 0, true) : List UInt8 × Int × Bool)] : List (List UInt8 × Int × Bool)) ++ r1).length) c2 33 3 ((([(([], 0, true) : List UInt8 × Int × Bool)] : List (List UInt8 × Int × Bool)) ++ r1).flatMap gRule), .own A3 ((([(([], 0, false) : List UInt8 × Int × Bool)] : List (List UInt8 × Int × Bool)) ++ r1).length) c3 33 3 ((([(([], 0, false) : List UInt8 × Int × Bool)] : List (List UInt8 × Int × Bool)) ++ r1).flatMap gRule)]) => ?_)
         refine q trivial rfl rfl (asg (v := .slice A3 ((([(([], 0, false) : List UInt8 × Int × Bool)] : List (List UInt8 × Int × Bool)) ++ r1).length) c3) rfl) ?_
         refine nl ?_
         refine nN ?_
         refine sq ?_
         refine rg ?_
         refine q trivial rfl rfl (mv (v := .slice A2 ((([(([], 0, true) : List UInt8 × Int × Bool)] : List (List UInt8 × Int × Bool)) ++ r1).length) c2) rfl) ?_
         refine q trivial rfl rfl (ldg (vs := [I ak1, .slice Aq1 aq1.length cq1, Str an1, I apt1]) hs14 2 rfl rfl rfl rfl ag26) ?_
         refine cl trivial rfl (iRulesAllow (Azs := A2) (czs := c2) (zs := ([(([], 0, true) : List UInt8 × Int × Bool)] : List (List UInt8 × Int × Bool)) ++ r1) (ak := ak1) (Aaq := Aq1) (caq := cq1) (aq := aq1) (an := an1) (apt := apt1) (w := _) (hzs := (hs14.sl0 3 rfl)) (hzs_e := (by first | exact fun u hu => Nat.le_trans (p2 u hu) (by decide) | (intro u hu; rcases List.mem_append.1 hu with hu | hu; (simp at hu; subst hu; simp); exact Nat.le_trans (p2 u hu) (by decide)))) (haq := (hs14.sl0 1 rfl)) (han_n := (by first | omega | (simp; done) | (simp; omega))) (hGp := (tab_up hGp hs14))) ?_
         rintro _ w15 ⟨rfl, hs15'⟩
         have hs15 : SH w w15 [] [.own A1 r1.length c1 33 3 (r1.flatMap gRule), .own Aq1 aq1.length cq1 3 1 (aq1.map I), .blk b1 26 [I ak1, .slice Aq1 aq1.length cq1, Str an1, I apt1], .own A2 ((([(([], 0, true) : List UInt8 × Int × Bool)] : List (List UInt8 × Int × Bool)) ++ r1).length) c2 33 3 ((([(([], 0, true) : List UInt8 × Int × Bool)] : List (List UInt8 × Int × Bool)) ++ r1).flatMap gRule), .own A3 ((([(([], 0, false) : List UInt8 × Int × Bool)] : List (List UInt8 × Int × Bool)) ++ r1).length) c3 33 3 ((([(([], 0, false) : List UInt8 × Int × Bool)] : List (List UInt8 × Int × Bool)) ++ r1).flatMap gRule)] := hs14.call0 hs15'
         clear hs15'
         refine q trivial rfl rfl (mv (v := .bool (rulesAllow (([(([], 0, true) : List UInt8 × Int × Bool)] : List (List UInt8 × Int × Bool)) ++ r1) ak1 aq1 an1 apt1)) rfl) ?_
         refine spl (b := rulesAllow (([(([], 0, true) : List UInt8 × Int × Bool)] : List (List UInt8 × Int × Bool)) ++ r1) ak1 aq1 an1 apt1) 59 rfl (fun h19 => ?_) (fun h19 => ?_)
         · refine q ⟨_, rfl, rfl⟩ rfl rfl (mv (v := .slice A3 ((([(([], 0, false) : List UInt8 × Int × Bool)] : List (List UInt8 × Int × Bool)) ++ r1).length) c3) rfl) ?_
           refine q ⟨_, rfl, rfl⟩ rfl rfl (ldg (vs := [I ak1, .slice Aq1 aq1.length cq1, Str an1, I apt1]) hs15 2 rfl rfl rfl rfl ag26) ?_
           refine cl ⟨_, rfl, rfl⟩ rfl (iRulesAllow (Azs := A3) (czs := c3) (zs := ([(([], 0, false) : List UInt8 × Int × Bool)] : List (List UInt8 × Int × Bool)) ++ r1) (ak := ak1) (Aaq := Aq1) (caq := cq1) (aq := aq1) (an := an1) (apt := apt1) (w := _) (hzs := (hs15.sl0 4 rfl)) (hzs_e := (by first | exact fun u hu => Nat.le_trans (p2 u hu) (by decide) | (intro u hu; rcases List.mem_append.1 hu with hu | hu; (simp at hu; subst hu; simp); exact Nat.le_trans (p2 u hu) (by decide)))) (haq := (hs15.sl0 1 rfl)) (han_n := (by first | omega | (simp; done) | (simp; omega))) (hGp := (tab_up hGp hs15))) ?_
           rintro _ w16 ⟨rfl, hs16'⟩
           have hs16 : SH w w16 [] [.own A1 r1.length c1 33 3 (r1.flatMap gRule), .own Aq1 aq1.length cq1 3 1 (aq1.map I), .blk b1 26 [I ak1, .slice Aq1 aq1.length cq1, Str an1, I apt1], .own A2 ((([(([], 0, true) : List UInt8 × Int × Bool)] : List (List UInt8 × Int × Bool)) ++ r1).length) c2 33 3 ((([(([], 0, true) : List UInt8 × Int × Bool)] : List (List UInt8 × Int × Bool)) ++ r1).flatMap gRule), .own A3 ((([(([], 0, false) : List UInt8 × Int × Bool)] : List (List UInt8 × Int × Bool)) ++ r1).length) c3 33 3 ((([(([], 0, false) : List UInt8 × Int × Bool)] : List (List UInt8 × Int × Bool)) ++ r1).flatMap gRule)] := hs15.call0 hs16'
           clear hs16'
           refine q ⟨_, rfl, rfl⟩ rfl rfl (nt (b := rulesAllow (([(([], 0, false) : List UInt8 × Int × Bool)] : List (List UInt8 × Int × Bool)) ++ r1) ak1 aq1 an1 apt1) rfl) ?_
           refine q trivial rfl rfl (pt (v := .bool (!(rulesAllow (([(([], 0, false) : List UInt8 × Int × Bool)] : List (List UInt8 × Int × Bool)) ++ r1) ak1 aq1 an1 apt1))) rfl rfl) ?_
           refine q trivial rfl rfl (asg (v := .bool (!(rulesAllow (([(([], 0, false) : List UInt8 × Int × Bool)] : List (List UInt8 × Int × Bool)) ++ r1) ak1 aq1 an1 apt1))) rfl) ?_
           refine nl ?_
           refine nN ?_
           have hs17 : SH w w16 [] [] := hs16.pick [] rfl (by decide)
           refine rt ?_
           refine fret (v := .bool (!(rulesAllow (([(([], 0, false) : List UInt8 × Int × Bool)] : List (List UInt8 × Int × Bool)) ++ r1) ak1 aq1 an1 apt1))) (.tmp .nil) rfl ?_
           have e4 : (!(rulesAllow (([(([], 0, false) : List UInt8 × Int × Bool)] : List (List UInt8 × Int × Bool)) ++ r1) ak1 aq1 an1 apt1)) = true := by first | rfl | (simp; done) | (have y := rulesAllow_parts (l := r1) (by assumption); simp_all; done) | (simp [h1, h8, h14, h15, h19]; done) | (simp [allow_first, h1, h8, h14, h15, h19]; done) | (have y1 := allow_first (l := r1) true (by assumption) (by assumption) (by omega); have y2 := allow_first (l := r1) false (by assumption) (by assumption) (by omega); simp_all; done)
           exact ⟨(congrArg (Value.bool) e4), hs17⟩
         · refine gk false rfl rfl rfl rfl rfl ?_
           refine gk false rfl rfl rfl rfl rfl ?_
           refine gk false rfl rfl rfl rfl rfl ?_
           refine gk false rfl rfl rfl rfl rfl ?_
           refine q trivial rfl rfl (pf (v := .bool false) rfl rfl) ?_
           refine q trivial rfl rfl (asg (v := .bool false) rfl) ?_
           refine nl ?_
           refine nN ?_
           have hs18 : SH w w15 [] [] := hs15.pick [] rfl (by decide)
           refine rt ?_
           refine fret (v := .bool false) (.tmp .nil) rfl ?_
           have e5 : false = true := by first | rfl | (simp; done) | (have y := rulesAllow_parts (l := r1) (by assumption); simp_all; done) | (simp [h1, h8, h14, h15, h19]; done) | (simp [allow_first, h1, h8, h14, h15, h19]; done) | (have y1 := allow_first (l := r1) true (by assumption) (by assumption) (by omega); have y2 := allow_first (l := r1) false (by assumption) (by assumption) (by omega); simp_all; done)
           exact ⟨(congrArg (Value.bool) e5), hs18⟩

end Go.Proofs.YtogejeniggngjaaDoor
