/-
  Part of the proofs over this seat: what each function of the program computes, function by function (the text is written by a program of this hand-in's own).
  Conditions: each theorem states its own.
-/
import Derived.Test.YtjehmnojfpedjaaPfWalks
namespace Go.Proofs.Ytjehmnojfpedjaa
open Go.PF
set_option maxRecDepth 100000
set_option linter.unusedSimpArgs false
set_option linter.unusedVariables false

theorem lExactCountKinds {Ahs : Option Addr} {chs : Nat} (hs : List Hd) (w : World) (hhs : Sl w [] 1 Ahs hs.length chs (hs.map hv)) (hhs_in : ∀ u ∈ hs, HdOk w [] u) : Does Try.prog 3 [.slice Ahs hs.length chs] w (fun v w' => v = .bool true ∧ SH w w' [] []) := by
 refine fn_enter (N := 69) Try.func3 rfl (by kernel_rfl) rfl rfl rfl ?_
 have hs0 : SH w w [] [] := SH.refl w []
 have hhs_m : hs.length ≤ 9223372036854775807 := Nat.le_trans hhs.cap hhs.capMax
 refine sq ?_
 refine rg ?_
 refine q trivial rfl rfl (asg (v := .bool false) rfl) ?_
 refine nl ?_
 refine nN ?_
 refine sq ?_
 refine rg ?_
 refine q trivial rfl rfl (asg (v := I 1048576) rfl) ?_
 refine nl ?_
 refine nN ?_
 refine sq ?_
 refine rg ?_
 refine q trivial rfl rfl (mv (v := .slice Ahs hs.length chs) rfl) ?_
 refine q trivial rfl rfl (mv (v := I 1048576) rfl) ?_
 refine cl trivial rfl (szIntSS (Ahs := Ahs) (chs := chs) (hs := hs) (z := 1048576) (w := _) (hhs := (hhs.up0 hs0)) (hhs_in := (fun u hu => Sl.up0 (hhs_in u hu) hs0)) (hz := (by first | omega | assumption | (simp; done) | (simp; omega)))) ?_
 rintro _ w1 ⟨r1, rfl, p1, p2, hs1'⟩
 have hs1 : SH w w1 [] [] := hs0.call0 hs1'
 clear hs1'
 refine q trivial rfl rfl (asg (v := I r1) rfl) ?_
 refine nl ?_
 refine nN ?_
 refine sq ?_
 refine sq ?_
 refine rg ?_
 refine q trivial rfl rfl (mv (v := I r1) rfl) ?_
 refine q trivial rfl rfl (lss (k := .i64) (a := r1) (b := 0) rfl rfl) ?_
 refine nl ?_
 refine nN ?_
 refine cdd (p := r1 < 0) rfl (fun h1 => ?_) (fun h1 => ?_)
 · refine sq ?_
   refine rg ?_
   refine q trivial rfl rfl (asg (v := .bool true) rfl) ?_
   refine nl ?_
   refine nN ?_
   refine rt (tR ?_)
   refine fret (v := .bool true) (.tmp .nil) rfl ?_
   exact ⟨rfl, hs1⟩
 · refine sk ?_
   refine nN ?_
   refine sq ?_
   refine rg ?_
   refine q trivial rfl rfl (mv (v := .slice Ahs hs.length chs) rfl) ?_
   refine cl trivial rfl (toIntSS (Ahs := Ahs) (chs := chs) (hs := hs) (w := _) (hhs := (hhs.up0 hs1)) (hhs_in := (fun u hu => Sl.up0 (hhs_in u hu) hs1)) (hhs_n := (by first | omega | (simp; done) | (have hp1 := p1; rcases hp1 with hp | hp; exact absurd hp (by omega); omega))) (hle := (by first | assumption | (have hp1 := p1; rcases hp1 with hp | hp; exact absurd hp (by omega); exact fun u hu => Int.le_trans (hp.2.1 u hu) (by omega))))) ?_
   rintro _ w2 ⟨A1, c1, us1, rfl, p3, hs2'⟩
   have hs2 : SH w w2 [] [.own A1 us1.length c1 24 1 (us1.map hv), .rows 3 us1] := hs1.call0 hs2'
   clear hs2'
   refine cl trivial rfl (sCountKinds (Ahs := A1) (chs := c1) (hs := us1) (w := _) (hhs := (hs2.sl0 0 rfl)) (hhs_in := (fun u hu => hs2.rows_sl 1 rfl hu))) ?_
   rintro _ w3 ⟨A2, c2, rfl, hs3'⟩
   have hs3 : SH w w3 [] [.own A1 us1.length c1 24 1 (us1.map hv), .rows 3 us1, .own A2 ((kindsC (hdX us1)).length) c2 3 1 ((kindsC (hdX us1)).map I)] := hs2.call0 hs3'
   clear hs3'
   refine q trivial rfl rfl (asg (v := .slice A2 ((kindsC (hdX us1)).length) c2) rfl) ?_
   refine nl ?_
   refine nN ?_
   refine sq ?_
   refine rg ?_
   refine q trivial rfl rfl (mv (v := .slice Ahs hs.length chs) rfl) ?_
   refine cl trivial rfl (toIntSS (Ahs := Ahs) (chs := chs) (hs := hs) (w := _) (hhs := (hhs.up0 hs3)) (hhs_in := (fun u hu => Sl.up0 (hhs_in u hu) hs3)) (hhs_n := (by first | omega | (simp; done) | (have hp1 := p1; rcases hp1 with hp | hp; exact absurd hp (by omega); omega))) (hle := (by first | assumption | (have hp1 := p1; rcases hp1 with hp | hp; exact absurd hp (by omega); exact fun u hu => Int.le_trans (hp.2.1 u hu) (by omega))))) ?_
   rintro _ w4 ⟨A3, c3, us2, rfl, p4, hs4'⟩
   have hs4 : SH w w4 [] [.own A1 us1.length c1 24 1 (us1.map hv), .rows 3 us1, .own A2 ((kindsC (hdX us1)).length) c2 3 1 ((kindsC (hdX us1)).map I), .own A3 us2.length c3 24 1 (us2.map hv), .rows 3 us2] := hs3.call0 hs4'
   clear hs4'
   refine q trivial rfl rfl (asg (v := .slice A3 us2.length c3) rfl) ?_
   refine nl ?_
   refine nN ?_
   have hs5 : SH w w4 [] [.own A2 ((kindsC (hdX us1)).length) c2 3 1 ((kindsC (hdX us1)).map I), .own A3 us2.length c3 24 1 (us2.map hv), .rows 3 us2] := hs4.pick [2, 3, 4] rfl (by decide)
   refine sq ?_
   refine rg ?_
   refine q trivial rfl rfl (mv (v := .slice A3 us2.length c3) rfl) ?_
   refine cl trivial rfl (iCountKinds (Ahs := A3) (chs := c3) (hs := us2) (w := _) (hhs := (hs5.sl0 1 rfl)) (hhs_in := (fun u hu => hs5.rows_sl 2 rfl hu))) ?_
   rintro _ w5 ⟨A4, c4, rfl, hs6'⟩
   have hs6 : SH w w5 [] [.own A2 ((kindsC (hdX us1)).length) c2 3 1 ((kindsC (hdX us1)).map I), .own A3 us2.length c3 24 1 (us2.map hv), .rows 3 us2, .own A4 ((kindsC (hdX us2)).length) c4 3 1 ((kindsC (hdX us2)).map I)] := hs5.call0 hs6'
   clear hs6'
   refine q trivial rfl rfl (asg (v := .slice A4 ((kindsC (hdX us2)).length) c4) rfl) ?_
   refine nl ?_
   refine nN ?_
   refine sq ?_
   refine sq ?_
   refine rg ?_
   refine q trivial rfl rfl (mv (v := .slice A4 ((kindsC (hdX us2)).length) c4) rfl) ?_
   refine q trivial rfl rfl (mv (v := .slice A2 ((kindsC (hdX us1)).length) c2) rfl) ?_
   refine cl trivial rfl (eqIntS (Axs := A4) (cxs := c4) (xs := kindsC (hdX us2)) (Abs := A2) (cbs := c2) (bs := kindsC (hdX us1)) (w := _) (hxs := (hs6.sl0 3 rfl)) (hbs := (hs6.sl0 0 rfl))) ?_
   rintro _ w6 ⟨rfl, hs7'⟩
   have hs7 : SH w w6 [] [.own A2 ((kindsC (hdX us1)).length) c2 3 1 ((kindsC (hdX us1)).map I), .own A3 us2.length c3 24 1 (us2.map hv), .rows 3 us2, .own A4 ((kindsC (hdX us2)).length) c4 3 1 ((kindsC (hdX us2)).map I)] := hs6.call0 hs7'
   clear hs7'
   refine q trivial rfl rfl (nd (p := (kindsC (hdX us2)) = (kindsC (hdX us1))) rfl) ?_
   refine nl ?_
   refine nN ?_
   refine cdd (p := ¬ ((kindsC (hdX us2)) = (kindsC (hdX us1)))) rfl (fun h2 => ?_) (fun h2 => ?_)
   · refine sq ?_
     refine rg ?_
     refine q trivial rfl rfl (asg (v := .bool false) rfl) ?_
     refine nl ?_
     refine nN ?_
     have hs8 : SH w w6 [] [] := hs7.pick [] rfl (by decide)
     refine rt (tR ?_)
     refine fret (v := .bool false) (.tmp .nil) rfl ?_
     have e1 : false = true := by first | rfl | (simp; done) | (simp_all; done) | omega
     exact ⟨(congrArg (Value.bool) e1), hs8⟩
   · refine sk ?_
     refine nN ?_
     refine sq ?_
     refine sq ?_
     refine rg ?_
     refine q trivial rfl rfl (mv (v := .slice A3 us2.length c3) rfl) ?_
     refine q trivial rfl rfl (mv (v := .slice Ahs hs.length chs) rfl) ?_
     refine cl trivial rfl (toIntSS (Ahs := Ahs) (chs := chs) (hs := hs) (w := _) (hhs := (hhs.up0 hs7)) (hhs_in := (fun u hu => Sl.up0 (hhs_in u hu) hs7)) (hhs_n := (by first | omega | (simp; done) | (have hp1 := p1; rcases hp1 with hp | hp; exact absurd hp (by omega); omega))) (hle := (by first | assumption | (have hp1 := p1; rcases hp1 with hp | hp; exact absurd hp (by omega); exact fun u hu => Int.le_trans (hp.2.1 u hu) (by omega))))) ?_
     rintro _ w7 ⟨A5, c5, us3, rfl, p5, hs9'⟩
     have hs9 : SH w w7 [] [.own A2 ((kindsC (hdX us1)).length) c2 3 1 ((kindsC (hdX us1)).map I), .own A3 us2.length c3 24 1 (us2.map hv), .rows 3 us2, .own A4 ((kindsC (hdX us2)).length) c4 3 1 ((kindsC (hdX us2)).map I), .own A5 us3.length c5 24 1 (us3.map hv), .rows 3 us3] := hs7.call0 hs9'
     clear hs9'
     refine cl trivial rfl (eqIntSS (Ahs := A3) (chs := c3) (hs := us2) (Abs := A5) (cbs := c5) (bs := us3) (w := _) (hhs := (hs9.sl0 1 rfl)) (hhs_in := (fun u hu => hs9.rows_sl 2 rfl hu)) (hbs := (hs9.sl0 4 rfl)) (hbs_in := (fun u hu => hs9.rows_sl 5 rfl hu))) ?_
     rintro _ w8 ⟨rfl, hs10'⟩
     have hs10 : SH w w8 [] [.own A2 ((kindsC (hdX us1)).length) c2 3 1 ((kindsC (hdX us1)).map I), .own A3 us2.length c3 24 1 (us2.map hv), .rows 3 us2, .own A4 ((kindsC (hdX us2)).length) c4 3 1 ((kindsC (hdX us2)).map I), .own A5 us3.length c5 24 1 (us3.map hv), .rows 3 us3] := hs9.call0 hs10'
     clear hs10'
     refine q trivial rfl rfl (nd (p := hdX us2 = hdX us3) rfl) ?_
     refine nl ?_
     refine nN ?_
     have hs11 : SH w w8 [] [.own A2 ((kindsC (hdX us1)).length) c2 3 1 ((kindsC (hdX us1)).map I), .own A3 us2.length c3 24 1 (us2.map hv), .rows 3 us2, .own A4 ((kindsC (hdX us2)).length) c4 3 1 ((kindsC (hdX us2)).map I)] := hs10.pick [0, 1, 2, 3] rfl (by decide)
     refine cdd (p := ¬ (hdX us2 = hdX us3)) rfl (fun h3 => ?_) (fun h3 => ?_)
     · refine sq ?_
       refine rg ?_
       refine q trivial rfl rfl (asg (v := .bool false) rfl) ?_
       refine nl ?_
       refine nN ?_
       have hs12 : SH w w8 [] [] := hs11.pick [] rfl (by decide)
       refine rt (tR ?_)
       refine fret (v := .bool false) (.tmp .nil) rfl ?_
       have e2 : false = true := by first | rfl | (simp; done) | (simp_all; done) | omega
       exact ⟨(congrArg (Value.bool) e2), hs12⟩
     · refine sk ?_
       refine nN ?_
       refine sq ?_
       refine rg ?_
       refine q trivial rfl rfl (asg (v := I 1) rfl) ?_
       refine nl ?_
       refine nN ?_
       refine sq ?_
       refine rg ?_
       refine q trivial rfl rfl (mv (v := .slice A3 us2.length c3) rfl) ?_
       refine q trivial rfl rfl (mv (v := I 1) rfl) ?_
       refine cl trivial rfl (markIntSS (Ahs := A3) (chs := c3) (hs := us2) (k0 := 1) (w := _) (hhs := (hs11.slR 1 2 (by decide) rfl rfl)) (hhs_r := (hs11.ok _ (List.mem_of_getElem? (i := 2) rfl))) (hk0 := (by first | omega | (have hp1 := p1; rcases hp1 with hp | hp; exact absurd hp (by omega); have hx1 := hdsN_X p3; have hx2 := hdsN_X p4; omega)))) ?_
       rintro _ w9 ⟨us4, rfl, hs13'⟩
       have hs13 : SH w w9 [] [.own A2 ((kindsC (hdX us1)).length) c2 3 1 ((kindsC (hdX us1)).map I), .own A3 us2.length c3 24 1 (us2.map hv), .own A4 ((kindsC (hdX us2)).length) c4 3 1 ((kindsC (hdX us2)).map I), .rows 3 us4] := SH.callK (K := [.rows 3 us2]) (R := [.own A2 ((kindsC (hdX us1)).length) c2 3 1 ((kindsC (hdX us1)).map I), .own A3 us2.length c3 24 1 (us2.map hv), .own A4 ((kindsC (hdX us2)).length) c4 3 1 ((kindsC (hdX us2)).map I)]) (hs11.pick [2, 0, 1, 3] rfl (by decide)) hs13' rfl
       clear hs13'
       refine q trivial rfl rfl (asg (v := I (1 + ((hdsN us2 : Nat) : Int))) rfl) ?_
       refine nl ?_
       refine nN ?_
       have hs14 : SH w w9 [] [.own A2 ((kindsC (hdX us1)).length) c2 3 1 ((kindsC (hdX us1)).map I), .own A4 ((kindsC (hdX us2)).length) c4 3 1 ((kindsC (hdX us2)).map I)] := hs13.pick [0, 2] rfl (by decide)
       refine sq ?_
       refine sq ?_
       refine rg ?_
       refine q trivial rfl rfl (mv (v := I (1 + ((hdsN us2 : Nat) : Int))) rfl) ?_
       refine q trivial rfl rfl (lss (k := .i64) (a := 1 + ((hdsN us2 : Nat) : Int)) (b := 0) rfl rfl) ?_
       refine q trivial rfl rfl (mv (v := .bool (decide ((1 + ((hdsN us2 : Nat) : Int)) < 0))) rfl) ?_
       refine spd (p := (1 + ((hdsN us2 : Nat) : Int)) < 0) 37 rfl (fun h4 => absurd h4 (by omega)) (fun h4 => ?_)
       refine q ⟨_, rfl, rfl⟩ rfl rfl (mv (v := .slice A4 ((kindsC (hdX us2)).length) c4) rfl) ?_
       refine q ⟨_, rfl, rfl⟩ rfl rfl (mv (v := .slice A2 ((kindsC (hdX us1)).length) c2) rfl) ?_
       refine cl ⟨_, rfl, rfl⟩ rfl (eqIntS (Axs := A4) (cxs := c4) (xs := kindsC (hdX us2)) (Abs := A2) (cbs := c2) (bs := kindsC (hdX us1)) (w := _) (hxs := (hs14.sl0 1 rfl)) (hbs := (hs14.sl0 0 rfl))) ?_
       rintro _ w10 ⟨rfl, hs15'⟩
       have hs15 : SH w w10 [] [.own A2 ((kindsC (hdX us1)).length) c2 3 1 ((kindsC (hdX us1)).map I), .own A4 ((kindsC (hdX us2)).length) c4 3 1 ((kindsC (hdX us2)).map I)] := hs14.call0 hs15'
       clear hs15'
       refine q ⟨_, rfl, rfl⟩ rfl rfl (nd (p := (kindsC (hdX us2)) = (kindsC (hdX us1))) rfl) ?_
       refine q trivial rfl rfl (pf (v := .bool (decide (¬ ((kindsC (hdX us2)) = (kindsC (hdX us1)))))) rfl rfl) ?_
       refine nl ?_
       refine nN ?_
       refine cdd (p := ¬ ((kindsC (hdX us2)) = (kindsC (hdX us1)))) rfl (fun h5 => ?_) (fun h5 => ?_)
       · refine sq ?_
         refine rg ?_
         refine q trivial rfl rfl (asg (v := .bool false) rfl) ?_
         refine nl ?_
         refine nN ?_
         refine rt (tR ?_)
         refine fret (v := .bool false) (.tmp .nil) rfl ?_
         have e3 : false = true := by first | rfl | (simp; done) | (simp_all; done) | omega
         exact ⟨(congrArg (Value.bool) e3), (hs15.pick [] rfl (by decide))⟩
       · refine sk ?_
         refine nN ?_
         refine sq ?_
         refine rg ?_
         refine q trivial rfl rfl (asg (v := I 1) rfl) ?_
         refine nl ?_
         refine nN ?_
         refine sq ?_
         refine rg ?_
         refine q trivial rfl rfl (mv (v := .slice A4 ((kindsC (hdX us2)).length) c4) rfl) ?_
         refine q trivial rfl rfl (mv (v := I 1) rfl) ?_
         refine cl trivial rfl (markIntS (Axs := A4) (cxs := c4) (xs := kindsC (hdX us2)) (k0 := 1) (w := _) (hxs := (own_ok hs15 1 rfl)) (hxs_n := (by first | omega | (simp; done) | (have hp1 := p1; rcases hp1 with hp | hp; exact absurd hp (by omega); omega))) (hk0 := (by first | omega | (have hp1 := p1; rcases hp1 with hp | hp; exact absurd hp (by omega); have hx1 := hdsN_X p3; have hx2 := hdsN_X p4; omega)))) ?_
         rintro _ w11 ⟨rfl, hs16'⟩
         have hs16 : SH w w11 [] [.own A2 ((kindsC (hdX us1)).length) c2 3 1 ((kindsC (hdX us1)).map I), .own A4 ((kindsC (hdX us2)).length) c4 3 1 ((marks 1 (kindsC (hdX us2)).length).map I)] := SH.callK (K := [.own A4 ((kindsC (hdX us2)).length) c4 3 1 ((kindsC (hdX us2)).map I)]) (R := [.own A2 ((kindsC (hdX us1)).length) c2 3 1 ((kindsC (hdX us1)).map I)]) (hs15.pick [1, 0] rfl (by decide)) hs16' rfl
         clear hs16'
         have e4 : (kindsC (hdX us2)).length = (marks 1 (kindsC (hdX us2)).length).length := by first | rfl | (simp; done) | (simp; omega)
         have hs17 : SH w w11 [] [.own A2 ((kindsC (hdX us1)).length) c2 3 1 ((kindsC (hdX us1)).map I), .own A4 ((marks 1 (kindsC (hdX us2)).length).length) c4 3 1 ((marks 1 (kindsC (hdX us2)).length).map I)] := (hs16.cast (lc rfl (lc (own_eq (g := I) rfl e4 rfl rfl) rfl)))
         clear hs16
         refine q trivial rfl rfl (asg (v := I (1 + (((kindsC (hdX us2)).length : Nat) : Int))) rfl) ?_
         refine nl ?_
         refine nN ?_
         refine sq ?_
         refine rg ?_
         refine q trivial rfl rfl (asg (v := I 1) rfl) ?_
         refine nl ?_
         refine nN ?_
         refine sq ?_
         refine rg ?_
         refine q trivial rfl rfl (mv (v := .slice A4 ((kindsC (hdX us2)).length) c4) rfl) ?_
         refine q trivial rfl rfl (mv (v := I 1) rfl) ?_
         refine cl trivial rfl (Does.castA (lc (slv rfl e4.symm rfl) (lc rfl rfl)) (heldIntS (Axs := A4) (cxs := c4) (xs := marks 1 (kindsC (hdX us2)).length) (k0 := 1) (w := _) (hxs := (hs17.sl0 1 rfl)) (hxs_n := (by first | omega | (simp; done) | (have hp1 := p1; rcases hp1 with hp | hp; exact absurd hp (by omega); omega))) (hk0 := (by first | omega | (have hp1 := p1; rcases hp1 with hp | hp; exact absurd hp (by omega); have hx1 := hdsN_X p3; have hx2 := hdsN_X p4; omega))))) ?_
         rintro _ w12 ⟨rfl, hs18'⟩
         have hs18 : SH w w12 [] [.own A2 ((kindsC (hdX us1)).length) c2 3 1 ((kindsC (hdX us1)).map I), .own A4 ((marks 1 (kindsC (hdX us2)).length).length) c4 3 1 ((marks 1 (kindsC (hdX us2)).length).map I)] := hs17.call0 hs18'
         clear hs18'
         refine q trivial rfl rfl (asg (v := I (heldI (marks 1 (kindsC (hdX us2)).length) 1)) rfl) ?_
         have e5 : heldI (marks 1 (kindsC (hdX us2)).length) 1 = 1 + (((kindsC (hdX us2)).length : Nat) : Int) := by exact held_marks _ _
         refine re 9 (v := I (1 + (((kindsC (hdX us2)).length : Nat) : Int))) (congrArg (Value.int .i64) e5) ?_
         refine nl ?_
         refine nN ?_
         refine sq ?_
         refine sq ?_
         refine rg ?_
         refine q trivial rfl rfl (mv (v := I (1 + (((kindsC (hdX us2)).length : Nat) : Int))) rfl) ?_
         refine q trivial rfl rfl (lss (k := .i64) (a := 1 + (((kindsC (hdX us2)).length : Nat) : Int)) (b := 0) rfl rfl) ?_
         refine nl ?_
         refine nN ?_
         refine cdd (p := (1 + (((kindsC (hdX us2)).length : Nat) : Int)) < 0) rfl (fun h6 => absurd h6 (by omega)) (fun h6 => ?_)
         refine sk ?_
         refine nN ?_
         refine sq ?_
         refine sq ?_
         refine rg ?_
         refine q trivial rfl rfl (mv (v := I (1 + (((kindsC (hdX us2)).length : Nat) : Int))) rfl) ?_
         refine q trivial rfl rfl (mv (v := I (1 + (((kindsC (hdX us2)).length : Nat) : Int))) rfl) ?_
         refine q trivial rfl rfl (nei (k := .i64) (a := 1 + (((kindsC (hdX us2)).length : Nat) : Int)) (b := 1 + (((kindsC (hdX us2)).length : Nat) : Int)) rfl rfl) ?_
         refine nl ?_
         refine nN ?_
         refine cdd (p := (1 + (((kindsC (hdX us2)).length : Nat) : Int)) ≠ (1 + (((kindsC (hdX us2)).length : Nat) : Int))) rfl (fun h7 => absurd h7 (by exact fun h => h rfl)) (fun h7 => ?_)
         refine sk ?_
         refine nN ?_
         refine sq ?_
         refine rg ?_
         refine q trivial rfl rfl (mv (v := .slice Ahs hs.length chs) rfl) ?_
         refine cl trivial rfl (toIntSS (Ahs := Ahs) (chs := chs) (hs := hs) (w := _) (hhs := (hhs.up0 hs18)) (hhs_in := (fun u hu => Sl.up0 (hhs_in u hu) hs18)) (hhs_n := (by first | omega | (simp; done) | (have hp1 := p1; rcases hp1 with hp | hp; exact absurd hp (by omega); omega))) (hle := (by first | assumption | (have hp1 := p1; rcases hp1 with hp | hp; exact absurd hp (by omega); exact fun u hu => Int.le_trans (hp.2.1 u hu) (by omega))))) ?_
         rintro _ w13 ⟨A6, c6, us5, rfl, p6, hs19'⟩
         have hs19 : SH w w13 [] [.own A2 ((kindsC (hdX us1)).length) c2 3 1 ((kindsC (hdX us1)).map I), .own A4 ((marks 1 (kindsC (hdX us2)).length).length) c4 3 1 ((marks 1 (kindsC (hdX us2)).length).map I), .own A6 us5.length c6 24 1 (us5.map hv), .rows 3 us5] := hs18.call0 hs19'
         clear hs19'
         refine cl trivial rfl (iCountKinds (Ahs := A6) (chs := c6) (hs := us5) (w := _) (hhs := (hs19.sl0 2 rfl)) (hhs_in := (fun u hu => hs19.rows_sl 3 rfl hu))) ?_
         rintro _ w14 ⟨A7, c7, rfl, hs20'⟩
         have hs20 : SH w w14 [] [.own A2 ((kindsC (hdX us1)).length) c2 3 1 ((kindsC (hdX us1)).map I), .own A4 ((marks 1 (kindsC (hdX us2)).length).length) c4 3 1 ((marks 1 (kindsC (hdX us2)).length).map I), .own A6 us5.length c6 24 1 (us5.map hv), .rows 3 us5, .own A7 ((kindsC (hdX us5)).length) c7 3 1 ((kindsC (hdX us5)).map I)] := hs19.call0 hs20'
         clear hs20'
         refine q trivial rfl rfl (asg (v := .slice A7 ((kindsC (hdX us5)).length) c7) rfl) ?_
         refine nl ?_
         refine nN ?_
         have hs21 : SH w w14 [] [.own A2 ((kindsC (hdX us1)).length) c2 3 1 ((kindsC (hdX us1)).map I), .own A4 ((marks 1 (kindsC (hdX us2)).length).length) c4 3 1 ((marks 1 (kindsC (hdX us2)).length).map I), .own A7 ((kindsC (hdX us5)).length) c7 3 1 ((kindsC (hdX us5)).map I)] := hs20.pick [0, 1, 4] rfl (by decide)
         refine sq ?_
         refine sq ?_
         refine rg ?_
         refine q trivial rfl rfl (mv (v := .slice A7 ((kindsC (hdX us5)).length) c7) rfl) ?_
         refine q trivial rfl rfl (mv (v := .slice A2 ((kindsC (hdX us1)).length) c2) rfl) ?_
         refine cl trivial rfl (eqIntS (Axs := A7) (cxs := c7) (xs := kindsC (hdX us5)) (Abs := A2) (cbs := c2) (bs := kindsC (hdX us1)) (w := _) (hxs := (hs21.sl0 2 rfl)) (hbs := (hs21.sl0 0 rfl))) ?_
         rintro _ w15 ⟨rfl, hs22'⟩
         have hs22 : SH w w15 [] [.own A2 ((kindsC (hdX us1)).length) c2 3 1 ((kindsC (hdX us1)).map I), .own A4 ((marks 1 (kindsC (hdX us2)).length).length) c4 3 1 ((marks 1 (kindsC (hdX us2)).length).map I), .own A7 ((kindsC (hdX us5)).length) c7 3 1 ((kindsC (hdX us5)).map I)] := hs21.call0 hs22'
         clear hs22'
         refine q trivial rfl rfl (nd (p := (kindsC (hdX us5)) = (kindsC (hdX us1))) rfl) ?_
         refine nl ?_
         refine nN ?_
         refine cdd (p := ¬ ((kindsC (hdX us5)) = (kindsC (hdX us1)))) rfl (fun h8 => ?_) (fun h8 => ?_)
         · refine sq ?_
           refine rg ?_
           refine q trivial rfl rfl (asg (v := .bool false) rfl) ?_
           refine nl ?_
           refine nN ?_
           refine rt (tR ?_)
           refine fret (v := .bool false) (.tmp .nil) rfl ?_
           have e6 : false = true := by first | rfl | (simp; done) | (simp_all; done) | omega
           exact ⟨(congrArg (Value.bool) e6), (hs22.pick [] rfl (by decide))⟩
         · refine sk ?_
           refine nN ?_
           refine sq ?_
           refine rg ?_
           refine q trivial rfl rfl (asg (v := I 1) rfl) ?_
           refine nl ?_
           refine nN ?_
           refine sq ?_
           refine rg ?_
           refine q trivial rfl rfl (mv (v := .slice A4 ((kindsC (hdX us2)).length) c4) rfl) ?_
           refine q trivial rfl rfl (mv (v := I 1) rfl) ?_
           refine cl trivial rfl (Does.castA (lc (slv rfl e4.symm rfl) (lc rfl rfl)) (heldIntS (Axs := A4) (cxs := c4) (xs := marks 1 (kindsC (hdX us2)).length) (k0 := 1) (w := _) (hxs := (hs22.sl0 1 rfl)) (hxs_n := (by first | omega | (simp; done) | (have hp1 := p1; rcases hp1 with hp | hp; exact absurd hp (by omega); omega))) (hk0 := (by first | omega | (have hp1 := p1; rcases hp1 with hp | hp; exact absurd hp (by omega); have hx1 := hdsN_X p3; have hx2 := hdsN_X p4; omega))))) ?_
           rintro _ w16 ⟨rfl, hs23'⟩
           have hs23 : SH w w16 [] [.own A2 ((kindsC (hdX us1)).length) c2 3 1 ((kindsC (hdX us1)).map I), .own A4 ((marks 1 (kindsC (hdX us2)).length).length) c4 3 1 ((marks 1 (kindsC (hdX us2)).length).map I), .own A7 ((kindsC (hdX us5)).length) c7 3 1 ((kindsC (hdX us5)).map I)] := hs22.call0 hs23'
           clear hs23'
           refine q trivial rfl rfl (asg (v := I (heldI (marks 1 (kindsC (hdX us2)).length) 1)) rfl) ?_
           have e7 : heldI (marks 1 (kindsC (hdX us2)).length) 1 = 1 + (((kindsC (hdX us2)).length : Nat) : Int) := by exact held_marks _ _
           refine re 9 (v := I (1 + (((kindsC (hdX us2)).length : Nat) : Int))) (congrArg (Value.int .i64) e7) ?_
           refine nl ?_
           refine nN ?_
           refine sq ?_
           refine sq ?_
           refine rg ?_
           refine q trivial rfl rfl (mv (v := I (1 + (((kindsC (hdX us2)).length : Nat) : Int))) rfl) ?_
           refine q trivial rfl rfl (lss (k := .i64) (a := 1 + (((kindsC (hdX us2)).length : Nat) : Int)) (b := 0) rfl rfl) ?_
           refine nl ?_
           refine nN ?_
           refine cdd (p := (1 + (((kindsC (hdX us2)).length : Nat) : Int)) < 0) rfl (fun h9 => absurd h9 (by omega)) (fun h9 => ?_)
           refine sk ?_
           refine nN ?_
           refine sq ?_
           refine sq ?_
           refine rg ?_
           refine q trivial rfl rfl (mv (v := I (1 + (((kindsC (hdX us2)).length : Nat) : Int))) rfl) ?_
           refine q trivial rfl rfl (mv (v := I (1 + (((kindsC (hdX us2)).length : Nat) : Int))) rfl) ?_
           refine q trivial rfl rfl (nei (k := .i64) (a := 1 + (((kindsC (hdX us2)).length : Nat) : Int)) (b := 1 + (((kindsC (hdX us2)).length : Nat) : Int)) rfl rfl) ?_
           refine nl ?_
           refine nN ?_
           refine cdd (p := (1 + (((kindsC (hdX us2)).length : Nat) : Int)) ≠ (1 + (((kindsC (hdX us2)).length : Nat) : Int))) rfl (fun h10 => absurd h10 (by exact fun h => h rfl)) (fun h10 => ?_)
           refine sk ?_
           refine nN ?_
           refine sq ?_
           refine rg ?_
           refine q trivial rfl rfl (asg (v := .bool true) rfl) ?_
           refine nl ?_
           refine nN ?_
           refine rt ?_
           refine fret (v := .bool true) (.tmp .nil) rfl ?_
           exact ⟨rfl, (hs23.pick [] rfl (by decide))⟩

end Go.Proofs.Ytjehmnojfpedjaa
