/-
  Part of the proofs over this seat: what each function of the program computes, function by function (the text is written by a program of this hand-in's own).
  Conditions: each theorem states its own.
-/
import Derived.Test.YtjehmnojfpedjaaPfWalks3
namespace Go.Proofs.Ytjehmnojfpedjaa
open Go.PF
set_option maxRecDepth 100000
set_option linter.unusedSimpArgs false
set_option linter.unusedVariables false

theorem lKinds {Acs : Option Addr} {ccs : Nat} (cs : List UInt8) (w : World) (hcs : Sl w [] 1 Acs cs.length ccs (cs.map U)) : Does Try.prog 4 [.slice Acs cs.length ccs] w (fun v w' => v = .bool true ∧ SH w w' [] []) := by
 refine fn_enter (N := 45) Try.func4 rfl (by kernel_rfl) rfl rfl rfl ?_
 have hs0 : SH w w [] [] := SH.refl w []
 have hcs_m : cs.length ≤ 9223372036854775807 := Nat.le_trans hcs.cap hcs.capMax
 refine sq ?_
 refine rg ?_
 refine q trivial rfl rfl (asg (v := .bool false) rfl) ?_
 refine nl ?_
 refine nN ?_
 refine sq ?_
 refine sq ?_
 refine rg ?_
 refine q trivial rfl rfl (mv (v := .slice Acs cs.length ccs) rfl) ?_
 refine q trivial rfl rfl (lnA (n := cs.length) sl31 rfl) ?_
 refine q trivial rfl rfl (gtr (k := .i64) (a := ((cs.length : Nat) : Int)) (b := 1048576) rfl rfl) ?_
 refine nl ?_
 refine nN ?_
 refine cdd (p := (1048576 : Int) < ((cs.length : Nat) : Int)) rfl (fun h1 => ?_) (fun h1 => ?_)
 · refine sq ?_
   refine rg ?_
   refine q trivial rfl rfl (asg (v := .bool true) rfl) ?_
   refine nl ?_
   refine nN ?_
   refine rt (tR ?_)
   refine fret (v := .bool true) (.tmp .nil) rfl ?_
   exact ⟨rfl, hs0⟩
 · refine sk ?_
   refine nN ?_
   refine sq ?_
   refine rg ?_
   refine q trivial rfl rfl (mv (v := .slice Acs cs.length ccs) rfl) ?_
   refine cl trivial rfl (drawCountKinds (Acs := Acs) (ccs := ccs) (cs := cs) (w := _) (hcs := (hcs.up0 hs0))) ?_
   rintro _ w1 ⟨A1, c1, us1, rfl, p1, hs1'⟩
   have hs1 : SH w w1 [] [.own A1 us1.length c1 24 1 (us1.map hv), .rows 3 us1] := hs0.call0 hs1'
   clear hs1'
   refine q trivial rfl rfl (asg (v := .slice A1 us1.length c1) rfl) ?_
   refine nl ?_
   refine nN ?_
   refine sq ?_
   refine rg ?_
   refine q trivial rfl rfl (mv (v := .slice A1 us1.length c1) rfl) ?_
   refine cl trivial rfl (iCountKinds (Ahs := A1) (chs := c1) (hs := us1) (w := _) (hhs := (hs1.sl0 0 rfl)) (hhs_in := (fun u hu => hs1.rows_sl 1 rfl hu))) ?_
   rintro _ w2 ⟨A2, c2, rfl, hs2'⟩
   have hs2 : SH w w2 [] [.own A1 us1.length c1 24 1 (us1.map hv), .rows 3 us1, .own A2 ((kindsC (hdX us1)).length) c2 3 1 ((kindsC (hdX us1)).map I)] := hs1.call0 hs2'
   clear hs2'
   refine q trivial rfl rfl (asg (v := .slice A2 ((kindsC (hdX us1)).length) c2) rfl) ?_
   refine nl ?_
   refine nN ?_
   refine sq ?_
   refine rg ?_
   refine q trivial rfl rfl (mv (v := .slice A1 us1.length c1) rfl) ?_
   refine cl trivial rfl (sCountKinds (Ahs := A1) (chs := c1) (hs := us1) (w := _) (hhs := (hs2.sl0 0 rfl)) (hhs_in := (fun u hu => hs2.rows_sl 1 rfl hu))) ?_
   rintro _ w3 ⟨A3, c3, rfl, hs3'⟩
   have hs3 : SH w w3 [] [.own A1 us1.length c1 24 1 (us1.map hv), .rows 3 us1, .own A2 ((kindsC (hdX us1)).length) c2 3 1 ((kindsC (hdX us1)).map I), .own A3 ((kindsC (hdX us1)).length) c3 3 1 ((kindsC (hdX us1)).map I)] := hs2.call0 hs3'
   clear hs3'
   refine q trivial rfl rfl (asg (v := .slice A3 ((kindsC (hdX us1)).length) c3) rfl) ?_
   refine nl ?_
   refine nN ?_
   refine sq ?_
   refine sq ?_
   refine rg ?_
   refine q trivial rfl rfl (mv (v := .slice A2 ((kindsC (hdX us1)).length) c2) rfl) ?_
   refine q trivial rfl rfl (mv (v := .slice A3 ((kindsC (hdX us1)).length) c3) rfl) ?_
   refine cl trivial rfl (sameBytes (Axs := A2) (cxs := c2) (xs := kindsC (hdX us1)) (Abs := A3) (cbs := c3) (bs := kindsC (hdX us1)) (w := _) (hxs := (hs3.sl0 2 rfl)) (hbs := (hs3.sl0 3 rfl))) ?_
   rintro _ w4 ⟨rfl, hs4'⟩
   have hs4 : SH w w4 [] [.own A1 us1.length c1 24 1 (us1.map hv), .rows 3 us1, .own A2 ((kindsC (hdX us1)).length) c2 3 1 ((kindsC (hdX us1)).map I), .own A3 ((kindsC (hdX us1)).length) c3 3 1 ((kindsC (hdX us1)).map I)] := hs3.call0 hs4'
   clear hs4'
   refine q trivial rfl rfl (nd (p := (kindsC (hdX us1)) = (kindsC (hdX us1))) rfl) ?_
   refine nl ?_
   refine nN ?_
   refine cdd (p := ¬ ((kindsC (hdX us1)) = (kindsC (hdX us1)))) rfl (fun h2 => absurd h2 (by exact fun h => h rfl)) (fun h2 => ?_)
   refine sk ?_
   refine nN ?_
   refine sq ?_
   refine rg ?_
   refine q trivial rfl rfl (asg (v := I 0) rfl) ?_
   refine nl ?_
   refine nN ?_
   refine sq ?_
   refine sq ?_
   refine rg ?_
   refine q trivial rfl rfl (asg (v := I 0) rfl) ?_
   refine nl ?_
   refine nN ?_
   refine bl ?_
   refine lp (σ := Nat) (fun (k : Nat) f w' => Has f [(3, .slice A1 us1.length c1), (4, .slice A2 ((kindsC (hdX us1)).length) c2), (6, I (((kindsC (hdX us1)).take k).sum)), (7, I ((k : Nat) : Int))] ∧ (k ≤ (kindsC (hdX us1)).length) ∧ SH w w' [] [.own A1 us1.length c1 24 1 (us1.map hv), .rows 3 us1, .own A2 ((kindsC (hdX us1)).length) c2 3 1 ((kindsC (hdX us1)).map I), .own A3 ((kindsC (hdX us1)).length) c3 3 1 ((kindsC (hdX us1)).map I)]) (fun k => (kindsC (hdX us1)).length - k) 0 ⟨⟨rfl, rfl, (show (I 0 : Value) = I (((kindsC (hdX us1)).take 0).sum) from congrArg (Value.int .i64) (by simp)), rfl, trivial⟩, (by simp), hs4⟩ ?_
   rintro k f w5 ⟨hf, hk, hs5⟩
   obtain ⟨g1, rfl⟩ := has_upd hf
   clear hf
   refine sq ?_
   refine sq ?_
   refine rg ?_
   refine q trivial rfl rfl (mv (v := I ((k : Nat) : Int)) rfl) ?_
   refine q trivial rfl rfl (mv (v := .slice A2 ((kindsC (hdX us1)).length) c2) rfl) ?_
   refine q trivial rfl rfl (lnA (n := (kindsC (hdX us1)).length) sl24 rfl) ?_
   refine q trivial rfl rfl (lss (k := .i64) (a := ((k : Nat) : Int)) (b := (((kindsC (hdX us1)).length : Nat) : Int)) rfl rfl) ?_
   refine nl ?_
   refine nN ?_
   refine cdd (p := ((k : Nat) : Int) < (((kindsC (hdX us1)).length : Nat) : Int)) rfl (fun h3 => ?_) (fun h3 => ?_)
   · refine sk ?_
     refine nN ?_
     refine sq ?_
     refine bl ?_
     refine rg ?_
     refine q trivial rfl rfl (mv (v := I (((kindsC (hdX us1)).take k).sum)) rfl) ?_
     refine q trivial rfl rfl (mv (v := .slice A2 ((kindsC (hdX us1)).length) c2) rfl) ?_
     refine q trivial rfl rfl (mv (v := I ((k : Nat) : Int)) rfl) ?_
     refine ixw1 k sl24 rfl rfl (hs5.sl0 2 rfl) (by omega) (getm I 0 (by omega)) trivial rfl (fun a1 ha1 => ?_)
     refine q trivial rfl rfl (lda (v := I ((kindsC (hdX us1)).getD k 0)) (SH.refl w5 []) ha1 (fun _ h => h) rfl rfl one3) ?_
     refine q trivial rfl rfl (add (a := ((kindsC (hdX us1)).take k).sum) (b := (kindsC (hdX us1)).getD k 0) rfl rfl (by (have hkl7 := kindsC_len (hdX us1); have hkb := sum_take_bd (hdX us1) k; have hkc := kindsC_bd (hdX us1) k; have hul : (hdX us1).length = us1.length := (by simp [hdX]); exact ⟨by omega, by omega⟩))) ?_
     refine q trivial rfl rfl (asg (v := I ((((kindsC (hdX us1)).take k).sum) + ((kindsC (hdX us1)).getD k 0))) rfl) ?_
     refine nl ?_
     refine bN ?_
     refine nN ?_
     refine rg ?_
     refine q trivial rfl rfl (mv (v := I ((k : Nat) : Int)) rfl) ?_
     refine q trivial rfl rfl (add (a := ((k : Nat) : Int)) (b := 1) rfl rfl (by (have hkl7 := kindsC_len (hdX us1); have hkb := sum_take_bd (hdX us1) k; have hkc := kindsC_bd (hdX us1) k; have hul : (hdX us1).length = us1.length := (by simp [hdX]); exact ⟨by omega, by omega⟩))) ?_
     refine q trivial rfl rfl (asg (v := I (((k : Nat) : Int) + 1)) rfl) ?_
     refine nl ?_
     refine nN ?_
     refine ⟨(k + 1), ⟨⟨rfl, rfl, (show (I ((((kindsC (hdX us1)).take k).sum) + ((kindsC (hdX us1)).getD k 0)) : Value) = I (((kindsC (hdX us1)).take (k + 1)).sum) from congrArg (Value.int .i64) (by exact sum_take_succ (by omega))), rfl, trivial⟩, (by omega), hs5⟩, ?_⟩
     omega
   · refine ex (tE (tE (bE ?_)))
     refine nN ?_
     refine sq ?_
     refine rg ?_
     refine q trivial rfl rfl (mv (v := I (((kindsC (hdX us1)).take k).sum)) rfl) ?_
     refine q trivial rfl rfl (mv (v := .slice A1 us1.length c1) rfl) ?_
     refine q trivial rfl rfl (lnA (n := us1.length) sl22 rfl) ?_
     refine q trivial rfl rfl (eqi (k := .i64) (a := ((kindsC (hdX us1)).take k).sum) (b := ((us1.length : Nat) : Int)) rfl rfl) ?_
     refine q trivial rfl rfl (mv (v := .bool (decide ((((kindsC (hdX us1)).take k).sum) = ((us1.length : Nat) : Int)))) rfl) ?_
     refine spd (p := (((kindsC (hdX us1)).take k).sum) = ((us1.length : Nat) : Int)) 40 rfl (fun h4 => ?_) (fun h4 => ?_)
     · refine q ⟨_, rfl, rfl⟩ rfl rfl (mv (v := .slice A2 ((kindsC (hdX us1)).length) c2) rfl) ?_
       refine q ⟨_, rfl, rfl⟩ rfl rfl (lnA (n := (kindsC (hdX us1)).length) sl24 rfl) ?_
       refine q ⟨_, rfl, rfl⟩ rfl rfl (eqi (k := .i64) (a := (((kindsC (hdX us1)).length : Nat) : Int)) (b := 7) rfl rfl) ?_
       refine q trivial rfl rfl (pt (v := .bool (decide ((((kindsC (hdX us1)).length : Nat) : Int) = 7))) rfl rfl) ?_
       refine q trivial rfl rfl (asg (v := .bool (decide ((((kindsC (hdX us1)).length : Nat) : Int) = 7))) rfl) ?_
       refine nl ?_
       refine nN ?_
       have hs6 : SH w w5 [] [] := hs5.pick [] rfl (by decide)
       refine rt ?_
       refine fret (v := .bool (decide ((((kindsC (hdX us1)).length : Nat) : Int) = 7))) (.tmp .nil) rfl ?_
       have e1 : (decide ((((kindsC (hdX us1)).length : Nat) : Int) = 7)) = true := by (have y := kinds_sum_all (us := us1) (k := k) (by omega); simp_all)
       exact ⟨(congrArg (Value.bool) e1), hs6⟩
     · refine gk false rfl rfl rfl rfl rfl ?_
       refine gk false rfl rfl rfl rfl rfl ?_
       refine gk false rfl rfl rfl rfl rfl ?_
       refine q trivial rfl rfl (pf (v := .bool false) rfl rfl) ?_
       refine q trivial rfl rfl (asg (v := .bool false) rfl) ?_
       refine nl ?_
       refine nN ?_
       have hs7 : SH w w5 [] [] := hs5.pick [] rfl (by decide)
       refine rt ?_
       refine fret (v := .bool false) (.tmp .nil) rfl ?_
       have e2 : false = true := by (have y := kinds_sum_all (us := us1) (k := k) (by omega); simp_all)
       exact ⟨(congrArg (Value.bool) e2), hs7⟩

end Go.Proofs.Ytjehmnojfpedjaa
