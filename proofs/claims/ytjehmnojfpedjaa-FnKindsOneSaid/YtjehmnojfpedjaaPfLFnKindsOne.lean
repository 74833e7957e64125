/-
  Part of the proofs over this seat: what each function of the program computes, function by function (the text is written by a program of this hand-in's own).
  Conditions: each theorem states its own.
-/
import Derived.Test.YtjehmnojfpedjaaPfWalks3
namespace Go.Proofs.Ytjehmnojfpedjaa
open Go.PF
set_option maxRecDepth 100000
set_option linter.unusedSimpArgs false
set_option linter.unusedVariables false

theorem lKindsOne {Acs : Option Addr} {ccs : Nat} (cs : List UInt8) (w : World) (hcs : Sl w [] 1 Acs cs.length ccs (cs.map U)) : Does Try.prog 5 [.slice Acs cs.length ccs] w (fun v w' => v = .bool true ∧ SH w w' [] []) := by
 refine fn_enter (N := 55) Try.func5 rfl (by kernel_rfl) rfl rfl rfl ?_
 have hs0 : SH w w [] [] := SH.refl w []
 have hcs_m : cs.length ≤ 9223372036854775807 := Nat.le_trans hcs.cap hcs.capMax
 refine sq ?_
 refine rg ?_
 refine q trivial rfl rfl (asg (v := .bool false) rfl) ?_
 refine nl ?_
 refine nN ?_
 refine sq ?_
 refine sq ?_
 refine rg ?_
 refine q trivial rfl rfl (mv (v := .slice Acs cs.length ccs) rfl) ?_
 refine q trivial rfl rfl (lnA (n := cs.length) sl31 rfl) ?_
 refine q trivial rfl rfl (gtr (k := .i64) (a := ((cs.length : Nat) : Int)) (b := 1048576) rfl rfl) ?_
 refine nl ?_
 refine nN ?_
 refine cdd (p := (1048576 : Int) < ((cs.length : Nat) : Int)) rfl (fun h1 => ?_) (fun h1 => ?_)
 · refine sq ?_
   refine rg ?_
   refine q trivial rfl rfl (asg (v := .bool true) rfl) ?_
   refine nl ?_
   refine nN ?_
   refine rt (tR ?_)
   refine fret (v := .bool true) (.tmp .nil) rfl ?_
   exact ⟨rfl, hs0⟩
 · refine sk ?_
   refine nN ?_
   refine sq ?_
   refine rg ?_
   refine q trivial rfl rfl (mv (v := .slice Acs cs.length ccs) rfl) ?_
   refine cl trivial rfl (drawCountKinds (Acs := Acs) (ccs := ccs) (cs := cs) (w := _) (hcs := (hcs.up0 hs0))) ?_
   rintro _ w1 ⟨A1, c1, us1, rfl, p1, hs1'⟩
   have hs1 : SH w w1 [] [.own A1 us1.length c1 24 1 (us1.map hv), .rows 3 us1] := hs0.call0 hs1'
   clear hs1'
   refine q trivial rfl rfl (asg (v := .slice A1 us1.length c1) rfl) ?_
   refine nl ?_
   refine nN ?_
   refine sq ?_
   refine rg ?_
   refine q trivial rfl rfl (mv (v := .slice A1 us1.length c1) rfl) ?_
   refine cl trivial rfl (iCountKinds (Ahs := A1) (chs := c1) (hs := us1) (w := _) (hhs := (hs1.sl0 0 rfl)) (hhs_in := (fun u hu => hs1.rows_sl 1 rfl hu))) ?_
   rintro _ w2 ⟨A2, c2, rfl, hs2'⟩
   have hs2 : SH w w2 [] [.own A1 us1.length c1 24 1 (us1.map hv), .rows 3 us1, .own A2 ((kindsC (hdX us1)).length) c2 3 1 ((kindsC (hdX us1)).map I)] := hs1.call0 hs2'
   clear hs2'
   refine q trivial rfl rfl (asg (v := .slice A2 ((kindsC (hdX us1)).length) c2) rfl) ?_
   refine nl ?_
   refine nN ?_
   refine sq ?_
   refine rg ?_
   refine q trivial rfl rfl (mv (v := .slice A1 us1.length c1) rfl) ?_
   refine cl trivial rfl (sCountKinds (Ahs := A1) (chs := c1) (hs := us1) (w := _) (hhs := (hs2.sl0 0 rfl)) (hhs_in := (fun u hu => hs2.rows_sl 1 rfl hu))) ?_
   rintro _ w3 ⟨A3, c3, rfl, hs3'⟩
   have hs3 : SH w w3 [] [.own A1 us1.length c1 24 1 (us1.map hv), .rows 3 us1, .own A2 ((kindsC (hdX us1)).length) c2 3 1 ((kindsC (hdX us1)).map I), .own A3 ((kindsC (hdX us1)).length) c3 3 1 ((kindsC (hdX us1)).map I)] := hs2.call0 hs3'
   clear hs3'
   refine q trivial rfl rfl (asg (v := .slice A3 ((kindsC (hdX us1)).length) c3) rfl) ?_
   refine nl ?_
   refine nN ?_
   refine sq ?_
   refine sq ?_
   refine rg ?_
   refine q trivial rfl rfl (mv (v := .slice A2 ((kindsC (hdX us1)).length) c2) rfl) ?_
   refine q trivial rfl rfl (mv (v := .slice A3 ((kindsC (hdX us1)).length) c3) rfl) ?_
   refine cl trivial rfl (sameBytes (Axs := A2) (cxs := c2) (xs := kindsC (hdX us1)) (Abs := A3) (cbs := c3) (bs := kindsC (hdX us1)) (w := _) (hxs := (hs3.sl0 2 rfl)) (hbs := (hs3.sl0 3 rfl))) ?_
   rintro _ w4 ⟨rfl, hs4'⟩
   have hs4 : SH w w4 [] [.own A1 us1.length c1 24 1 (us1.map hv), .rows 3 us1, .own A2 ((kindsC (hdX us1)).length) c2 3 1 ((kindsC (hdX us1)).map I), .own A3 ((kindsC (hdX us1)).length) c3 3 1 ((kindsC (hdX us1)).map I)] := hs3.call0 hs4'
   clear hs4'
   refine q trivial rfl rfl (nd (p := (kindsC (hdX us1)) = (kindsC (hdX us1))) rfl) ?_
   refine q trivial rfl rfl (mv (v := .bool (decide (¬ ((kindsC (hdX us1)) = (kindsC (hdX us1)))))) rfl) ?_
   refine spd (p := ¬ ((kindsC (hdX us1)) = (kindsC (hdX us1)))) 22 rfl (fun h2 => absurd h2 (by exact fun h => h rfl)) (fun h2 => ?_)
   refine q ⟨_, rfl, rfl⟩ rfl rfl (mv (v := .slice A1 us1.length c1) rfl) ?_
   refine q ⟨_, rfl, rfl⟩ rfl rfl (lnA (n := us1.length) sl22 rfl) ?_
   refine q ⟨_, rfl, rfl⟩ rfl rfl (eqi (k := .i64) (a := ((us1.length : Nat) : Int)) (b := 0) rfl rfl) ?_
   refine q trivial rfl rfl (pf (v := .bool (decide (((us1.length : Nat) : Int) = 0))) rfl rfl) ?_
   refine nl ?_
   refine nN ?_
   refine cdd (p := ((us1.length : Nat) : Int) = 0) rfl (fun h3 => ?_) (fun h3 => ?_)
   · refine sq ?_
     refine rg ?_
     refine q trivial rfl rfl (mv (v := .slice A2 ((kindsC (hdX us1)).length) c2) rfl) ?_
     refine q trivial rfl rfl (mv (v := .slice A3 ((kindsC (hdX us1)).length) c3) rfl) ?_
     refine cl trivial rfl (sameBytes (Axs := A2) (cxs := c2) (xs := kindsC (hdX us1)) (Abs := A3) (cbs := c3) (bs := kindsC (hdX us1)) (w := _) (hxs := (hs4.sl0 2 rfl)) (hbs := (hs4.sl0 3 rfl))) ?_
     rintro _ w5 ⟨rfl, hs5'⟩
     have hs5 : SH w w5 [] [.own A1 us1.length c1 24 1 (us1.map hv), .rows 3 us1, .own A2 ((kindsC (hdX us1)).length) c2 3 1 ((kindsC (hdX us1)).map I), .own A3 ((kindsC (hdX us1)).length) c3 3 1 ((kindsC (hdX us1)).map I)] := hs4.call0 hs5'
     clear hs5'
     refine q trivial rfl rfl (asg (v := .bool (decide ((kindsC (hdX us1)) = (kindsC (hdX us1))))) rfl) ?_
     refine nl ?_
     refine nN ?_
     have hs6 : SH w w5 [] [] := hs5.pick [] rfl (by decide)
     refine rt (tR ?_)
     refine fret (v := .bool (decide ((kindsC (hdX us1)) = (kindsC (hdX us1))))) (.tmp .nil) rfl ?_
     have e1 : (decide ((kindsC (hdX us1)) = (kindsC (hdX us1)))) = true := by first | (simp; done) | (simp_all; done) | (have hkn := kinds_last (us := us1) (n := (((us1.length : Nat) : Int) - 1).toNat) (by omega); exact decide_eq_true hkn.symm)
     exact ⟨(congrArg (Value.bool) e1), hs6⟩
   · refine sk ?_
     refine nN ?_
     refine sq ?_
     refine rg ?_
     refine q trivial rfl rfl (mv (v := .slice A1 us1.length c1) rfl) ?_
     refine q trivial rfl rfl (lnA (n := us1.length) sl22 rfl) ?_
     refine q trivial rfl rfl (sub (a := ((us1.length : Nat) : Int)) (b := 1) rfl rfl (by exact ⟨by omega, by omega⟩)) ?_
     refine q trivial rfl rfl (asg (v := I (((us1.length : Nat) : Int) - 1)) rfl) ?_
     refine nl ?_
     refine nN ?_
     refine sq ?_
     refine rg ?_
     refine bsk hs4 sl24 [] [] trivial rfl (fun b1 w6 (hs7 : SH w w6 [] [.own A1 us1.length c1 24 1 (us1.map hv), .rows 3 us1, .own A2 ((kindsC (hdX us1)).length) c2 3 1 ((kindsC (hdX us1)).map I), .own A3 ((kindsC (hdX us1)).length) c3 3 1 ((kindsC (hdX us1)).map I), oI b1 ([] : List Int) 0 3]) => ?_)
     refine q trivial rfl rfl (mv (v := .slice A1 us1.length c1) rfl) ?_
     refine q trivial rfl rfl (mv (v := I (((us1.length : Nat) : Int) - 1)) rfl) ?_
     refine q trivial rfl rfl (cuhm_ (zs := us1) ((((us1.length : Nat) : Int) - 1).toNat) sl22 rfl (ieq (x := ((us1.length : Nat) : Int) - 1) (by first | omega | (have hso := sniffK_bd (us1.getD (((us1.length : Nat) : Int) - 1).toNat hd0).xs; have hkl := kindsC_len (hdX (us1.take (((us1.length : Nat) : Int) - 1).toNat)); have hkb := kindsC_bd (hdX (us1.take (((us1.length : Nat) : Int) - 1).toNat)) (sniffK (us1.getD (((us1.length : Nat) : Int) - 1).toNat hd0).xs).toNat; have hkl2 : (hdX (us1.take (((us1.length : Nat) : Int) - 1).toNat)).length ≤ us1.length := (by unfold hdX; rw [List.length_map, List.length_take]; omega); omega))) (by first | omega | (simp; done) | (simp; omega)) (own_cap hs7 0 rfl).1) ?_
     refine cl trivial rfl (iCountKinds (Ahs := A1) (chs := c1) (hs := us1.take ((((us1.length : Nat) : Int) - 1).toNat)) (w := _) (hhs := (Sl.cuthm (hs7.sl0 0 rfl) (by first | omega | (simp; done) | (simp; omega)))) (hhs_in := (fun u hu => (fun u hu => hs7.rows_sl 1 rfl hu) u (List.mem_of_mem_take hu)))) ?_
     rintro _ w7 ⟨A4, c4, rfl, hs8'⟩
     have hs8 : SH w w7 [] [.own A1 us1.length c1 24 1 (us1.map hv), .rows 3 us1, .own A2 ((kindsC (hdX us1)).length) c2 3 1 ((kindsC (hdX us1)).map I), .own A3 ((kindsC (hdX us1)).length) c3 3 1 ((kindsC (hdX us1)).map I), oI b1 ([] : List Int) 0 3, .own A4 ((kindsC (hdX (us1.take ((((us1.length : Nat) : Int) - 1).toNat)))).length) c4 3 1 ((kindsC (hdX (us1.take ((((us1.length : Nat) : Int) - 1).toNat)))).map I)] := hs7.call0 hs8'
     clear hs8'
     refine apm (g := I) (ys := ([] : List Int)) (zs := kindsC (hdX (us1.take ((((us1.length : Nat) : Int) - 1).toNat)))) hs8 4 rfl sl24 rfl rfl rfl (hs8.sl0 5 rfl) (fun _ => rfl) (by unfold maxLen; first | omega | (simp; done) | (simp; omega)) (by first | omega | (simp; done) | (simp; omega)) trivial rfl (fun A5 c5 w8 (hs9 : SH w w8 [] [.own A1 us1.length c1 24 1 (us1.map hv), .rows 3 us1, .own A2 ((kindsC (hdX us1)).length) c2 3 1 ((kindsC (hdX us1)).map I), .own A3 ((kindsC (hdX us1)).length) c3 3 1 ((kindsC (hdX us1)).map I), .own A4 ((kindsC (hdX (us1.take ((((us1.length : Nat) : Int) - 1).toNat)))).length) c4 3 1 ((kindsC (hdX (us1.take ((((us1.length : Nat) : Int) - 1).toNat)))).map I), .own A5 ((kindsC (hdX (us1.take ((((us1.length : Nat) : Int) - 1).toNat)))).length) c5 3 1 ((kindsC (hdX (us1.take ((((us1.length : Nat) : Int) - 1).toNat)))).map I)]) => ?_)
     refine q trivial rfl rfl (asg (v := .slice A5 ((kindsC (hdX (us1.take ((((us1.length : Nat) : Int) - 1).toNat)))).length) c5) rfl) ?_
     refine nl ?_
     refine nN ?_
     have hs10 : SH w w8 [] [.own A1 us1.length c1 24 1 (us1.map hv), .rows 3 us1, .own A2 ((kindsC (hdX us1)).length) c2 3 1 ((kindsC (hdX us1)).map I), .own A5 ((kindsC (hdX (us1.take ((((us1.length : Nat) : Int) - 1).toNat)))).length) c5 3 1 ((kindsC (hdX (us1.take ((((us1.length : Nat) : Int) - 1).toNat)))).map I)] := hs9.pick [0, 1, 2, 5] rfl (by decide)
     refine sq ?_
     refine rg ?_
     refine q trivial rfl rfl (mv (v := .slice A1 us1.length c1) rfl) ?_
     refine q trivial rfl rfl (mv (v := I (((us1.length : Nat) : Int) - 1)) rfl) ?_
     refine ixw1 ((((us1.length : Nat) : Int) - 1).toNat) sl22 rfl (ieq (x := ((us1.length : Nat) : Int) - 1) (by first | omega | (have hso := sniffK_bd (us1.getD (((us1.length : Nat) : Int) - 1).toNat hd0).xs; have hkl := kindsC_len (hdX (us1.take (((us1.length : Nat) : Int) - 1).toNat)); have hkb := kindsC_bd (hdX (us1.take (((us1.length : Nat) : Int) - 1).toNat)) (sniffK (us1.getD (((us1.length : Nat) : Int) - 1).toNat hd0).xs).toNat; have hkl2 : (hdX (us1.take (((us1.length : Nat) : Int) - 1).toNat)).length ≤ us1.length := (by unfold hdX; rw [List.length_map, List.length_take]; omega); omega))) (hs10.sl0 0 rfl) (by first | omega | (have hso := sniffK_bd (us1.getD (((us1.length : Nat) : Int) - 1).toNat hd0).xs; have hkl := kindsC_len (hdX (us1.take (((us1.length : Nat) : Int) - 1).toNat)); have hkb := kindsC_bd (hdX (us1.take (((us1.length : Nat) : Int) - 1).toNat)) (sniffK (us1.getD (((us1.length : Nat) : Int) - 1).toNat hd0).xs).toNat; have hkl2 : (hdX (us1.take (((us1.length : Nat) : Int) - 1).toNat)).length ≤ us1.length := (by unfold hdX; rw [List.length_map, List.length_take]; omega); omega)) (getm hv hd0 (by first | omega | (have hso := sniffK_bd (us1.getD (((us1.length : Nat) : Int) - 1).toNat hd0).xs; have hkl := kindsC_len (hdX (us1.take (((us1.length : Nat) : Int) - 1).toNat)); have hkb := kindsC_bd (hdX (us1.take (((us1.length : Nat) : Int) - 1).toNat)) (sniffK (us1.getD (((us1.length : Nat) : Int) - 1).toNat hd0).xs).toNat; have hkl2 : (hdX (us1.take (((us1.length : Nat) : Int) - 1).toNat)).length ≤ us1.length := (by unfold hdX; rw [List.length_map, List.length_take]; omega); omega))) trivial rfl (fun a1 ha1 => ?_)
     refine q trivial rfl rfl (lda (v := .slice ((us1.getD ((((us1.length : Nat) : Int) - 1).toNat) hd0).A) (((us1.getD ((((us1.length : Nat) : Int) - 1).toNat) hd0).xs).length) ((us1.getD ((((us1.length : Nat) : Int) - 1).toNat) hd0).c)) (SH.refl w8 []) ha1 (fun _ h => h) rfl rfl one24) ?_
     refine cl trivial rfl (iSniffKind (Ab := (us1.getD ((((us1.length : Nat) : Int) - 1).toNat) hd0).A) (cb := (us1.getD ((((us1.length : Nat) : Int) - 1).toNat) hd0).c) (b := (us1.getD ((((us1.length : Nat) : Int) - 1).toNat) hd0).xs) (w := _) (hb := (hs10.rows_sl 1 rfl (getD_mem' (by first | omega | (have hso := sniffK_bd (us1.getD (((us1.length : Nat) : Int) - 1).toNat hd0).xs; have hkl := kindsC_len (hdX (us1.take (((us1.length : Nat) : Int) - 1).toNat)); have hkb := kindsC_bd (hdX (us1.take (((us1.length : Nat) : Int) - 1).toNat)) (sniffK (us1.getD (((us1.length : Nat) : Int) - 1).toNat hd0).xs).toNat; have hkl2 : (hdX (us1.take (((us1.length : Nat) : Int) - 1).toNat)).length ≤ us1.length := (by unfold hdX; rw [List.length_map, List.length_take]; omega); omega)))))) ?_
     rintro _ w9 ⟨rfl, hs11'⟩
     have hs11 : SH w w9 [] [.own A1 us1.length c1 24 1 (us1.map hv), .rows 3 us1, .own A2 ((kindsC (hdX us1)).length) c2 3 1 ((kindsC (hdX us1)).map I), .own A5 ((kindsC (hdX (us1.take ((((us1.length : Nat) : Int) - 1).toNat)))).length) c5 3 1 ((kindsC (hdX (us1.take ((((us1.length : Nat) : Int) - 1).toNat)))).map I)] := hs10.call0 hs11'
     clear hs11'
     refine q trivial rfl rfl (asg (v := I (sniffK ((us1.getD ((((us1.length : Nat) : Int) - 1).toNat) hd0).xs))) rfl) ?_
     refine nl ?_
     refine nN ?_
     have hs12 : SH w w9 [] [.own A2 ((kindsC (hdX us1)).length) c2 3 1 ((kindsC (hdX us1)).map I), .own A5 ((kindsC (hdX (us1.take ((((us1.length : Nat) : Int) - 1).toNat)))).length) c5 3 1 ((kindsC (hdX (us1.take ((((us1.length : Nat) : Int) - 1).toNat)))).map I)] := hs11.pick [2, 3] rfl (by decide)
     refine sq ?_
     refine rg ?_
     refine q trivial rfl rfl (mv (v := .slice A5 ((kindsC (hdX (us1.take ((((us1.length : Nat) : Int) - 1).toNat)))).length) c5) rfl) ?_
     refine q trivial rfl rfl (mv (v := I (sniffK ((us1.getD ((((us1.length : Nat) : Int) - 1).toNat) hd0).xs))) rfl) ?_
     refine q trivial rfl rfl (mv (v := .slice A5 ((kindsC (hdX (us1.take ((((us1.length : Nat) : Int) - 1).toNat)))).length) c5) rfl) ?_
     refine q trivial rfl rfl (mv (v := I (sniffK ((us1.getD ((((us1.length : Nat) : Int) - 1).toNat) hd0).xs))) rfl) ?_
     refine ixw1 ((sniffK ((us1.getD ((((us1.length : Nat) : Int) - 1).toNat) hd0).xs)).toNat) sl24 rfl (ieq (x := sniffK ((us1.getD ((((us1.length : Nat) : Int) - 1).toNat) hd0).xs)) (by first | omega | (have hso := sniffK_bd (us1.getD (((us1.length : Nat) : Int) - 1).toNat hd0).xs; have hkl := kindsC_len (hdX (us1.take (((us1.length : Nat) : Int) - 1).toNat)); have hkb := kindsC_bd (hdX (us1.take (((us1.length : Nat) : Int) - 1).toNat)) (sniffK (us1.getD (((us1.length : Nat) : Int) - 1).toNat hd0).xs).toNat; have hkl2 : (hdX (us1.take (((us1.length : Nat) : Int) - 1).toNat)).length ≤ us1.length := (by unfold hdX; rw [List.length_map, List.length_take]; omega); omega))) (hs12.sl0 1 rfl) (by first | omega | (have hso := sniffK_bd (us1.getD (((us1.length : Nat) : Int) - 1).toNat hd0).xs; have hkl := kindsC_len (hdX (us1.take (((us1.length : Nat) : Int) - 1).toNat)); have hkb := kindsC_bd (hdX (us1.take (((us1.length : Nat) : Int) - 1).toNat)) (sniffK (us1.getD (((us1.length : Nat) : Int) - 1).toNat hd0).xs).toNat; have hkl2 : (hdX (us1.take (((us1.length : Nat) : Int) - 1).toNat)).length ≤ us1.length := (by unfold hdX; rw [List.length_map, List.length_take]; omega); omega)) (getm I 0 (by first | omega | (have hso := sniffK_bd (us1.getD (((us1.length : Nat) : Int) - 1).toNat hd0).xs; have hkl := kindsC_len (hdX (us1.take (((us1.length : Nat) : Int) - 1).toNat)); have hkb := kindsC_bd (hdX (us1.take (((us1.length : Nat) : Int) - 1).toNat)) (sniffK (us1.getD (((us1.length : Nat) : Int) - 1).toNat hd0).xs).toNat; have hkl2 : (hdX (us1.take (((us1.length : Nat) : Int) - 1).toNat)).length ≤ us1.length := (by unfold hdX; rw [List.length_map, List.length_take]; omega); omega))) trivial rfl (fun a2 ha2 => ?_)
     refine q trivial rfl rfl (lda (v := I ((kindsC (hdX (us1.take ((((us1.length : Nat) : Int) - 1).toNat)))).getD ((sniffK ((us1.getD ((((us1.length : Nat) : Int) - 1).toNat) hd0).xs)).toNat) 0)) (SH.refl w9 []) ha2 (fun _ h => h) rfl rfl one3) ?_
     refine q trivial rfl rfl (add (a := (kindsC (hdX (us1.take ((((us1.length : Nat) : Int) - 1).toNat)))).getD ((sniffK ((us1.getD ((((us1.length : Nat) : Int) - 1).toNat) hd0).xs)).toNat) 0) (b := 1) rfl rfl (by (have hso := sniffK_bd (us1.getD (((us1.length : Nat) : Int) - 1).toNat hd0).xs; have hkl := kindsC_len (hdX (us1.take (((us1.length : Nat) : Int) - 1).toNat)); have hkb := kindsC_bd (hdX (us1.take (((us1.length : Nat) : Int) - 1).toNat)) (sniffK (us1.getD (((us1.length : Nat) : Int) - 1).toNat hd0).xs).toNat; have hkl2 : (hdX (us1.take (((us1.length : Nat) : Int) - 1).toNat)).length ≤ us1.length := (by unfold hdX; rw [List.length_map, List.length_take]; omega); exact ⟨by omega, by omega⟩))) ?_
     obtain ⟨b2, rfl⟩ := own_form hs12 1 rfl (by first | omega | (have hso := sniffK_bd (us1.getD (((us1.length : Nat) : Int) - 1).toNat hd0).xs; have hkl := kindsC_len (hdX (us1.take (((us1.length : Nat) : Int) - 1).toNat)); have hkb := kindsC_bd (hdX (us1.take (((us1.length : Nat) : Int) - 1).toNat)) (sniffK (us1.getD (((us1.length : Nat) : Int) - 1).toNat hd0).xs).toNat; have hkl2 : (hdX (us1.take (((us1.length : Nat) : Int) - 1).toNat)).length ≤ us1.length := (by unfold hdX; rw [List.length_map, List.length_take]; omega); omega))
     refine q trivial rfl rfl (ixo ((sniffK ((us1.getD ((((us1.length : Nat) : Int) - 1).toNat) hd0).xs)).toNat) sl24 rfl (ieq (x := sniffK ((us1.getD ((((us1.length : Nat) : Int) - 1).toNat) hd0).xs)) (by first | omega | (have hso := sniffK_bd (us1.getD (((us1.length : Nat) : Int) - 1).toNat hd0).xs; have hkl := kindsC_len (hdX (us1.take (((us1.length : Nat) : Int) - 1).toNat)); have hkb := kindsC_bd (hdX (us1.take (((us1.length : Nat) : Int) - 1).toNat)) (sniffK (us1.getD (((us1.length : Nat) : Int) - 1).toNat hd0).xs).toNat; have hkl2 : (hdX (us1.take (((us1.length : Nat) : Int) - 1).toNat)).length ≤ us1.length := (by unfold hdX; rw [List.length_map, List.length_take]; omega); omega))) (by first | omega | (have hso := sniffK_bd (us1.getD (((us1.length : Nat) : Int) - 1).toNat hd0).xs; have hkl := kindsC_len (hdX (us1.take (((us1.length : Nat) : Int) - 1).toNat)); have hkb := kindsC_bd (hdX (us1.take (((us1.length : Nat) : Int) - 1).toNat)) (sniffK (us1.getD (((us1.length : Nat) : Int) - 1).toNat hd0).xs).toNat; have hkl2 : (hdX (us1.take (((us1.length : Nat) : Int) - 1).toNat)).length ≤ us1.length := (by unfold hdX; rw [List.length_map, List.length_take]; omega); omega))) ?_
     refine stomn (g := I) (ys := kindsC (hdX (us1.take ((((us1.length : Nat) : Int) - 1).toNat)))) (o := (sniffK ((us1.getD ((((us1.length : Nat) : Int) - 1).toNat) hd0).xs)).toNat) (u := ((kindsC (hdX (us1.take ((((us1.length : Nat) : Int) - 1).toNat)))).getD ((sniffK ((us1.getD ((((us1.length : Nat) : Int) - 1).toNat) hd0).xs)).toNat) 0) + 1) hs12 1 rfl rfl rfl rfl (by first | omega | (have hso := sniffK_bd (us1.getD (((us1.length : Nat) : Int) - 1).toNat hd0).xs; have hkl := kindsC_len (hdX (us1.take (((us1.length : Nat) : Int) - 1).toNat)); have hkb := kindsC_bd (hdX (us1.take (((us1.length : Nat) : Int) - 1).toNat)) (sniffK (us1.getD (((us1.length : Nat) : Int) - 1).toNat hd0).xs).toNat; have hkl2 : (hdX (us1.take (((us1.length : Nat) : Int) - 1).toNat)).length ≤ us1.length := (by unfold hdX; rw [List.length_map, List.length_take]; omega); omega)) rfl one3 trivial (fun w10 (hs13 : SH w w10 [] [.own A2 ((kindsC (hdX us1)).length) c2 3 1 ((kindsC (hdX us1)).map I), .own (some ⟨b2, 0, none⟩) ((kindsC (hdX (us1.take ((((us1.length : Nat) : Int) - 1).toNat)))).length) c5 3 1 (((kindsC (hdX (us1.take ((((us1.length : Nat) : Int) - 1).toNat)))).set ((sniffK ((us1.getD ((((us1.length : Nat) : Int) - 1).toNat) hd0).xs)).toNat) (((kindsC (hdX (us1.take ((((us1.length : Nat) : Int) - 1).toNat)))).getD ((sniffK ((us1.getD ((((us1.length : Nat) : Int) - 1).toNat) hd0).xs)).toNat) 0) + 1)).map I)]) => ?_)
     refine nl ?_
     refine nN ?_
     refine sq ?_
     refine rg ?_
     refine q trivial rfl rfl (mv (v := sb b2 ((kindsC (hdX (us1.take ((((us1.length : Nat) : Int) - 1).toNat)))).length) c5) rfl) ?_
     refine q trivial rfl rfl (mv (v := .slice A2 ((kindsC (hdX us1)).length) c2) rfl) ?_
     have e2 : (kindsC (hdX (us1.take ((((us1.length : Nat) : Int) - 1).toNat)))).length = ((kindsC (hdX (us1.take ((((us1.length : Nat) : Int) - 1).toNat)))).set ((sniffK ((us1.getD ((((us1.length : Nat) : Int) - 1).toNat) hd0).xs)).toNat) (((kindsC (hdX (us1.take ((((us1.length : Nat) : Int) - 1).toNat)))).getD ((sniffK ((us1.getD ((((us1.length : Nat) : Int) - 1).toNat) hd0).xs)).toNat) 0) + 1)).length := by first | rfl | (simp; done) | (simp; omega) | omega
     have hs14 : SH w w10 [] [.own A2 ((kindsC (hdX us1)).length) c2 3 1 ((kindsC (hdX us1)).map I), oI b2 ((kindsC (hdX (us1.take ((((us1.length : Nat) : Int) - 1).toNat)))).set ((sniffK ((us1.getD ((((us1.length : Nat) : Int) - 1).toNat) hd0).xs)).toNat) (((kindsC (hdX (us1.take ((((us1.length : Nat) : Int) - 1).toNat)))).getD ((sniffK ((us1.getD ((((us1.length : Nat) : Int) - 1).toNat) hd0).xs)).toNat) 0) + 1)) c5 3] := (hs13.cast (lc rfl (lc (own_eq (g := I) rfl e2 rfl rfl) rfl)))
     refine cl trivial rfl (Does.castA (lc (slv rfl e2.symm rfl) (lc rfl rfl)) (sameBytes (Axs := (some ⟨b2, 0, none⟩)) (cxs := c5) (xs := (kindsC (hdX (us1.take ((((us1.length : Nat) : Int) - 1).toNat)))).set ((sniffK ((us1.getD ((((us1.length : Nat) : Int) - 1).toNat) hd0).xs)).toNat) (((kindsC (hdX (us1.take ((((us1.length : Nat) : Int) - 1).toNat)))).getD ((sniffK ((us1.getD ((((us1.length : Nat) : Int) - 1).toNat) hd0).xs)).toNat) 0) + 1)) (Abs := A2) (cbs := c2) (bs := kindsC (hdX us1)) (w := _) (hxs := (hs14.sl0 1 rfl)) (hbs := (hs14.sl0 0 rfl)))) ?_
     rintro _ w11 ⟨rfl, hs15'⟩
     have hs15 : SH w w11 [] [.own A2 ((kindsC (hdX us1)).length) c2 3 1 ((kindsC (hdX us1)).map I), oI b2 ((kindsC (hdX (us1.take ((((us1.length : Nat) : Int) - 1).toNat)))).set ((sniffK ((us1.getD ((((us1.length : Nat) : Int) - 1).toNat) hd0).xs)).toNat) (((kindsC (hdX (us1.take ((((us1.length : Nat) : Int) - 1).toNat)))).getD ((sniffK ((us1.getD ((((us1.length : Nat) : Int) - 1).toNat) hd0).xs)).toNat) 0) + 1)) c5 3] := hs14.call0 hs15'
     clear hs15'
     refine q trivial rfl rfl (asg (v := .bool (decide (((kindsC (hdX (us1.take ((((us1.length : Nat) : Int) - 1).toNat)))).set ((sniffK ((us1.getD ((((us1.length : Nat) : Int) - 1).toNat) hd0).xs)).toNat) (((kindsC (hdX (us1.take ((((us1.length : Nat) : Int) - 1).toNat)))).getD ((sniffK ((us1.getD ((((us1.length : Nat) : Int) - 1).toNat) hd0).xs)).toNat) 0) + 1)) = (kindsC (hdX us1))))) rfl) ?_
     refine nl ?_
     refine nN ?_
     refine rt ?_
     refine fret (v := .bool (decide (((kindsC (hdX (us1.take ((((us1.length : Nat) : Int) - 1).toNat)))).set ((sniffK ((us1.getD ((((us1.length : Nat) : Int) - 1).toNat) hd0).xs)).toNat) (((kindsC (hdX (us1.take ((((us1.length : Nat) : Int) - 1).toNat)))).getD ((sniffK ((us1.getD ((((us1.length : Nat) : Int) - 1).toNat) hd0).xs)).toNat) 0) + 1)) = (kindsC (hdX us1))))) (.tmp .nil) rfl ?_
     have e3 : (decide (((kindsC (hdX (us1.take ((((us1.length : Nat) : Int) - 1).toNat)))).set ((sniffK ((us1.getD ((((us1.length : Nat) : Int) - 1).toNat) hd0).xs)).toNat) (((kindsC (hdX (us1.take ((((us1.length : Nat) : Int) - 1).toNat)))).getD ((sniffK ((us1.getD ((((us1.length : Nat) : Int) - 1).toNat) hd0).xs)).toNat) 0) + 1)) = (kindsC (hdX us1)))) = true := by first | (simp; done) | (simp_all; done) | (have hkn := kinds_last (us := us1) (n := (((us1.length : Nat) : Int) - 1).toNat) (by omega); exact decide_eq_true hkn.symm)
     exact ⟨(congrArg (Value.bool) e3), (hs15.pick [] rfl (by decide))⟩

end Go.Proofs.Ytjehmnojfpedjaa
