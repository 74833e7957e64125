/-
  Part of the proofs over this seat: what each function of the program computes, function by function (the text is written by a program of this hand-in's own).
  Conditions: each theorem states its own.
-/
import Derived.Test.YtogejeniggngjaaDoorPfWalks2
namespace Go.Proofs.YtogejeniggngjaaDoor
open Go.PF
set_option maxRecDepth 100000
set_option linter.unusedSimpArgs false
set_option linter.unusedVariables false

theorem iAddressValid (ak : Int) {Aaq : Option Addr} {caq : Nat} (aq : List Int) (an : List UInt8) (apt : Int) (w : World) (haq : Sl w [] 1 Aaq aq.length caq (aq.map I)) (han_n : an.length ≤ 1099511627776) : Does Tryd.prog 14 [.agg #[I ak, .slice Aaq aq.length caq, Str an, I apt]] w (fun v w' => v = .bool (addrOk ak aq an apt) ∧ SH w w' [] []) := by
 refine fn_enter (N := 36) Tryd.func14 rfl (by kernel_rfl) rfl rfl rfl ?_
 have hs0 : SH w w [] [] := SH.refl w []
 have haq_m : aq.length ≤ 9223372036854775807 := Nat.le_trans haq.cap haq.capMax
 refine sq ?_
 refine rg ?_
 refine bx (v := .agg #[I ak, .slice Aaq aq.length caq, Str an, I apt]) (cs := [I ak, .slice Aaq aq.length caq, Str an, I apt]) hs0 rfl rfl trivial rfl (fun b1 w1 (hs1 : SH w w1 [] [.blk b1 26 [I ak, .slice Aaq aq.length caq, Str an, I apt]]) => ?_)
 refine q trivial rfl rfl (asg (v := .bool false) rfl) ?_
 refine nl ?_
 refine nN ?_
 refine sq ?_
 refine sq ?_
 refine rg ?_
 refine q trivial rfl rfl (fa 0 fo26_0 rfl) ?_
 refine q trivial rfl rfl (ld (v := I ak) hs1 0 rfl rfl rfl one3) ?_
 refine nl ?_
 refine nN ?_
 refine bl ?_
 refine sq ?_
 refine rg ?_
 refine q trivial rfl rfl (eqi (k := .i64) (a := ak) (b := 1) rfl rfl) ?_
 refine q trivial rfl rfl (asg (v := .bool (decide (ak = 1))) rfl) ?_
 refine nl ?_
 refine nN ?_
 refine cdd (p := ak = 1) rfl (fun h1 => ?_) (fun h1 => ?_)
 · refine sq ?_
   refine rg ?_
   refine q trivial rfl rfl (fa 1 fo26_1 rfl) ?_
   refine q trivial rfl rfl (ld (v := .slice Aaq aq.length caq) hs1 0 rfl rfl rfl one24) ?_
   refine cl trivial rfl (iQuadValid (Aqs := Aaq) (cqs := caq) (qs := aq) (w := _) (hqs := (haq.up0 hs1))) ?_
   rintro _ w2 ⟨rfl, hs2'⟩
   have hs2 : SH w w2 [] [.blk b1 26 [I ak, .slice Aaq aq.length caq, Str an, I apt]] := hs1.call0 hs2'
   clear hs2'
   refine q trivial rfl rfl (mv (v := .bool (quadOk aq)) rfl) ?_
   refine spl (b := quadOk aq) 10 rfl (fun h2 => ?_) (fun h2 => ?_)
   · refine q ⟨_, rfl, rfl⟩ rfl rfl (fa 2 fo26_2 rfl) ?_
     refine q ⟨_, rfl, rfl⟩ rfl rfl (ld (v := Str an) hs2 0 rfl rfl rfl one9) ?_
     refine q ⟨_, rfl, rfl⟩ rfl rfl (eqs (l := an) (m := []) rfl rfl) ?_
     refine q trivial rfl rfl (pt (v := .bool (decide (an = []))) rfl rfl) ?_
     refine q trivial rfl rfl (mv (v := .bool (decide (an = []))) rfl) ?_
     refine spd (p := an = []) 15 rfl (fun h3 => ?_) (fun h3 => ?_)
     · refine q ⟨_, rfl, rfl⟩ rfl rfl (fa 3 fo26_3 rfl) ?_
       refine q ⟨_, rfl, rfl⟩ rfl rfl (ld (v := I apt) hs2 0 rfl rfl rfl one3) ?_
       refine cl ⟨_, rfl, rfl⟩ rfl (isPort (x := apt) (w := _)) ?_
       rintro _ w3 ⟨rfl, hs3'⟩
       have hs3 : SH w w3 [] [.blk b1 26 [I ak, .slice Aaq aq.length caq, Str an, I apt]] := hs2.call0 hs3'
       clear hs3'
       refine q trivial rfl rfl (pt (v := .bool (decide (0 ≤ apt ∧ apt ≤ 65535))) rfl rfl) ?_
       refine q trivial rfl rfl (asg (v := .bool (decide (0 ≤ apt ∧ apt ≤ 65535))) rfl) ?_
       refine nl ?_
       refine nN ?_
       refine rt (bR (tR ?_))
       refine fret (v := .bool (decide (0 ≤ apt ∧ apt ≤ 65535))) (.tmp .nil) rfl ?_
       have e1 : (decide (0 ≤ apt ∧ apt ≤ 65535)) = addrOk ak aq an apt := by first | (rw [addr_is1 (by assumption)]; simp [h1, h2, h3]; done) | (rw [addr_is3 (by assumption)]; simp [h1, h2, h3]; done) | (rw [addr_is3 (by assumption)]; have hq0 : aq = [] := List.eq_nil_of_length_eq_zero (by omega); simp [hq0, h1, h2, h3]; done) | (rw [addr_is3 (by assumption)]; have hq0 : ¬ aq = [] := fun he => absurd (by rw [he]; rfl : ((aq.length : Nat) : Int) = 0) (by assumption); simp [hq0, h1, h2, h3]; done) | (rw [addr_is1 (by assumption)]; have hp0 : 0 ≤ apt ∧ apt ≤ 65535 := Decidable.not_not.1 (by assumption); simp [hp0.1, hp0.2, h1, h2, h3]; done) | (rw [addr_is3 (by assumption)]; have hp0 : 0 ≤ apt ∧ apt ≤ 65535 := Decidable.not_not.1 (by assumption); simp [hp0.1, hp0.2, h1, h2, h3]; done) | exact (addr_port _ _ (by assumption)).symm | exact (addr_no _ _ _ (by assumption) (by assumption)).symm
       exact ⟨(congrArg (Value.bool) e1), (hs3.pick [] rfl (by decide))⟩
     · refine gk false rfl rfl rfl rfl rfl ?_
       refine gk false rfl rfl rfl rfl rfl ?_
       refine gk false rfl rfl rfl rfl rfl ?_
       refine q trivial rfl rfl (pf (v := .bool false) rfl rfl) ?_
       refine q trivial rfl rfl (asg (v := .bool false) rfl) ?_
       refine nl ?_
       refine nN ?_
       refine rt (bR (tR ?_))
       refine fret (v := .bool false) (.tmp .nil) rfl ?_
       have e2 : false = addrOk ak aq an apt := by first | (rw [addr_is1 (by assumption)]; simp [h1, h2, h3]; done) | (rw [addr_is3 (by assumption)]; simp [h1, h2, h3]; done) | (rw [addr_is3 (by assumption)]; have hq0 : aq = [] := List.eq_nil_of_length_eq_zero (by omega); simp [hq0, h1, h2, h3]; done) | (rw [addr_is3 (by assumption)]; have hq0 : ¬ aq = [] := fun he => absurd (by rw [he]; rfl : ((aq.length : Nat) : Int) = 0) (by assumption); simp [hq0, h1, h2, h3]; done) | (rw [addr_is1 (by assumption)]; have hp0 : 0 ≤ apt ∧ apt ≤ 65535 := Decidable.not_not.1 (by assumption); simp [hp0.1, hp0.2, h1, h2, h3]; done) | (rw [addr_is3 (by assumption)]; have hp0 : 0 ≤ apt ∧ apt ≤ 65535 := Decidable.not_not.1 (by assumption); simp [hp0.1, hp0.2, h1, h2, h3]; done) | exact (addr_port _ _ (by assumption)).symm | exact (addr_no _ _ _ (by assumption) (by assumption)).symm
       exact ⟨(congrArg (Value.bool) e2), (hs2.pick [] rfl (by decide))⟩
   · refine gk false rfl rfl rfl rfl rfl ?_
     refine gk false rfl rfl rfl rfl rfl ?_
     refine gk false rfl rfl rfl rfl rfl ?_
     refine q trivial rfl rfl (pf (v := .bool false) rfl rfl) ?_
     refine q trivial rfl rfl (mv (v := .bool false) rfl) ?_
     refine gk false rfl rfl rfl rfl rfl ?_
     refine gk false rfl rfl rfl rfl rfl ?_
     refine gk false rfl rfl rfl rfl rfl ?_
     refine q trivial rfl rfl (pf (v := .bool false) rfl rfl) ?_
     refine q trivial rfl rfl (asg (v := .bool false) rfl) ?_
     refine nl ?_
     refine nN ?_
     refine rt (bR (tR ?_))
     refine fret (v := .bool false) (.tmp .nil) rfl ?_
     have e3 : false = addrOk ak aq an apt := by first | (rw [addr_is1 (by assumption)]; simp [h1, h2]; done) | (rw [addr_is3 (by assumption)]; simp [h1, h2]; done) | (rw [addr_is3 (by assumption)]; have hq0 : aq = [] := List.eq_nil_of_length_eq_zero (by omega); simp [hq0, h1, h2]; done) | (rw [addr_is3 (by assumption)]; have hq0 : ¬ aq = [] := fun he => absurd (by rw [he]; rfl : ((aq.length : Nat) : Int) = 0) (by assumption); simp [hq0, h1, h2]; done) | (rw [addr_is1 (by assumption)]; have hp0 : 0 ≤ apt ∧ apt ≤ 65535 := Decidable.not_not.1 (by assumption); simp [hp0.1, hp0.2, h1, h2]; done) | (rw [addr_is3 (by assumption)]; have hp0 : 0 ≤ apt ∧ apt ≤ 65535 := Decidable.not_not.1 (by assumption); simp [hp0.1, hp0.2, h1, h2]; done) | exact (addr_port _ _ (by assumption)).symm | exact (addr_no _ _ _ (by assumption) (by assumption)).symm
     exact ⟨(congrArg (Value.bool) e3), (hs2.pick [] rfl (by decide))⟩
 · refine sq ?_
   refine rg ?_
   refine q trivial rfl rfl (eqi (k := .i64) (a := ak) (b := 3) rfl rfl) ?_
   refine q trivial rfl rfl (asg (v := .bool (decide (ak = 3))) rfl) ?_
   refine nl ?_
   refine nN ?_
   refine cdd (p := ak = 3) rfl (fun h4 => ?_) (fun h4 => ?_)
   · refine sq ?_
     refine rg ?_
     refine q trivial rfl rfl (fa 2 fo26_2 rfl) ?_
     refine q trivial rfl rfl (ld (v := Str an) hs1 0 rfl rfl rfl one9) ?_
     refine cl trivial rfl (iNameValid (l := an) (w := _) (hl_n := (by first | omega | (simp; done) | (simp; omega)))) ?_
     rintro _ w4 ⟨rfl, hs4'⟩
     have hs4 : SH w w4 [] [.blk b1 26 [I ak, .slice Aaq aq.length caq, Str an, I apt]] := hs1.call0 hs4'
     clear hs4'
     refine q trivial rfl rfl (mv (v := .bool (nameOk an)) rfl) ?_
     refine spl (b := nameOk an) 25 rfl (fun h5 => ?_) (fun h5 => ?_)
     · refine q ⟨_, rfl, rfl⟩ rfl rfl (fa 1 fo26_1 rfl) ?_
       refine q ⟨_, rfl, rfl⟩ rfl rfl (ld (v := .slice Aaq aq.length caq) hs4 0 rfl rfl rfl one24) ?_
       refine q ⟨_, rfl, rfl⟩ rfl rfl (lnA (n := aq.length) sl24 rfl) ?_
       refine q ⟨_, rfl, rfl⟩ rfl rfl (eqi (k := .i64) (a := ((aq.length : Nat) : Int)) (b := 0) rfl rfl) ?_
       refine q trivial rfl rfl (pt (v := .bool (decide (((aq.length : Nat) : Int) = 0))) rfl rfl) ?_
       refine q trivial rfl rfl (mv (v := .bool (decide (((aq.length : Nat) : Int) = 0))) rfl) ?_
       refine spd (p := ((aq.length : Nat) : Int) = 0) 31 rfl (fun h6 => ?_) (fun h6 => ?_)
       · refine q ⟨_, rfl, rfl⟩ rfl rfl (fa 3 fo26_3 rfl) ?_
         refine q ⟨_, rfl, rfl⟩ rfl rfl (ld (v := I apt) hs4 0 rfl rfl rfl one3) ?_
         refine cl ⟨_, rfl, rfl⟩ rfl (isPort (x := apt) (w := _)) ?_
         rintro _ w5 ⟨rfl, hs5'⟩
         have hs5 : SH w w5 [] [.blk b1 26 [I ak, .slice Aaq aq.length caq, Str an, I apt]] := hs4.call0 hs5'
         clear hs5'
         refine q trivial rfl rfl (pt (v := .bool (decide (0 ≤ apt ∧ apt ≤ 65535))) rfl rfl) ?_
         refine q trivial rfl rfl (asg (v := .bool (decide (0 ≤ apt ∧ apt ≤ 65535))) rfl) ?_
         refine nl ?_
         refine nN ?_
         refine rt (bR (tR ?_))
         refine fret (v := .bool (decide (0 ≤ apt ∧ apt ≤ 65535))) (.tmp .nil) rfl ?_
         have e4 : (decide (0 ≤ apt ∧ apt ≤ 65535)) = addrOk ak aq an apt := by first | (rw [addr_is1 (by assumption)]; simp [h1, h4, h5, h6]; done) | (rw [addr_is3 (by assumption)]; simp [h1, h4, h5, h6]; done) | (rw [addr_is3 (by assumption)]; have hq0 : aq = [] := List.eq_nil_of_length_eq_zero (by omega); simp [hq0, h1, h4, h5, h6]; done) | (rw [addr_is3 (by assumption)]; have hq0 : ¬ aq = [] := fun he => absurd (by rw [he]; rfl : ((aq.length : Nat) : Int) = 0) (by assumption); simp [hq0, h1, h4, h5, h6]; done) | (rw [addr_is1 (by assumption)]; have hp0 : 0 ≤ apt ∧ apt ≤ 65535 := Decidable.not_not.1 (by assumption); simp [hp0.1, hp0.2, h1, h4, h5, h6]; done) | (rw [addr_is3 (by assumption)]; have hp0 : 0 ≤ apt ∧ apt ≤ 65535 := Decidable.not_not.1 (by assumption); simp [hp0.1, hp0.2, h1, h4, h5, h6]; done) | exact (addr_port _ _ (by assumption)).symm | exact (addr_no _ _ _ (by assumption) (by assumption)).symm
         exact ⟨(congrArg (Value.bool) e4), (hs5.pick [] rfl (by decide))⟩
       · refine gk false rfl rfl rfl rfl rfl ?_
         refine gk false rfl rfl rfl rfl rfl ?_
         refine gk false rfl rfl rfl rfl rfl ?_
         refine q trivial rfl rfl (pf (v := .bool false) rfl rfl) ?_
         refine q trivial rfl rfl (asg (v := .bool false) rfl) ?_
         refine nl ?_
         refine nN ?_
         refine rt (bR (tR ?_))
         refine fret (v := .bool false) (.tmp .nil) rfl ?_
         have e5 : false = addrOk ak aq an apt := by first | (rw [addr_is1 (by assumption)]; simp [h1, h4, h5, h6]; done) | (rw [addr_is3 (by assumption)]; simp [h1, h4, h5, h6]; done) | (rw [addr_is3 (by assumption)]; have hq0 : aq = [] := List.eq_nil_of_length_eq_zero (by omega); simp [hq0, h1, h4, h5, h6]; done) | (rw [addr_is3 (by assumption)]; have hq0 : ¬ aq = [] := fun he => absurd (by rw [he]; rfl : ((aq.length : Nat) : Int) = 0) (by assumption); simp [hq0, h1, h4, h5, h6]; done) | (rw [addr_is1 (by assumption)]; have hp0 : 0 ≤ apt ∧ apt ≤ 65535 := Decidable.not_not.1 (by assumption); simp [hp0.1, hp0.2, h1, h4, h5, h6]; done) | (rw [addr_is3 (by assumption)]; have hp0 : 0 ≤ apt ∧ apt ≤ 65535 := Decidable.not_not.1 (by assumption); simp [hp0.1, hp0.2, h1, h4, h5, h6]; done) | exact (addr_port _ _ (by assumption)).symm | exact (addr_no _ _ _ (by assumption) (by assumption)).symm
         exact ⟨(congrArg (Value.bool) e5), (hs4.pick [] rfl (by decide))⟩
     · refine gk false rfl rfl rfl rfl rfl ?_
       refine gk false rfl rfl rfl rfl rfl ?_
       refine gk false rfl rfl rfl rfl rfl ?_
       refine gk false rfl rfl rfl rfl rfl ?_
       refine q trivial rfl rfl (pf (v := .bool false) rfl rfl) ?_
       refine q trivial rfl rfl (mv (v := .bool false) rfl) ?_
       refine gk false rfl rfl rfl rfl rfl ?_
       refine gk false rfl rfl rfl rfl rfl ?_
       refine gk false rfl rfl rfl rfl rfl ?_
       refine q trivial rfl rfl (pf (v := .bool false) rfl rfl) ?_
       refine q trivial rfl rfl (asg (v := .bool false) rfl) ?_
       refine nl ?_
       refine nN ?_
       refine rt (bR (tR ?_))
       refine fret (v := .bool false) (.tmp .nil) rfl ?_
       have e6 : false = addrOk ak aq an apt := by first | (rw [addr_is1 (by assumption)]; simp [h1, h4, h5]; done) | (rw [addr_is3 (by assumption)]; simp [h1, h4, h5]; done) | (rw [addr_is3 (by assumption)]; have hq0 : aq = [] := List.eq_nil_of_length_eq_zero (by omega); simp [hq0, h1, h4, h5]; done) | (rw [addr_is3 (by assumption)]; have hq0 : ¬ aq = [] := fun he => absurd (by rw [he]; rfl : ((aq.length : Nat) : Int) = 0) (by assumption); simp [hq0, h1, h4, h5]; done) | (rw [addr_is1 (by assumption)]; have hp0 : 0 ≤ apt ∧ apt ≤ 65535 := Decidable.not_not.1 (by assumption); simp [hp0.1, hp0.2, h1, h4, h5]; done) | (rw [addr_is3 (by assumption)]; have hp0 : 0 ≤ apt ∧ apt ≤ 65535 := Decidable.not_not.1 (by assumption); simp [hp0.1, hp0.2, h1, h4, h5]; done) | exact (addr_port _ _ (by assumption)).symm | exact (addr_no _ _ _ (by assumption) (by assumption)).symm
       exact ⟨(congrArg (Value.bool) e6), (hs4.pick [] rfl (by decide))⟩
   · refine sk ?_
     refine bN ?_
     refine nN ?_
     refine sq ?_
     refine rg ?_
     refine q trivial rfl rfl (asg (v := .bool false) rfl) ?_
     refine nl ?_
     refine nN ?_
     refine rt ?_
     refine fret (v := .bool false) (.tmp .nil) rfl ?_
     have e7 : false = addrOk ak aq an apt := by first | (rw [addr_is1 (by assumption)]; simp [h1, h4]; done) | (rw [addr_is3 (by assumption)]; simp [h1, h4]; done) | (rw [addr_is3 (by assumption)]; have hq0 : aq = [] := List.eq_nil_of_length_eq_zero (by omega); simp [hq0, h1, h4]; done) | (rw [addr_is3 (by assumption)]; have hq0 : ¬ aq = [] := fun he => absurd (by rw [he]; rfl : ((aq.length : Nat) : Int) = 0) (by assumption); simp [hq0, h1, h4]; done) | (rw [addr_is1 (by assumption)]; have hp0 : 0 ≤ apt ∧ apt ≤ 65535 := Decidable.not_not.1 (by assumption); simp [hp0.1, hp0.2, h1, h4]; done) | (rw [addr_is3 (by assumption)]; have hp0 : 0 ≤ apt ∧ apt ≤ 65535 := Decidable.not_not.1 (by assumption); simp [hp0.1, hp0.2, h1, h4]; done) | exact (addr_port _ _ (by assumption)).symm | exact (addr_no _ _ _ (by assumption) (by assumption)).symm
     exact ⟨(congrArg (Value.bool) e7), (hs1.pick [] rfl (by decide))⟩

theorem sAddressValid (ak : Int) {Aaq : Option Addr} {caq : Nat} (aq : List Int) (an : List UInt8) (apt : Int) (w : World) (haq : Sl w [] 1 Aaq aq.length caq (aq.map I)) (han_n : an.length ≤ 1099511627776) : Does Tryd.prog 15 [.agg #[I ak, .slice Aaq aq.length caq, Str an, I apt]] w (fun v w' => v = .bool (addrOk ak aq an apt) ∧ SH w w' [] []) := by
 refine fn_enter (N := 30) Tryd.func15 rfl (by kernel_rfl) rfl rfl rfl ?_
 have hs0 : SH w w [] [] := SH.refl w []
 have haq_m : aq.length ≤ 9223372036854775807 := Nat.le_trans haq.cap haq.capMax
 refine sq ?_
 refine rg ?_
 refine bx (v := .agg #[I ak, .slice Aaq aq.length caq, Str an, I apt]) (cs := [I ak, .slice Aaq aq.length caq, Str an, I apt]) hs0 rfl rfl trivial rfl (fun b1 w1 (hs1 : SH w w1 [] [.blk b1 26 [I ak, .slice Aaq aq.length caq, Str an, I apt]]) => ?_)
 refine q trivial rfl rfl (asg (v := .bool false) rfl) ?_
 refine nl ?_
 refine nN ?_
 refine sq ?_
 refine sq ?_
 refine rg ?_
 refine q trivial rfl rfl (fa 3 fo26_3 rfl) ?_
 refine q trivial rfl rfl (ld (v := I apt) hs1 0 rfl rfl rfl one3) ?_
 refine cl trivial rfl (sIn (x := apt) (lo := 0) (hi := 65535) (w := _)) ?_
 rintro _ w2 ⟨rfl, hs2'⟩
 have hs2 : SH w w2 [] [.blk b1 26 [I ak, .slice Aaq aq.length caq, Str an, I apt]] := hs1.call0 hs2'
 clear hs2'
 refine q trivial rfl rfl (nd (p := 0 ≤ apt ∧ apt ≤ 65535) rfl) ?_
 refine nl ?_
 refine nN ?_
 refine cdd (p := ¬ (0 ≤ apt ∧ apt ≤ 65535)) rfl (fun h1 => ?_) (fun h1 => ?_)
 · refine sq ?_
   refine rg ?_
   refine q trivial rfl rfl (asg (v := .bool false) rfl) ?_
   refine nl ?_
   refine nN ?_
   refine rt (tR ?_)
   refine fret (v := .bool false) (.tmp .nil) rfl ?_
   have e1 : false = addrOk ak aq an apt := by first | (rw [addr_is1 (by assumption)]; simp [h1]; done) | (rw [addr_is3 (by assumption)]; simp [h1]; done) | (rw [addr_is3 (by assumption)]; have hq0 : aq = [] := List.eq_nil_of_length_eq_zero (by omega); simp [hq0, h1]; done) | (rw [addr_is3 (by assumption)]; have hq0 : ¬ aq = [] := fun he => absurd (by rw [he]; rfl : ((aq.length : Nat) : Int) = 0) (by assumption); simp [hq0, h1]; done) | (rw [addr_is1 (by assumption)]; have hp0 : 0 ≤ apt ∧ apt ≤ 65535 := Decidable.not_not.1 (by assumption); simp [hp0.1, hp0.2, h1]; done) | (rw [addr_is3 (by assumption)]; have hp0 : 0 ≤ apt ∧ apt ≤ 65535 := Decidable.not_not.1 (by assumption); simp [hp0.1, hp0.2, h1]; done) | exact (addr_port _ _ (by assumption)).symm | exact (addr_no _ _ _ (by assumption) (by assumption)).symm
   exact ⟨(congrArg (Value.bool) e1), (hs2.pick [] rfl (by decide))⟩
 · refine sk ?_
   refine nN ?_
   refine sq ?_
   refine sq ?_
   refine rg ?_
   refine q trivial rfl rfl (fa 0 fo26_0 rfl) ?_
   refine q trivial rfl rfl (ld (v := I ak) hs2 0 rfl rfl rfl one3) ?_
   refine nl ?_
   refine nN ?_
   refine bl ?_
   refine sq ?_
   refine rg ?_
   refine q trivial rfl rfl (eqi (k := .i64) (a := ak) (b := 1) rfl rfl) ?_
   refine q trivial rfl rfl (asg (v := .bool (decide (ak = 1))) rfl) ?_
   refine nl ?_
   refine nN ?_
   refine cdd (p := ak = 1) rfl (fun h2 => ?_) (fun h2 => ?_)
   · refine sq ?_
     refine rg ?_
     refine q trivial rfl rfl (fa 1 fo26_1 rfl) ?_
     refine q trivial rfl rfl (ld (v := .slice Aaq aq.length caq) hs2 0 rfl rfl rfl one24) ?_
     refine cl trivial rfl (sQuadValid (Aqs := Aaq) (cqs := caq) (qs := aq) (w := _) (hqs := (haq.up0 hs2))) ?_
     rintro _ w3 ⟨rfl, hs3'⟩
     have hs3 : SH w w3 [] [.blk b1 26 [I ak, .slice Aaq aq.length caq, Str an, I apt]] := hs2.call0 hs3'
     clear hs3'
     refine q trivial rfl rfl (mv (v := .bool (quadOk aq)) rfl) ?_
     refine spl (b := quadOk aq) 14 rfl (fun h3 => ?_) (fun h3 => ?_)
     · refine q ⟨_, rfl, rfl⟩ rfl rfl (fa 2 fo26_2 rfl) ?_
       refine q ⟨_, rfl, rfl⟩ rfl rfl (ld (v := Str an) hs3 0 rfl rfl rfl one9) ?_
       refine q ⟨_, rfl, rfl⟩ rfl rfl (eqs (l := an) (m := []) rfl rfl) ?_
       refine q trivial rfl rfl (pt (v := .bool (decide (an = []))) rfl rfl) ?_
       refine q trivial rfl rfl (asg (v := .bool (decide (an = []))) rfl) ?_
       refine nl ?_
       refine nN ?_
       refine rt (bR (tR ?_))
       refine fret (v := .bool (decide (an = []))) (.tmp .nil) rfl ?_
       have e2 : (decide (an = [])) = addrOk ak aq an apt := by first | (rw [addr_is1 (by assumption)]; simp [h1, h2, h3]; done) | (rw [addr_is3 (by assumption)]; simp [h1, h2, h3]; done) | (rw [addr_is3 (by assumption)]; have hq0 : aq = [] := List.eq_nil_of_length_eq_zero (by omega); simp [hq0, h1, h2, h3]; done) | (rw [addr_is3 (by assumption)]; have hq0 : ¬ aq = [] := fun he => absurd (by rw [he]; rfl : ((aq.length : Nat) : Int) = 0) (by assumption); simp [hq0, h1, h2, h3]; done) | (rw [addr_is1 (by assumption)]; have hp0 : 0 ≤ apt ∧ apt ≤ 65535 := Decidable.not_not.1 (by assumption); simp [hp0.1, hp0.2, h1, h2, h3]; done) | (rw [addr_is3 (by assumption)]; have hp0 : 0 ≤ apt ∧ apt ≤ 65535 := Decidable.not_not.1 (by assumption); simp [hp0.1, hp0.2, h1, h2, h3]; done) | exact (addr_port _ _ (by assumption)).symm | exact (addr_no _ _ _ (by assumption) (by assumption)).symm
       exact ⟨(congrArg (Value.bool) e2), (hs3.pick [] rfl (by decide))⟩
     · refine gk false rfl rfl rfl rfl rfl ?_
       refine gk false rfl rfl rfl rfl rfl ?_
       refine gk false rfl rfl rfl rfl rfl ?_
       refine q trivial rfl rfl (pf (v := .bool false) rfl rfl) ?_
       refine q trivial rfl rfl (asg (v := .bool false) rfl) ?_
       refine nl ?_
       refine nN ?_
       refine rt (bR (tR ?_))
       refine fret (v := .bool false) (.tmp .nil) rfl ?_
       have e3 : false = addrOk ak aq an apt := by first | (rw [addr_is1 (by assumption)]; simp [h1, h2, h3]; done) | (rw [addr_is3 (by assumption)]; simp [h1, h2, h3]; done) | (rw [addr_is3 (by assumption)]; have hq0 : aq = [] := List.eq_nil_of_length_eq_zero (by omega); simp [hq0, h1, h2, h3]; done) | (rw [addr_is3 (by assumption)]; have hq0 : ¬ aq = [] := fun he => absurd (by rw [he]; rfl : ((aq.length : Nat) : Int) = 0) (by assumption); simp [hq0, h1, h2, h3]; done) | (rw [addr_is1 (by assumption)]; have hp0 : 0 ≤ apt ∧ apt ≤ 65535 := Decidable.not_not.1 (by assumption); simp [hp0.1, hp0.2, h1, h2, h3]; done) | (rw [addr_is3 (by assumption)]; have hp0 : 0 ≤ apt ∧ apt ≤ 65535 := Decidable.not_not.1 (by assumption); simp [hp0.1, hp0.2, h1, h2, h3]; done) | exact (addr_port _ _ (by assumption)).symm | exact (addr_no _ _ _ (by assumption) (by assumption)).symm
       exact ⟨(congrArg (Value.bool) e3), (hs3.pick [] rfl (by decide))⟩
   · refine sq ?_
     refine rg ?_
     refine q trivial rfl rfl (eqi (k := .i64) (a := ak) (b := 3) rfl rfl) ?_
     refine q trivial rfl rfl (asg (v := .bool (decide (ak = 3))) rfl) ?_
     refine nl ?_
     refine nN ?_
     refine cdd (p := ak = 3) rfl (fun h4 => ?_) (fun h4 => ?_)
     · refine sq ?_
       refine rg ?_
       refine q trivial rfl rfl (fa 2 fo26_2 rfl) ?_
       refine q trivial rfl rfl (ld (v := Str an) hs2 0 rfl rfl rfl one9) ?_
       refine cl trivial rfl (sNameValid (l := an) (w := _) (hl_n := (by first | omega | (simp; done) | (simp; omega)))) ?_
       rintro _ w4 ⟨rfl, hs4'⟩
       have hs4 : SH w w4 [] [.blk b1 26 [I ak, .slice Aaq aq.length caq, Str an, I apt]] := hs2.call0 hs4'
       clear hs4'
       refine q trivial rfl rfl (mv (v := .bool (nameOk an)) rfl) ?_
       refine spl (b := nameOk an) 24 rfl (fun h5 => ?_) (fun h5 => ?_)
       · refine q ⟨_, rfl, rfl⟩ rfl rfl (fa 1 fo26_1 rfl) ?_
         refine q ⟨_, rfl, rfl⟩ rfl rfl (ld (v := .slice Aaq aq.length caq) hs4 0 rfl rfl rfl one24) ?_
         refine q ⟨_, rfl, rfl⟩ rfl rfl (lnA (n := aq.length) sl24 rfl) ?_
         refine q ⟨_, rfl, rfl⟩ rfl rfl (eqi (k := .i64) (a := ((aq.length : Nat) : Int)) (b := 0) rfl rfl) ?_
         refine q trivial rfl rfl (pt (v := .bool (decide (((aq.length : Nat) : Int) = 0))) rfl rfl) ?_
         refine q trivial rfl rfl (asg (v := .bool (decide (((aq.length : Nat) : Int) = 0))) rfl) ?_
         refine nl ?_
         refine nN ?_
         refine rt (bR (tR ?_))
         refine fret (v := .bool (decide (((aq.length : Nat) : Int) = 0))) (.tmp .nil) rfl ?_
         have e4 : (decide (((aq.length : Nat) : Int) = 0)) = addrOk ak aq an apt := by first | (rw [addr_is1 (by assumption)]; simp [h1, h2, h4, h5]; done) | (rw [addr_is3 (by assumption)]; simp [h1, h2, h4, h5]; done) | (rw [addr_is3 (by assumption)]; have hq0 : aq = [] := List.eq_nil_of_length_eq_zero (by omega); simp [hq0, h1, h2, h4, h5]; done) | (rw [addr_is3 (by assumption)]; have hq0 : ¬ aq = [] := fun he => absurd (by rw [he]; rfl : ((aq.length : Nat) : Int) = 0) (by assumption); simp [hq0, h1, h2, h4, h5]; done) | (rw [addr_is1 (by assumption)]; have hp0 : 0 ≤ apt ∧ apt ≤ 65535 := Decidable.not_not.1 (by assumption); simp [hp0.1, hp0.2, h1, h2, h4, h5]; done) | (rw [addr_is3 (by assumption)]; have hp0 : 0 ≤ apt ∧ apt ≤ 65535 := Decidable.not_not.1 (by assumption); simp [hp0.1, hp0.2, h1, h2, h4, h5]; done) | exact (addr_port _ _ (by assumption)).symm | exact (addr_no _ _ _ (by assumption) (by assumption)).symm
         exact ⟨(congrArg (Value.bool) e4), (hs4.pick [] rfl (by decide))⟩
       · refine gk false rfl rfl rfl rfl rfl ?_
         refine gk false rfl rfl rfl rfl rfl ?_
         refine gk false rfl rfl rfl rfl rfl ?_
         refine gk false rfl rfl rfl rfl rfl ?_
         refine q trivial rfl rfl (pf (v := .bool false) rfl rfl) ?_
         refine q trivial rfl rfl (asg (v := .bool false) rfl) ?_
         refine nl ?_
         refine nN ?_
         refine rt (bR (tR ?_))
         refine fret (v := .bool false) (.tmp .nil) rfl ?_
         have e5 : false = addrOk ak aq an apt := by first | (rw [addr_is1 (by assumption)]; simp [h1, h2, h4, h5]; done) | (rw [addr_is3 (by assumption)]; simp [h1, h2, h4, h5]; done) | (rw [addr_is3 (by assumption)]; have hq0 : aq = [] := List.eq_nil_of_length_eq_zero (by omega); simp [hq0, h1, h2, h4, h5]; done) | (rw [addr_is3 (by assumption)]; have hq0 : ¬ aq = [] := fun he => absurd (by rw [he]; rfl : ((aq.length : Nat) : Int) = 0) (by assumption); simp [hq0, h1, h2, h4, h5]; done) | (rw [addr_is1 (by assumption)]; have hp0 : 0 ≤ apt ∧ apt ≤ 65535 := Decidable.not_not.1 (by assumption); simp [hp0.1, hp0.2, h1, h2, h4, h5]; done) | (rw [addr_is3 (by assumption)]; have hp0 : 0 ≤ apt ∧ apt ≤ 65535 := Decidable.not_not.1 (by assumption); simp [hp0.1, hp0.2, h1, h2, h4, h5]; done) | exact (addr_port _ _ (by assumption)).symm | exact (addr_no _ _ _ (by assumption) (by assumption)).symm
         exact ⟨(congrArg (Value.bool) e5), (hs4.pick [] rfl (by decide))⟩
     · refine sk ?_
       refine bN ?_
       refine nN ?_
       refine sq ?_
       refine rg ?_
       refine q trivial rfl rfl (asg (v := .bool false) rfl) ?_
       refine nl ?_
       refine nN ?_
       refine rt ?_
       refine fret (v := .bool false) (.tmp .nil) rfl ?_
       have e6 : false = addrOk ak aq an apt := by first | (rw [addr_is1 (by assumption)]; simp [h1, h2, h4]; done) | (rw [addr_is3 (by assumption)]; simp [h1, h2, h4]; done) | (rw [addr_is3 (by assumption)]; have hq0 : aq = [] := List.eq_nil_of_length_eq_zero (by omega); simp [hq0, h1, h2, h4]; done) | (rw [addr_is3 (by assumption)]; have hq0 : ¬ aq = [] := fun he => absurd (by rw [he]; rfl : ((aq.length : Nat) : Int) = 0) (by assumption); simp [hq0, h1, h2, h4]; done) | (rw [addr_is1 (by assumption)]; have hp0 : 0 ≤ apt ∧ apt ≤ 65535 := Decidable.not_not.1 (by assumption); simp [hp0.1, hp0.2, h1, h2, h4]; done) | (rw [addr_is3 (by assumption)]; have hp0 : 0 ≤ apt ∧ apt ≤ 65535 := Decidable.not_not.1 (by assumption); simp [hp0.1, hp0.2, h1, h2, h4]; done) | exact (addr_port _ _ (by assumption)).symm | exact (addr_no _ _ _ (by assumption) (by assumption)).symm
       exact ⟨(congrArg (Value.bool) e6), (hs2.pick [] rfl (by decide))⟩

theorem szAddress (ak : Int) {Aaq : Option Addr} {caq : Nat} (aq : List Int) (an : List UInt8) (apt : Int) (z : Int) (w : World) (haq : Sl w [] 1 Aaq aq.length caq (aq.map I)) (han_n : an.length ≤ 9223372036854775807) (hz : 0 ≤ z ∧ z ≤ 1099511627776) : Does Tryd.prog 18 [.agg #[I ak, .slice Aaq aq.length caq, Str an, I apt], I z] w (fun v w' => ∃ r : Int, v = .int .i64 r ∧ (-1 ≤ r ∧ r ≤ z) ∧ (r < 0 ∨ ((aq.length : Int) ≤ z ∧ (an.length : Int) ≤ z)) ∧ SH w w' [] []) := by
 refine fn_enter (N := 19) Tryd.func18 rfl (by kernel_rfl) rfl rfl rfl ?_
 have hs0 : SH w w [] [] := SH.refl w []
 have haq_m : aq.length ≤ 9223372036854775807 := Nat.le_trans haq.cap haq.capMax
 refine sq ?_
 refine rg ?_
 refine bx (v := .agg #[I ak, .slice Aaq aq.length caq, Str an, I apt]) (cs := [I ak, .slice Aaq aq.length caq, Str an, I apt]) hs0 rfl rfl trivial rfl (fun b1 w1 (hs1 : SH w w1 [] [.blk b1 37 [I ak, .slice Aaq aq.length caq, Str an, I apt]]) => ?_)
 refine q trivial rfl rfl (asg (v := I 0) rfl) ?_
 refine nl ?_
 refine nN ?_
 refine sq ?_
 refine rg ?_
 refine q trivial rfl rfl (fa 1 fo37_1 rfl) ?_
 refine q trivial rfl rfl (ld (v := .slice Aaq aq.length caq) hs1 0 rfl rfl rfl one24) ?_
 refine q trivial rfl rfl (mv (v := I z) rfl) ?_
 refine cl trivial rfl (szIntS (Axs := Aaq) (cxs := caq) (xs := aq) (z := z) (w := _) (hxs := (haq.up0 hs1)) (hz := (by first | (first | omega | assumption | (simp; done) | (simp; omega)) | (have hsz1 := szI_bd (n := aq.length) (z := z) (by omega); have hsz2 := szI_nn (n := aq.length) (z := z) (by omega); first | omega | assumption | (simp; done) | (simp; omega))))) ?_
 rintro _ w2 ⟨rfl, hs2'⟩
 have hs2 : SH w w2 [] [.blk b1 37 [I ak, .slice Aaq aq.length caq, Str an, I apt]] := hs1.call0 hs2'
 clear hs2'
 refine q trivial rfl rfl (asg (v := I (szI aq.length z)) rfl) ?_
 refine nl ?_
 refine nN ?_
 refine sq ?_
 refine sq ?_
 refine rg ?_
 refine q trivial rfl rfl (mv (v := I (szI aq.length z)) rfl) ?_
 refine q trivial rfl rfl (lss (k := .i64) (a := szI aq.length z) (b := 0) rfl rfl) ?_
 refine nl ?_
 refine nN ?_
 refine cdd (p := (szI aq.length z) < 0) rfl (fun h1 => ?_) (fun h1 => ?_)
 · refine sq ?_
   refine rg ?_
   refine q trivial rfl rfl (asg (v := I (-1)) rfl) ?_
   refine nl ?_
   refine nN ?_
   refine rt (tR ?_)
   refine fret (v := I (-1)) (.tmp .nil) rfl ?_
   exact ⟨(-1), rfl, (by have hsz1 := szI_bd (n := aq.length) (z := z) (by omega); omega), (by have hsz1 := szI_bd (n := aq.length) (z := z) (by omega); first | omega | (have hsz2 := szI_nn (n := aq.length) (z := z) (by omega); omega)), (hs2.pick [] rfl (by decide))⟩
 · refine sk ?_
   refine nN ?_
   refine sq ?_
   refine rg ?_
   refine q trivial rfl rfl (mv (v := I (szI aq.length z)) rfl) ?_
   refine q trivial rfl rfl (fa 2 fo37_2 rfl) ?_
   refine q trivial rfl rfl (ld (v := Str an) hs2 0 rfl rfl rfl one9) ?_
   refine q trivial rfl rfl (lnS (l := an) st9 rfl) ?_
   refine q trivial rfl rfl (sub (a := szI aq.length z) (b := ((an.length : Nat) : Int)) rfl rfl (by first | (exact ⟨by omega, by omega⟩) | (have hsz1 := szI_bd (n := aq.length) (z := z) (by omega); have hsz2 := szI_nn (n := aq.length) (z := z) (by omega); exact ⟨by omega, by omega⟩))) ?_
   refine q trivial rfl rfl (asg (v := I ((szI aq.length z) - ((an.length : Nat) : Int))) rfl) ?_
   refine nl ?_
   refine nN ?_
   refine sq ?_
   refine sq ?_
   refine rg ?_
   refine q trivial rfl rfl (mv (v := I ((szI aq.length z) - ((an.length : Nat) : Int))) rfl) ?_
   refine q trivial rfl rfl (lss (k := .i64) (a := (szI aq.length z) - ((an.length : Nat) : Int)) (b := 0) rfl rfl) ?_
   refine nl ?_
   refine nN ?_
   refine cdd (p := ((szI aq.length z) - ((an.length : Nat) : Int)) < 0) rfl (fun h2 => ?_) (fun h2 => ?_)
   · refine sq ?_
     refine rg ?_
     refine q trivial rfl rfl (asg (v := I (-1)) rfl) ?_
     refine nl ?_
     refine nN ?_
     refine rt (tR ?_)
     refine fret (v := I (-1)) (.tmp .nil) rfl ?_
     exact ⟨(-1), rfl, (by have hsz1 := szI_bd (n := aq.length) (z := z) (by omega); omega), (by have hsz1 := szI_bd (n := aq.length) (z := z) (by omega); first | omega | (have hsz2 := szI_nn (n := aq.length) (z := z) (by omega); omega)), (hs2.pick [] rfl (by decide))⟩
   · refine sk ?_
     refine nN ?_
     refine sq ?_
     refine rg ?_
     refine q trivial rfl rfl (mv (v := I ((szI aq.length z) - ((an.length : Nat) : Int))) rfl) ?_
     refine q trivial rfl rfl (asg (v := I ((szI aq.length z) - ((an.length : Nat) : Int))) rfl) ?_
     refine nl ?_
     refine nN ?_
     refine rt ?_
     refine fret (v := I ((szI aq.length z) - ((an.length : Nat) : Int))) (.tmp .nil) rfl ?_
     exact ⟨(szI aq.length z) - ((an.length : Nat) : Int), rfl, (by have hsz1 := szI_bd (n := aq.length) (z := z) (by omega); omega), (by have hsz1 := szI_bd (n := aq.length) (z := z) (by omega); first | omega | (have hsz2 := szI_nn (n := aq.length) (z := z) (by omega); omega)), (hs2.pick [] rfl (by decide))⟩

theorem toAddress (ak : Int) {Aaq : Option Addr} {caq : Nat} (aq : List Int) (an : List UInt8) (apt : Int) (w : World) (haq : Sl w [] 1 Aaq aq.length caq (aq.map I)) (haq_n : aq.length ≤ 1099511627776) : Does Tryd.prog 20 [.agg #[I ak, .slice Aaq aq.length caq, Str an, I apt]] w (fun v w' => ∃ Aqr : Option Addr, ∃ cqr : Nat, v = .agg #[.int .i64 ak, .slice Aqr aq.length cqr, Str an, .int .i64 apt] ∧ SH w w' [] [.own Aqr aq.length cqr 3 1 (aq.map I)]) := by
 refine fn_enter (N := 18) Tryd.func20 rfl (by kernel_rfl) rfl rfl rfl ?_
 have hs0 : SH w w [] [] := SH.refl w []
 have haq_m : aq.length ≤ 9223372036854775807 := Nat.le_trans haq.cap haq.capMax
 refine sq ?_
 refine rg ?_
 refine bx (v := .agg #[I ak, .slice Aaq aq.length caq, Str an, I apt]) (cs := [I ak, .slice Aaq aq.length caq, Str an, I apt]) hs0 rfl rfl trivial rfl (fun b1 w1 (hs1 : SH w w1 [] [.blk b1 37 [I ak, .slice Aaq aq.length caq, Str an, I apt]]) => ?_)
 refine al (v := .agg #[I 0, ns, Str [], I 0]) (cs := [I 0, ns, Str [], I 0]) hs1 tz26 rfl trivial rfl (fun b2 w2 (hs2 : SH w w2 [] [.blk b1 37 [I ak, .slice Aaq aq.length caq, Str an, I apt], .blk b2 26 [I 0, ns, Str [], I 0]]) => ?_)
 refine nl ?_
 refine nN ?_
 refine sq ?_
 refine rg ?_
 refine al (v := .agg #[I 0, ns, Str [], I 0]) (cs := [I 0, ns, Str [], I 0]) hs2 tz26 rfl trivial rfl (fun b3 w3 (hs3 : SH w w3 [] [.blk b1 37 [I ak, .slice Aaq aq.length caq, Str an, I apt], .blk b2 26 [I 0, ns, Str [], I 0], .blk b3 26 [I 0, ns, Str [], I 0]]) => ?_)
 refine nl ?_
 refine nN ?_
 refine sq ?_
 refine rg ?_
 refine q trivial rfl rfl (fa 0 fo37_0 rfl) ?_
 refine q trivial rfl rfl (ld (v := I ak) hs3 0 rfl rfl rfl one3) ?_
 refine q trivial rfl rfl (fa 0 fo26_0 rfl) ?_
 refine st (v := I ak) hs3 2 rfl rfl rfl rfl rfl one3 trivial (fun w4 (hs4 : SH w w4 [] [.blk b1 37 [I ak, .slice Aaq aq.length caq, Str an, I apt], .blk b2 26 [I 0, ns, Str [], I 0], .blk b3 26 [I ak, ns, Str [], I 0]]) => ?_)
 refine nl ?_
 refine nN ?_
 refine sq ?_
 refine rg ?_
 refine q trivial rfl rfl (fa 1 fo37_1 rfl) ?_
 refine q trivial rfl rfl (ld (v := .slice Aaq aq.length caq) hs4 0 rfl rfl rfl one24) ?_
 refine cl trivial rfl (toIntS (Axs := Aaq) (cxs := caq) (xs := aq) (w := _) (hxs := (haq.up0 hs4)) (hxs_n := (by first | omega | (simp; done) | (simp; omega)))) ?_
 rintro _ w5 ⟨A1, c1, rfl, hs5'⟩
 have hs5 : SH w w5 [] [.blk b1 37 [I ak, .slice Aaq aq.length caq, Str an, I apt], .blk b2 26 [I 0, ns, Str [], I 0], .blk b3 26 [I ak, ns, Str [], I 0], .own A1 aq.length c1 3 1 (aq.map I)] := hs4.call0 hs5'
 clear hs5'
 refine q trivial rfl rfl (fa 1 fo26_1 rfl) ?_
 refine st (v := .slice A1 aq.length c1) hs5 2 rfl rfl rfl rfl rfl one24 trivial (fun w6 (hs6 : SH w w6 [] [.blk b1 37 [I ak, .slice Aaq aq.length caq, Str an, I apt], .blk b2 26 [I 0, ns, Str [], I 0], .own A1 aq.length c1 3 1 (aq.map I), .blk b3 26 [I ak, .slice A1 aq.length c1, Str [], I 0]]) => ?_)
 refine nl ?_
 refine nN ?_
 refine sq ?_
 refine rg ?_
 refine q trivial rfl rfl (fa 2 fo37_2 rfl) ?_
 refine q trivial rfl rfl (ld (v := Str an) hs6 0 rfl rfl rfl one9) ?_
 refine q trivial rfl rfl (fa 2 fo26_2 rfl) ?_
 refine st (v := Str an) hs6 3 rfl rfl rfl rfl rfl one9 trivial (fun w7 (hs7 : SH w w7 [] [.blk b1 37 [I ak, .slice Aaq aq.length caq, Str an, I apt], .blk b2 26 [I 0, ns, Str [], I 0], .own A1 aq.length c1 3 1 (aq.map I), .blk b3 26 [I ak, .slice A1 aq.length c1, Str an, I 0]]) => ?_)
 refine nl ?_
 refine nN ?_
 refine sq ?_
 refine rg ?_
 refine q trivial rfl rfl (fa 3 fo37_3 rfl) ?_
 refine q trivial rfl rfl (ld (v := I apt) hs7 0 rfl rfl rfl one3) ?_
 refine q trivial rfl rfl (fa 3 fo26_3 rfl) ?_
 refine st (v := I apt) hs7 3 rfl rfl rfl rfl rfl one3 trivial (fun w8 (hs8 : SH w w8 [] [.blk b1 37 [I ak, .slice Aaq aq.length caq, Str an, I apt], .blk b2 26 [I 0, ns, Str [], I 0], .own A1 aq.length c1 3 1 (aq.map I), .blk b3 26 [I ak, .slice A1 aq.length c1, Str an, I apt]]) => ?_)
 refine nl ?_
 refine nN ?_
 refine sq ?_
 refine rg ?_
 refine q trivial rfl rfl (ldg (vs := [I ak, .slice A1 aq.length c1, Str an, I apt]) hs8 3 rfl rfl rfl rfl ag26) ?_
 refine stg (vs := [I ak, .slice A1 aq.length c1, Str an, I apt]) hs8 1 rfl rfl rfl rfl rfl rfl rfl ag26 trivial (fun w9 (hs9 : SH w w9 [] [.blk b1 37 [I ak, .slice Aaq aq.length caq, Str an, I apt], .own A1 aq.length c1 3 1 (aq.map I), .blk b3 26 [I ak, .slice A1 aq.length c1, Str an, I apt], .blk b2 26 [I ak, .slice A1 aq.length c1, Str an, I apt]]) => ?_)
 refine nl ?_
 refine nN ?_
 have hs10 : SH w w9 [] [.own A1 aq.length c1 3 1 (aq.map I), .blk b2 26 [I ak, .slice A1 aq.length c1, Str an, I apt]] := hs9.pick [1, 3] rfl (by decide)
 refine rt ?_
 refine fret (v := .agg #[I ak, .slice A1 aq.length c1, Str an, I apt]) (resC hs10 1 rfl rfl ag26 rfl .nil) rfl ?_
 exact ⟨A1, c1, rfl, (hs10.pick [0] rfl (by decide))⟩

theorem eqAddress (ka : Int) {Aqa : Option Addr} {cqa : Nat} (qa : List Int) (na : List UInt8) (pa : Int) (kb : Int) {Aqb : Option Addr} {cqb : Nat} (qb : List Int) (nb : List UInt8) (pb : Int) (w : World) (hqa : Sl w [] 1 Aqa qa.length cqa (qa.map I)) (hqb : Sl w [] 1 Aqb qb.length cqb (qb.map I)) : Does Tryd.prog 22 [.agg #[I ka, .slice Aqa qa.length cqa, Str na, I pa], .agg #[I kb, .slice Aqb qb.length cqb, Str nb, I pb]] w (fun v w' => v = .bool (decide (ka = kb ∧ qa = qb ∧ na = nb ∧ pa = pb)) ∧ SH w w' [] []) := by
 refine fn_enter (N := 26) Tryd.func22 rfl (by kernel_rfl) rfl rfl rfl ?_
 have hs0 : SH w w [] [] := SH.refl w []
 have hqa_m : qa.length ≤ 9223372036854775807 := Nat.le_trans hqa.cap hqa.capMax
 have hqb_m : qb.length ≤ 9223372036854775807 := Nat.le_trans hqb.cap hqb.capMax
 refine sq ?_
 refine rg ?_
 refine bx (v := .agg #[I ka, .slice Aqa qa.length cqa, Str na, I pa]) (cs := [I ka, .slice Aqa qa.length cqa, Str na, I pa]) hs0 rfl rfl trivial rfl (fun b1 w1 (hs1 : SH w w1 [] [.blk b1 26 [I ka, .slice Aqa qa.length cqa, Str na, I pa]]) => ?_)
 refine bx (v := .agg #[I kb, .slice Aqb qb.length cqb, Str nb, I pb]) (cs := [I kb, .slice Aqb qb.length cqb, Str nb, I pb]) hs1 rfl rfl trivial rfl (fun b2 w2 (hs2 : SH w w2 [] [.blk b1 26 [I ka, .slice Aqa qa.length cqa, Str na, I pa], .blk b2 26 [I kb, .slice Aqb qb.length cqb, Str nb, I pb]]) => ?_)
 refine q trivial rfl rfl (asg (v := .bool false) rfl) ?_
 refine nl ?_
 refine nN ?_
 refine sq ?_
 refine sq ?_
 refine rg ?_
 refine q trivial rfl rfl (fa 0 fo26_0 rfl) ?_
 refine q trivial rfl rfl (ld (v := I ka) hs2 0 rfl rfl rfl one3) ?_
 refine q trivial rfl rfl (fa 0 fo26_0 rfl) ?_
 refine q trivial rfl rfl (ld (v := I kb) hs2 1 rfl rfl rfl one3) ?_
 refine q trivial rfl rfl (nei (k := .i64) (a := ka) (b := kb) rfl rfl) ?_
 refine nl ?_
 refine nN ?_
 refine cdd (p := ka ≠ kb) rfl (fun h1 => ?_) (fun h1 => ?_)
 · refine sq ?_
   refine rg ?_
   refine q trivial rfl rfl (asg (v := .bool false) rfl) ?_
   refine nl ?_
   refine nN ?_
   refine rt (tR ?_)
   refine fret (v := .bool false) (.tmp .nil) rfl ?_
   have e1 : false = (decide (ka = kb ∧ qa = qb ∧ na = nb ∧ pa = pb)) := by simp [h1] <;> simp_all
   exact ⟨(congrArg (Value.bool) e1), (hs2.pick [] rfl (by decide))⟩
 · refine sk ?_
   refine nN ?_
   refine sq ?_
   refine sq ?_
   refine rg ?_
   refine q trivial rfl rfl (fa 1 fo26_1 rfl) ?_
   refine q trivial rfl rfl (ld (v := .slice Aqa qa.length cqa) hs2 0 rfl rfl rfl one24) ?_
   refine q trivial rfl rfl (fa 1 fo26_1 rfl) ?_
   refine q trivial rfl rfl (ld (v := .slice Aqb qb.length cqb) hs2 1 rfl rfl rfl one24) ?_
   refine cl trivial rfl (eqIntS (Axs := Aqa) (cxs := cqa) (xs := qa) (Abs := Aqb) (cbs := cqb) (bs := qb) (w := _) (hxs := (hqa.up0 hs2)) (hbs := (hqb.up0 hs2))) ?_
   rintro _ w3 ⟨rfl, hs3'⟩
   have hs3 : SH w w3 [] [.blk b1 26 [I ka, .slice Aqa qa.length cqa, Str na, I pa], .blk b2 26 [I kb, .slice Aqb qb.length cqb, Str nb, I pb]] := hs2.call0 hs3'
   clear hs3'
   refine q trivial rfl rfl (nd (p := qa = qb) rfl) ?_
   refine nl ?_
   refine nN ?_
   refine cdd (p := ¬ (qa = qb)) rfl (fun h2 => ?_) (fun h2 => ?_)
   · refine sq ?_
     refine rg ?_
     refine q trivial rfl rfl (asg (v := .bool false) rfl) ?_
     refine nl ?_
     refine nN ?_
     refine rt (tR ?_)
     refine fret (v := .bool false) (.tmp .nil) rfl ?_
     have e2 : false = (decide (ka = kb ∧ qa = qb ∧ na = nb ∧ pa = pb)) := by simp [h1, h2] <;> simp_all
     exact ⟨(congrArg (Value.bool) e2), (hs3.pick [] rfl (by decide))⟩
   · refine sk ?_
     refine nN ?_
     refine sq ?_
     refine sq ?_
     refine rg ?_
     refine q trivial rfl rfl (fa 2 fo26_2 rfl) ?_
     refine q trivial rfl rfl (ld (v := Str na) hs3 0 rfl rfl rfl one9) ?_
     refine q trivial rfl rfl (fa 2 fo26_2 rfl) ?_
     refine q trivial rfl rfl (ld (v := Str nb) hs3 1 rfl rfl rfl one9) ?_
     refine q trivial rfl rfl (nes (l := na) (m := nb) rfl rfl) ?_
     refine nl ?_
     refine nN ?_
     refine cdd (p := na ≠ nb) rfl (fun h3 => ?_) (fun h3 => ?_)
     · refine sq ?_
       refine rg ?_
       refine q trivial rfl rfl (asg (v := .bool false) rfl) ?_
       refine nl ?_
       refine nN ?_
       refine rt (tR ?_)
       refine fret (v := .bool false) (.tmp .nil) rfl ?_
       have e3 : false = (decide (ka = kb ∧ qa = qb ∧ na = nb ∧ pa = pb)) := by simp [h1, h2, h3] <;> simp_all
       exact ⟨(congrArg (Value.bool) e3), (hs3.pick [] rfl (by decide))⟩
     · refine sk ?_
       refine nN ?_
       refine sq ?_
       refine sq ?_
       refine rg ?_
       refine q trivial rfl rfl (fa 3 fo26_3 rfl) ?_
       refine q trivial rfl rfl (ld (v := I pa) hs3 0 rfl rfl rfl one3) ?_
       refine q trivial rfl rfl (fa 3 fo26_3 rfl) ?_
       refine q trivial rfl rfl (ld (v := I pb) hs3 1 rfl rfl rfl one3) ?_
       refine q trivial rfl rfl (nei (k := .i64) (a := pa) (b := pb) rfl rfl) ?_
       refine nl ?_
       refine nN ?_
       refine cdd (p := pa ≠ pb) rfl (fun h4 => ?_) (fun h4 => ?_)
       · refine sq ?_
         refine rg ?_
         refine q trivial rfl rfl (asg (v := .bool false) rfl) ?_
         refine nl ?_
         refine nN ?_
         refine rt (tR ?_)
         refine fret (v := .bool false) (.tmp .nil) rfl ?_
         have e4 : false = (decide (ka = kb ∧ qa = qb ∧ na = nb ∧ pa = pb)) := by simp [h1, h2, h3, h4] <;> simp_all
         exact ⟨(congrArg (Value.bool) e4), (hs3.pick [] rfl (by decide))⟩
       · refine sk ?_
         refine nN ?_
         refine sq ?_
         refine rg ?_
         refine q trivial rfl rfl (asg (v := .bool true) rfl) ?_
         refine nl ?_
         refine nN ?_
         refine rt ?_
         refine fret (v := .bool true) (.tmp .nil) rfl ?_
         have e5 : true = (decide (ka = kb ∧ qa = qb ∧ na = nb ∧ pa = pb)) := by simp [h1, h2, h3, h4] <;> simp_all
         exact ⟨(congrArg (Value.bool) e5), (hs3.pick [] rfl (by decide))⟩

set_option maxHeartbeats 8000000 in
theorem l91Quad {rb : Nat} {Ab : Option Addr} {cb : Nat} {bs : List UInt8} {p : Nat} (w : World) (hr : w.heap[rb]? = some (.cells [.slice Ab bs.length cb, .int .i64 ((p : Nat) : Int)].toArray 66 (0, 0))) (hb : Sl w [rb] 1 Ab bs.length cb (bs.map U)) (hbn : bs.length ≤ 2000) (hp : p ≤ 549755813888) : Does Tryd.prog 47 [pB rb] w (fun v w' => ∃ Ar : Option Addr, ∃ cr : Nat, ∃ r : List Int, ∃ q : Nat, v = .slice Ar r.length cr ∧ (r.length ≤ 4) ∧ (q ≤ p + 10) ∧ SH w w' [rb] [.blk rb 66 [.slice Ab bs.length cb, I ((q : Nat) : Int)], .own Ar r.length cr 3 1 (r.map I)]) := by
 refine fn_enter (N := 31) Tryd.func47 rfl (by kernel_rfl) rfl rfl rfl ?_
 have hs0 : SH w w [rb] [.blk rb 66 [.slice Ab bs.length cb, I ((p : Nat) : Int)]] := SH.entry1 hr
 refine sq ?_
 refine rg ?_
 refine q trivial rfl rfl (asg (v := ns) rfl) ?_
 refine nl ?_
 refine nN ?_
 refine sq ?_
 refine raJ (fun w' => ∃ L, SH w w' [rb] L ∧ True) (fun f w' => ∃ (r1' : Int) (q1' b2' : Nat) (r4' : Int) (q4' : Nat) (r8' : Int) (q8' : Nat) (r10' : Int) (q10' : Nat) (r12' : Int) (q12' b13' : Nat), Has f [(0, pB rb), (3, sb b13' (([([0, 1, 10, 255, r1'] : List Int).getD r4'.toNat 0, r8', r10', r12'] : List Int).length) 4)] ∧ (0 ≤ r1' ∧ (r1' < 256 ∨ r1' = 0)) ∧ (q1' ≤ p + 1) ∧ (0 ≤ r4' ∧ (r4' < 5 ∨ r4' = 0)) ∧ (q4' ≤ q1' + 1) ∧ (0 ≤ r8' ∧ (r8' < 2 ∨ r8' = 0)) ∧ (q8' ≤ q4' + 1) ∧ (0 ≤ r10' ∧ (r10' < 2 ∨ r10' = 0)) ∧ (q10' ≤ q8' + 1) ∧ (0 ≤ r12' ∧ (r12' < 256 ∨ r12' = 0)) ∧ (q12' ≤ q10' + 1) ∧ SH w w' [rb] [.blk rb 66 [.slice Ab bs.length cb, I ((q12' : Nat) : Int)], oI b13' ([([0, 1, 10, 255, r1'] : List Int).getD r4'.toNat 0, r8', r10', r12'] : List Int) 4 3, oI b2' ([0, 1, 10, 255, r1'] : List Int) 5 3]) mixed ?_ ?_
 · refine dag (fuel' := 2) (listed' := lbits 15 8191) (fun f w' => ∃ (r1' : Int) (q1' b2' : Nat) (r4' : Int) (q4' : Nat) (r8' : Int) (q8' : Nat) (r10' : Int) (q10' : Nat) (r12' : Int) (q12' : Nat), Has f [(0, pB rb), (10, I (([0, 1, 10, 255, r1'] : List Int).getD r4'.toNat 0)), (12, I r8'), (14, I r10'), (16, I r12')] ∧ (0 ≤ r1' ∧ (r1' < 256 ∨ r1' = 0)) ∧ (q1' ≤ p + 1) ∧ (0 ≤ r4' ∧ (r4' < 5 ∨ r4' = 0)) ∧ (q4' ≤ q1' + 1) ∧ (0 ≤ r8' ∧ (r8' < 2 ∨ r8' = 0)) ∧ (q8' ≤ q4' + 1) ∧ (0 ≤ r10' ∧ (r10' < 2 ∨ r10' = 0)) ∧ (q10' ≤ q8' + 1) ∧ (0 ≤ r12' ∧ (r12' < 256 ∨ r12' = 0)) ∧ (q12' ≤ q10' + 1) ∧ SH w w' [rb] [.blk rb 66 [.slice Ab bs.length cb, I ((q12' : Nat) : Int)], oI b2' ([0, 1, 10, 255, r1'] : List Int) 5 3]) ?_ (fun D_1_0 => ?_)
   · rintro f w1 ⟨r1', q1', b2', r4', q4', r8', q8', r10', q10', r12', q12', hf, p1, p2, p3, p4, p5, p6, p7, p8, p9, p10, hs1⟩
     obtain ⟨g1, rfl⟩ := has_upd hf
     clear hf
     refine aaL [13] (fa_one ?_)
     refine one_ rfl ?_
     refine bsk hs1 sl24 [I (([0, 1, 10, 255, r1'] : List Int).getD r4'.toNat 0), I r8', I r10', I r12'] [I (([0, 1, 10, 255, r1'] : List Int).getD r4'.toNat 0), I r8', I r10', I r12'] trivial rfl (fun b13' w2 hs2 => ?_)
     refine nl (kq ⟨_, hs2, trivial⟩ ?_)
     refine tk (fuel := 0) (is := [14]) (.cons rfl (.nil)) (by kernel_rfl) (by kernel_rfl) ⟨_, hs2, trivial⟩ ?_
     refine .op trivial rfl rfl (fun wq _ => asg (v := sb b13' (([([0, 1, 10, 255, r1'] : List Int).getD r4'.toNat 0, r8', r10', r12'] : List Int).length) 4) rfl) ?_
     refine .nil ?_
     refine ad (by kernel_rfl) ?_
     exact ⟨r1', q1', b2', r4', q4', r8', q8', r10', q10', r12', q12', b13', ⟨rfl, rfl, trivial⟩, p1, p2, p3, p4, p5, p6, p7, p8, p9, p10, (hs2.pick [0, 2, 1] rfl (by decide))⟩
   refine dag (fuel' := 3) (listed' := lbits 15 4095) (fun f w' => ∃ (r1' : Int) (q1' b2' : Nat) (r4' : Int) (q4' : Nat) (r8' : Int) (q8' : Nat) (r10' : Int) (q10' : Nat), Has f [(0, pB rb), (10, I (([0, 1, 10, 255, r1'] : List Int).getD r4'.toNat 0)), (12, I r8'), (14, I r10'), (15, pB rb)] ∧ (0 ≤ r1' ∧ (r1' < 256 ∨ r1' = 0)) ∧ (q1' ≤ p + 1) ∧ (0 ≤ r4' ∧ (r4' < 5 ∨ r4' = 0)) ∧ (q4' ≤ q1' + 1) ∧ (0 ≤ r8' ∧ (r8' < 2 ∨ r8' = 0)) ∧ (q8' ≤ q4' + 1) ∧ (0 ≤ r10' ∧ (r10' < 2 ∨ r10' = 0)) ∧ (q10' ≤ q8' + 1) ∧ SH w w' [rb] [.blk rb 66 [.slice Ab bs.length cb, I ((q10' : Nat) : Int)], oI b2' ([0, 1, 10, 255, r1'] : List Int) 5 3]) ?_ (fun D_1_1 => ?_)
   · rintro f w3 ⟨r1', q1', b2', r4', q4', r8', q8', r10', q10', hf, p11, p12, p13, p14, p15, p16, p17, p18, hs3⟩
     obtain ⟨g2, rfl⟩ := has_upd hf
     clear hf
     refine aaL [12] (fa_one ?_)
     refine one_ rfl ?_
     refine cl trivial rfl (pick (rb := rb) (Ab := Ab) (cb := cb) (bs := bs) (p := q10') (n := 256) (w := _) (hr := (blk_heap hs3 0 rfl)) (hb := (hb.up hs3 (fun _ h => h) (fun _ h => .inl h))) (hbn := (by first | assumption | (simp; omega))) (hp := (by omega))) ?_
     rintro _ w4 ⟨r12', q12', rfl, p19, p20, hs4'⟩
     have hs4 := hs3.callM 0 rfl hs4' (by intro k hk; simp at hk; exact hk.symm)
     clear hs4'
     exact nl (kq ⟨_, hs4, trivial⟩ (alc D_1_0 ⟨r1', q1', b2', r4', q4', r8', q8', r10', q10', r12', q12', ⟨rfl, rfl, rfl, rfl, rfl, trivial⟩, p11, p12, p13, p14, p15, p16, p17, p18, p19, p20, (hs4.pick [1, 0] rfl (by decide))⟩))
   refine dag (fuel' := 3) (listed' := lbits 15 8127) (fun f w' => ∃ (r1' : Int) (q1' b2' : Nat) (r4' : Int) (q4' : Nat) (r8' : Int) (q8' : Nat) (r10' : Int) (q10' : Nat) (r12' : Int) (q12' : Nat), Has f [(0, pB rb), (9, .pointer (some ⟨b2', r4'.toNat * 1, none⟩)), (12, I r8'), (14, I r10'), (16, I r12')] ∧ (0 ≤ r1' ∧ (r1' < 256 ∨ r1' = 0)) ∧ (q1' ≤ p + 1) ∧ (0 ≤ r4' ∧ (r4' < 5 ∨ r4' = 0)) ∧ (q4' ≤ q1' + 1) ∧ (0 ≤ r8' ∧ (r8' < 2 ∨ r8' = 0)) ∧ (q8' ≤ q4' + 1) ∧ (0 ≤ r10' ∧ (r10' < 2 ∨ r10' = 0)) ∧ (q10' ≤ q8' + 1) ∧ (0 ≤ r12' ∧ (r12' < 256 ∨ r12' = 0)) ∧ (q12' ≤ q10' + 1) ∧ SH w w' [rb] [.blk rb 66 [.slice Ab bs.length cb, I ((q12' : Nat) : Int)], oI b2' ([0, 1, 10, 255, r1'] : List Int) 5 3]) ?_ (fun D_1_2 => ?_)
   · rintro f w5 ⟨r1', q1', b2', r4', q4', r8', q8', r10', q10', r12', q12', hf, p21, p22, p23, p24, p25, p26, p27, p28, p29, p30, hs5⟩
     obtain ⟨g3, rfl⟩ := has_upd hf
     clear hf
     refine aaL [6] (fa_one ?_)
     refine one_ rfl ?_
     refine q trivial rfl rfl (ldo1n (g := I) (ys := ([0, 1, 10, 255, r1'] : List Int)) (o := r4'.toNat) 0 hs5 1 rfl rfl (by first | omega | (simp; done) | (simp; omega)) one3) ?_
     exact nl (kq ⟨_, hs5, trivial⟩ (alc D_1_0 ⟨r1', q1', b2', r4', q4', r8', q8', r10', q10', r12', q12', ⟨rfl, rfl, rfl, rfl, rfl, trivial⟩, p21, p22, p23, p24, p25, p26, p27, p28, p29, p30, hs5⟩))
   refine dag (fuel' := 4) (listed' := lbits 15 3071) (fun f w' => ∃ (r1' : Int) (q1' b2' : Nat) (r4' : Int) (q4' : Nat) (r8' : Int) (q8' : Nat), Has f [(0, pB rb), (10, I (([0, 1, 10, 255, r1'] : List Int).getD r4'.toNat 0)), (12, I r8'), (13, pB rb), (15, pB rb)] ∧ (0 ≤ r1' ∧ (r1' < 256 ∨ r1' = 0)) ∧ (q1' ≤ p + 1) ∧ (0 ≤ r4' ∧ (r4' < 5 ∨ r4' = 0)) ∧ (q4' ≤ q1' + 1) ∧ (0 ≤ r8' ∧ (r8' < 2 ∨ r8' = 0)) ∧ (q8' ≤ q4' + 1) ∧ SH w w' [rb] [.blk rb 66 [.slice Ab bs.length cb, I ((q8' : Nat) : Int)], oI b2' ([0, 1, 10, 255, r1'] : List Int) 5 3]) ?_ (fun D_1_3 => ?_)
   · rintro f w6 ⟨r1', q1', b2', r4', q4', r8', q8', hf, p31, p32, p33, p34, p35, p36, hs6⟩
     obtain ⟨g4, rfl⟩ := has_upd hf
     clear hf
     refine aaL [10] (fa_one ?_)
     refine one_ rfl ?_
     refine cl trivial rfl (pick (rb := rb) (Ab := Ab) (cb := cb) (bs := bs) (p := q8') (n := 2) (w := _) (hr := (blk_heap hs6 0 rfl)) (hb := (hb.up hs6 (fun _ h => h) (fun _ h => .inl h))) (hbn := (by first | assumption | (simp; omega))) (hp := (by omega))) ?_
     rintro _ w7 ⟨r10', q10', rfl, p37, p38, hs7'⟩
     have hs7 := hs6.callM 0 rfl hs7' (by intro k hk; simp at hk; exact hk.symm)
     clear hs7'
     exact nl (kq ⟨_, hs7, trivial⟩ (alc D_1_1 ⟨r1', q1', b2', r4', q4', r8', q8', r10', q10', ⟨rfl, rfl, rfl, rfl, rfl, trivial⟩, p31, p32, p33, p34, p35, p36, p37, p38, (hs7.pick [1, 0] rfl (by decide))⟩))
   refine dag (fuel' := 4) (listed' := lbits 15 4031) (fun f w' => ∃ (r1' : Int) (q1' b2' : Nat) (r4' : Int) (q4' : Nat) (r8' : Int) (q8' : Nat) (r10' : Int) (q10' : Nat), Has f [(0, pB rb), (9, .pointer (some ⟨b2', r4'.toNat * 1, none⟩)), (12, I r8'), (14, I r10'), (15, pB rb)] ∧ (0 ≤ r1' ∧ (r1' < 256 ∨ r1' = 0)) ∧ (q1' ≤ p + 1) ∧ (0 ≤ r4' ∧ (r4' < 5 ∨ r4' = 0)) ∧ (q4' ≤ q1' + 1) ∧ (0 ≤ r8' ∧ (r8' < 2 ∨ r8' = 0)) ∧ (q8' ≤ q4' + 1) ∧ (0 ≤ r10' ∧ (r10' < 2 ∨ r10' = 0)) ∧ (q10' ≤ q8' + 1) ∧ SH w w' [rb] [.blk rb 66 [.slice Ab bs.length cb, I ((q10' : Nat) : Int)], oI b2' ([0, 1, 10, 255, r1'] : List Int) 5 3]) ?_ (fun D_1_4 => ?_)
   · rintro f w8 ⟨r1', q1', b2', r4', q4', r8', q8', r10', q10', hf, p39, p40, p41, p42, p43, p44, p45, p46, hs8⟩
     obtain ⟨g5, rfl⟩ := has_upd hf
     clear hf
     refine aaL [6, 12] (fa_cons ?_ (fa_one ?_))
     · refine one_ rfl ?_
       refine q trivial rfl rfl (ldo1n (g := I) (ys := ([0, 1, 10, 255, r1'] : List Int)) (o := r4'.toNat) 0 hs8 1 rfl rfl (by first | omega | (simp; done) | (simp; omega)) one3) ?_
       exact nl (kq ⟨_, hs8, trivial⟩ (alc D_1_1 ⟨r1', q1', b2', r4', q4', r8', q8', r10', q10', ⟨rfl, rfl, rfl, rfl, rfl, trivial⟩, p39, p40, p41, p42, p43, p44, p45, p46, hs8⟩))
     · refine one_ rfl ?_
       refine cl trivial rfl (pick (rb := rb) (Ab := Ab) (cb := cb) (bs := bs) (p := q10') (n := 256) (w := _) (hr := (blk_heap hs8 0 rfl)) (hb := (hb.up hs8 (fun _ h => h) (fun _ h => .inl h))) (hbn := (by first | assumption | (simp; omega))) (hp := (by omega))) ?_
       rintro _ w9 ⟨r12', q12', rfl, p47, p48, hs9'⟩
       have hs9 := hs8.callM 0 rfl hs9' (by intro k hk; simp at hk; exact hk.symm)
       clear hs9'
       exact nl (kq ⟨_, hs9, trivial⟩ (alc D_1_2 ⟨r1', q1', b2', r4', q4', r8', q8', r10', q10', r12', q12', ⟨rfl, rfl, rfl, rfl, rfl, trivial⟩, p39, p40, p41, p42, p43, p44, p45, p46, p47, p48, (hs9.pick [1, 0] rfl (by decide))⟩))
   refine dag (fuel' := 5) (listed' := lbits 15 2815) (fun f w' => ∃ (r1' : Int) (q1' b2' : Nat) (r4' : Int) (q4' : Nat), Has f [(0, pB rb), (10, I (([0, 1, 10, 255, r1'] : List Int).getD r4'.toNat 0)), (11, pB rb), (13, pB rb), (15, pB rb)] ∧ (0 ≤ r1' ∧ (r1' < 256 ∨ r1' = 0)) ∧ (q1' ≤ p + 1) ∧ (0 ≤ r4' ∧ (r4' < 5 ∨ r4' = 0)) ∧ (q4' ≤ q1' + 1) ∧ SH w w' [rb] [.blk rb 66 [.slice Ab bs.length cb, I ((q4' : Nat) : Int)], oI b2' ([0, 1, 10, 255, r1'] : List Int) 5 3]) ?_ (fun D_1_5 => ?_)
   · rintro f w10 ⟨r1', q1', b2', r4', q4', hf, p49, p50, p51, p52, hs10⟩
     obtain ⟨g6, rfl⟩ := has_upd hf
     clear hf
     refine aaL [8] (fa_one ?_)
     refine one_ rfl ?_
     refine cl trivial rfl (pick (rb := rb) (Ab := Ab) (cb := cb) (bs := bs) (p := q4') (n := 2) (w := _) (hr := (blk_heap hs10 0 rfl)) (hb := (hb.up hs10 (fun _ h => h) (fun _ h => .inl h))) (hbn := (by first | assumption | (simp; omega))) (hp := (by omega))) ?_
     rintro _ w11 ⟨r8', q8', rfl, p53, p54, hs11'⟩
     have hs11 := hs10.callM 0 rfl hs11' (by intro k hk; simp at hk; exact hk.symm)
     clear hs11'
     exact nl (kq ⟨_, hs11, trivial⟩ (alc D_1_3 ⟨r1', q1', b2', r4', q4', r8', q8', ⟨rfl, rfl, rfl, rfl, rfl, trivial⟩, p49, p50, p51, p52, p53, p54, (hs11.pick [1, 0] rfl (by decide))⟩))
   refine dag (fuel' := 5) (listed' := lbits 15 3007) (fun f w' => ∃ (r1' : Int) (q1' b2' : Nat) (r4' : Int) (q4' : Nat) (r8' : Int) (q8' : Nat), Has f [(0, pB rb), (9, .pointer (some ⟨b2', r4'.toNat * 1, none⟩)), (12, I r8'), (13, pB rb), (15, pB rb)] ∧ (0 ≤ r1' ∧ (r1' < 256 ∨ r1' = 0)) ∧ (q1' ≤ p + 1) ∧ (0 ≤ r4' ∧ (r4' < 5 ∨ r4' = 0)) ∧ (q4' ≤ q1' + 1) ∧ (0 ≤ r8' ∧ (r8' < 2 ∨ r8' = 0)) ∧ (q8' ≤ q4' + 1) ∧ SH w w' [rb] [.blk rb 66 [.slice Ab bs.length cb, I ((q8' : Nat) : Int)], oI b2' ([0, 1, 10, 255, r1'] : List Int) 5 3]) ?_ (fun D_1_6 => ?_)
   · rintro f w12 ⟨r1', q1', b2', r4', q4', r8', q8', hf, p55, p56, p57, p58, p59, p60, hs12⟩
     obtain ⟨g7, rfl⟩ := has_upd hf
     clear hf
     refine aaL [6, 10] (fa_cons ?_ (fa_one ?_))
     · refine one_ rfl ?_
       refine q trivial rfl rfl (ldo1n (g := I) (ys := ([0, 1, 10, 255, r1'] : List Int)) (o := r4'.toNat) 0 hs12 1 rfl rfl (by first | omega | (simp; done) | (simp; omega)) one3) ?_
       exact nl (kq ⟨_, hs12, trivial⟩ (alc D_1_3 ⟨r1', q1', b2', r4', q4', r8', q8', ⟨rfl, rfl, rfl, rfl, rfl, trivial⟩, p55, p56, p57, p58, p59, p60, hs12⟩))
     · refine one_ rfl ?_
       refine cl trivial rfl (pick (rb := rb) (Ab := Ab) (cb := cb) (bs := bs) (p := q8') (n := 2) (w := _) (hr := (blk_heap hs12 0 rfl)) (hb := (hb.up hs12 (fun _ h => h) (fun _ h => .inl h))) (hbn := (by first | assumption | (simp; omega))) (hp := (by omega))) ?_
       rintro _ w13 ⟨r10', q10', rfl, p61, p62, hs13'⟩
       have hs13 := hs12.callM 0 rfl hs13' (by intro k hk; simp at hk; exact hk.symm)
       clear hs13'
       exact nl (kq ⟨_, hs13, trivial⟩ (alc D_1_4 ⟨r1', q1', b2', r4', q4', r8', q8', r10', q10', ⟨rfl, rfl, rfl, rfl, rfl, trivial⟩, p55, p56, p57, p58, p59, p60, p61, p62, (hs13.pick [1, 0] rfl (by decide))⟩))
   refine dag (fuel' := 5) (listed' := lbits 15 8091) (fun f w' => ∃ (r1' : Int) (q1' : Nat) (r4' : Int) (q4' : Nat) (r8' : Int) (q8' : Nat) (r10' : Int) (q10' : Nat) (r12' : Int) (q12' : Nat), Has f [(0, pB rb), (5, I r1'), (8, I r4'), (12, I r8'), (14, I r10'), (16, I r12')] ∧ (0 ≤ r1' ∧ (r1' < 256 ∨ r1' = 0)) ∧ (q1' ≤ p + 1) ∧ (0 ≤ r4' ∧ (r4' < 5 ∨ r4' = 0)) ∧ (q4' ≤ q1' + 1) ∧ (0 ≤ r8' ∧ (r8' < 2 ∨ r8' = 0)) ∧ (q8' ≤ q4' + 1) ∧ (0 ≤ r10' ∧ (r10' < 2 ∨ r10' = 0)) ∧ (q10' ≤ q8' + 1) ∧ (0 ≤ r12' ∧ (r12' < 256 ∨ r12' = 0)) ∧ (q12' ≤ q10' + 1) ∧ SH w w' [rb] [.blk rb 66 [.slice Ab bs.length cb, I ((q12' : Nat) : Int)]]) ?_ (fun D_1_7 => ?_)
   · rintro f w14 ⟨r1', q1', r4', q4', r8', q8', r10', q10', r12', q12', hf, p63, p64, p65, p66, p67, p68, p69, p70, p71, p72, hs14⟩
     obtain ⟨g8, rfl⟩ := has_upd hf
     clear hf
     refine aaL [2] (fa_one ?_)
     refine one_ rfl ?_
     refine bsk hs14 sl24 [I 0, I 1, I 10, I 255, I r1'] [I 0, I 1, I 10, I 255, I r1'] trivial rfl (fun b2' w15 hs15 => ?_)
     refine nl (kq ⟨_, hs15, trivial⟩ ?_)
     refine tk (fuel := 3) (is := [5]) (.cons rfl (.nil)) (by kernel_rfl) (by kernel_rfl) ⟨_, hs15, trivial⟩ ?_
     refine .op trivial rfl rfl (fun wq _ => ixo r4'.toNat sl24 rfl (ieq (x := r4') (by omega)) (by first | omega | (simp; done) | (simp; omega))) ?_
     refine .nil ?_
     exact alc D_1_2 ⟨r1', q1', b2', r4', q4', r8', q8', r10', q10', r12', q12', ⟨rfl, rfl, rfl, rfl, rfl, trivial⟩, p63, p64, p65, p66, p67, p68, p69, p70, p71, p72, hs15⟩
   refine dag (fuel' := 6) (listed' := lbits 15 2751) (fun f w' => ∃ (r1' : Int) (q1' b2' : Nat) (r4' : Int) (q4' : Nat), Has f [(0, pB rb), (9, .pointer (some ⟨b2', r4'.toNat * 1, none⟩)), (11, pB rb), (13, pB rb), (15, pB rb)] ∧ (0 ≤ r1' ∧ (r1' < 256 ∨ r1' = 0)) ∧ (q1' ≤ p + 1) ∧ (0 ≤ r4' ∧ (r4' < 5 ∨ r4' = 0)) ∧ (q4' ≤ q1' + 1) ∧ SH w w' [rb] [.blk rb 66 [.slice Ab bs.length cb, I ((q4' : Nat) : Int)], oI b2' ([0, 1, 10, 255, r1'] : List Int) 5 3]) ?_ (fun D_1_8 => ?_)
   · rintro f w16 ⟨r1', q1', b2', r4', q4', hf, p73, p74, p75, p76, hs16⟩
     obtain ⟨g9, rfl⟩ := has_upd hf
     clear hf
     refine aaL [6, 8] (fa_cons ?_ (fa_one ?_))
     · refine one_ rfl ?_
       refine q trivial rfl rfl (ldo1n (g := I) (ys := ([0, 1, 10, 255, r1'] : List Int)) (o := r4'.toNat) 0 hs16 1 rfl rfl (by first | omega | (simp; done) | (simp; omega)) one3) ?_
       exact nl (kq ⟨_, hs16, trivial⟩ (alc D_1_5 ⟨r1', q1', b2', r4', q4', ⟨rfl, rfl, rfl, rfl, rfl, trivial⟩, p73, p74, p75, p76, hs16⟩))
     · refine one_ rfl ?_
       refine cl trivial rfl (pick (rb := rb) (Ab := Ab) (cb := cb) (bs := bs) (p := q4') (n := 2) (w := _) (hr := (blk_heap hs16 0 rfl)) (hb := (hb.up hs16 (fun _ h => h) (fun _ h => .inl h))) (hbn := (by first | assumption | (simp; omega))) (hp := (by omega))) ?_
       rintro _ w17 ⟨r8', q8', rfl, p77, p78, hs17'⟩
       have hs17 := hs16.callM 0 rfl hs17' (by intro k hk; simp at hk; exact hk.symm)
       clear hs17'
       exact nl (kq ⟨_, hs17, trivial⟩ (alc D_1_6 ⟨r1', q1', b2', r4', q4', r8', q8', ⟨rfl, rfl, rfl, rfl, rfl, trivial⟩, p73, p74, p75, p76, p77, p78, (hs17.pick [1, 0] rfl (by decide))⟩))
   refine dag (fuel' := 6) (listed' := lbits 15 3995) (fun f w' => ∃ (r1' : Int) (q1' : Nat) (r4' : Int) (q4' : Nat) (r8' : Int) (q8' : Nat) (r10' : Int) (q10' : Nat), Has f [(0, pB rb), (5, I r1'), (8, I r4'), (12, I r8'), (14, I r10'), (15, pB rb)] ∧ (0 ≤ r1' ∧ (r1' < 256 ∨ r1' = 0)) ∧ (q1' ≤ p + 1) ∧ (0 ≤ r4' ∧ (r4' < 5 ∨ r4' = 0)) ∧ (q4' ≤ q1' + 1) ∧ (0 ≤ r8' ∧ (r8' < 2 ∨ r8' = 0)) ∧ (q8' ≤ q4' + 1) ∧ (0 ≤ r10' ∧ (r10' < 2 ∨ r10' = 0)) ∧ (q10' ≤ q8' + 1) ∧ SH w w' [rb] [.blk rb 66 [.slice Ab bs.length cb, I ((q10' : Nat) : Int)]]) ?_ (fun D_1_9 => ?_)
   · rintro f w18 ⟨r1', q1', r4', q4', r8', q8', r10', q10', hf, p79, p80, p81, p82, p83, p84, p85, p86, hs18⟩
     obtain ⟨g10, rfl⟩ := has_upd hf
     clear hf
     refine aaL [2, 12] (fa_cons ?_ (fa_one ?_))
     · refine one_ rfl ?_
       refine bsk hs18 sl24 [I 0, I 1, I 10, I 255, I r1'] [I 0, I 1, I 10, I 255, I r1'] trivial rfl (fun b2' w19 hs19 => ?_)
       refine nl (kq ⟨_, hs19, trivial⟩ ?_)
       refine tk (fuel := 4) (is := [5]) (.cons rfl (.nil)) (by kernel_rfl) (by kernel_rfl) ⟨_, hs19, trivial⟩ ?_
       refine .op trivial rfl rfl (fun wq _ => ixo r4'.toNat sl24 rfl (ieq (x := r4') (by omega)) (by first | omega | (simp; done) | (simp; omega))) ?_
       refine .nil ?_
       exact alc D_1_4 ⟨r1', q1', b2', r4', q4', r8', q8', r10', q10', ⟨rfl, rfl, rfl, rfl, rfl, trivial⟩, p79, p80, p81, p82, p83, p84, p85, p86, hs19⟩
     · refine one_ rfl ?_
       refine cl trivial rfl (pick (rb := rb) (Ab := Ab) (cb := cb) (bs := bs) (p := q10') (n := 256) (w := _) (hr := (blk_heap hs18 0 rfl)) (hb := (hb.up hs18 (fun _ h => h) (fun _ h => .inl h))) (hbn := (by first | assumption | (simp; omega))) (hp := (by omega))) ?_
       rintro _ w20 ⟨r12', q12', rfl, p87, p88, hs20'⟩
       have hs20 := hs18.callM 0 rfl hs20' (by intro k hk; simp at hk; exact hk.symm)
       clear hs20'
       exact nl (kq ⟨_, hs20, trivial⟩ (alc D_1_7 ⟨r1', q1', r4', q4', r8', q8', r10', q10', r12', q12', ⟨rfl, rfl, rfl, rfl, rfl, rfl, trivial⟩, p79, p80, p81, p82, p83, p84, p85, p86, p87, p88, hs20⟩))
   refine dag (fuel' := 7) (listed' := lbits 15 2971) (fun f w' => ∃ (r1' : Int) (q1' : Nat) (r4' : Int) (q4' : Nat) (r8' : Int) (q8' : Nat), Has f [(0, pB rb), (5, I r1'), (8, I r4'), (12, I r8'), (13, pB rb), (15, pB rb)] ∧ (0 ≤ r1' ∧ (r1' < 256 ∨ r1' = 0)) ∧ (q1' ≤ p + 1) ∧ (0 ≤ r4' ∧ (r4' < 5 ∨ r4' = 0)) ∧ (q4' ≤ q1' + 1) ∧ (0 ≤ r8' ∧ (r8' < 2 ∨ r8' = 0)) ∧ (q8' ≤ q4' + 1) ∧ SH w w' [rb] [.blk rb 66 [.slice Ab bs.length cb, I ((q8' : Nat) : Int)]]) ?_ (fun D_1_10 => ?_)
   · rintro f w21 ⟨r1', q1', r4', q4', r8', q8', hf, p89, p90, p91, p92, p93, p94, hs21⟩
     obtain ⟨g11, rfl⟩ := has_upd hf
     clear hf
     refine aaL [2, 10] (fa_cons ?_ (fa_one ?_))
     · refine one_ rfl ?_
       refine bsk hs21 sl24 [I 0, I 1, I 10, I 255, I r1'] [I 0, I 1, I 10, I 255, I r1'] trivial rfl (fun b2' w22 hs22 => ?_)
       refine nl (kq ⟨_, hs22, trivial⟩ ?_)
       refine tk (fuel := 5) (is := [5]) (.cons rfl (.nil)) (by kernel_rfl) (by kernel_rfl) ⟨_, hs22, trivial⟩ ?_
       refine .op trivial rfl rfl (fun wq _ => ixo r4'.toNat sl24 rfl (ieq (x := r4') (by omega)) (by first | omega | (simp; done) | (simp; omega))) ?_
       refine .nil ?_
       exact alc D_1_6 ⟨r1', q1', b2', r4', q4', r8', q8', ⟨rfl, rfl, rfl, rfl, rfl, trivial⟩, p89, p90, p91, p92, p93, p94, hs22⟩
     · refine one_ rfl ?_
       refine cl trivial rfl (pick (rb := rb) (Ab := Ab) (cb := cb) (bs := bs) (p := q8') (n := 2) (w := _) (hr := (blk_heap hs21 0 rfl)) (hb := (hb.up hs21 (fun _ h => h) (fun _ h => .inl h))) (hbn := (by first | assumption | (simp; omega))) (hp := (by omega))) ?_
       rintro _ w23 ⟨r10', q10', rfl, p95, p96, hs23'⟩
       have hs23 := hs21.callM 0 rfl hs23' (by intro k hk; simp at hk; exact hk.symm)
       clear hs23'
       exact nl (kq ⟨_, hs23, trivial⟩ (alc D_1_9 ⟨r1', q1', r4', q4', r8', q8', r10', q10', ⟨rfl, rfl, rfl, rfl, rfl, rfl, trivial⟩, p89, p90, p91, p92, p93, p94, p95, p96, hs23⟩))
   refine dag (fuel' := 8) (listed' := lbits 15 2703) (fun f w' => ∃ (r1' : Int) (q1' b2' : Nat), Has f [(0, pB rb), (6, sb b2' (([0, 1, 10, 255, r1'] : List Int).length) 5), (7, pB rb), (11, pB rb), (13, pB rb), (15, pB rb)] ∧ (0 ≤ r1' ∧ (r1' < 256 ∨ r1' = 0)) ∧ (q1' ≤ p + 1) ∧ SH w w' [rb] [.blk rb 66 [.slice Ab bs.length cb, I ((q1' : Nat) : Int)], oI b2' ([0, 1, 10, 255, r1'] : List Int) 5 3]) ?_ (fun D_1_11 => ?_)
   · rintro f w24 ⟨r1', q1', b2', hf, p97, p98, hs24⟩
     obtain ⟨g12, rfl⟩ := has_upd hf
     clear hf
     refine aaL [4] (fa_one ?_)
     refine one_ rfl ?_
     refine cl trivial rfl (pick (rb := rb) (Ab := Ab) (cb := cb) (bs := bs) (p := q1') (n := 5) (w := _) (hr := (blk_heap hs24 0 rfl)) (hb := (hb.up hs24 (fun _ h => h) (fun _ h => .inl h))) (hbn := (by first | assumption | (simp; omega))) (hp := (by omega))) ?_
     rintro _ w25 ⟨r4', q4', rfl, p99, p100, hs25'⟩
     have hs25 := hs24.callM 0 rfl hs25' (by intro k hk; simp at hk; exact hk.symm)
     clear hs25'
     refine nl (kq ⟨_, hs25, trivial⟩ ?_)
     refine tk (fuel := 6) (is := [5]) (.cons rfl (.nil)) (by kernel_rfl) (by kernel_rfl) ⟨_, hs25, trivial⟩ ?_
     refine .op trivial rfl rfl (fun wq _ => ixo r4'.toNat sl24 rfl (ieq (x := r4') (by omega)) (by first | omega | (simp; done) | (simp; omega))) ?_
     refine .nil ?_
     exact alc D_1_8 ⟨r1', q1', b2', r4', q4', ⟨rfl, rfl, rfl, rfl, rfl, trivial⟩, p97, p98, p99, p100, (hs25.pick [1, 0] rfl (by decide))⟩
   refine dag (fuel' := 8) (listed' := lbits 15 2715) (fun f w' => ∃ (r1' : Int) (q1' : Nat) (r4' : Int) (q4' : Nat), Has f [(0, pB rb), (5, I r1'), (8, I r4'), (11, pB rb), (13, pB rb), (15, pB rb)] ∧ (0 ≤ r1' ∧ (r1' < 256 ∨ r1' = 0)) ∧ (q1' ≤ p + 1) ∧ (0 ≤ r4' ∧ (r4' < 5 ∨ r4' = 0)) ∧ (q4' ≤ q1' + 1) ∧ SH w w' [rb] [.blk rb 66 [.slice Ab bs.length cb, I ((q4' : Nat) : Int)]]) ?_ (fun D_1_12 => ?_)
   · rintro f w26 ⟨r1', q1', r4', q4', hf, p101, p102, p103, p104, hs26⟩
     obtain ⟨g13, rfl⟩ := has_upd hf
     clear hf
     refine aaL [2, 8] (fa_cons ?_ (fa_one ?_))
     · refine one_ rfl ?_
       refine bsk hs26 sl24 [I 0, I 1, I 10, I 255, I r1'] [I 0, I 1, I 10, I 255, I r1'] trivial rfl (fun b2' w27 hs27 => ?_)
       refine nl (kq ⟨_, hs27, trivial⟩ ?_)
       refine tk (fuel := 6) (is := [5]) (.cons rfl (.nil)) (by kernel_rfl) (by kernel_rfl) ⟨_, hs27, trivial⟩ ?_
       refine .op trivial rfl rfl (fun wq _ => ixo r4'.toNat sl24 rfl (ieq (x := r4') (by omega)) (by first | omega | (simp; done) | (simp; omega))) ?_
       refine .nil ?_
       exact alc D_1_8 ⟨r1', q1', b2', r4', q4', ⟨rfl, rfl, rfl, rfl, rfl, trivial⟩, p101, p102, p103, p104, hs27⟩
     · refine one_ rfl ?_
       refine cl trivial rfl (pick (rb := rb) (Ab := Ab) (cb := cb) (bs := bs) (p := q4') (n := 2) (w := _) (hr := (blk_heap hs26 0 rfl)) (hb := (hb.up hs26 (fun _ h => h) (fun _ h => .inl h))) (hbn := (by first | assumption | (simp; omega))) (hp := (by omega))) ?_
       rintro _ w28 ⟨r8', q8', rfl, p105, p106, hs28'⟩
       have hs28 := hs26.callM 0 rfl hs28' (by intro k hk; simp at hk; exact hk.symm)
       clear hs28'
       exact nl (kq ⟨_, hs28, trivial⟩ (alc D_1_10 ⟨r1', q1', r4', q4', r8', q8', ⟨rfl, rfl, rfl, rfl, rfl, rfl, trivial⟩, p101, p102, p103, p104, p105, p106, hs28⟩))
   refine dag (fuel' := 9) (listed' := lbits 15 2699) (fun f w' => ∃ (r1' : Int) (q1' : Nat), Has f [(0, pB rb), (5, I r1'), (7, pB rb), (11, pB rb), (13, pB rb), (15, pB rb)] ∧ (0 ≤ r1' ∧ (r1' < 256 ∨ r1' = 0)) ∧ (q1' ≤ p + 1) ∧ SH w w' [rb] [.blk rb 66 [.slice Ab bs.length cb, I ((q1' : Nat) : Int)]]) ?_ (fun D_1_13 => ?_)
   · rintro f w29 ⟨r1', q1', hf, p107, p108, hs29⟩
     obtain ⟨g14, rfl⟩ := has_upd hf
     clear hf
     refine aaL [2, 4] (fa_cons ?_ (fa_one ?_))
     · refine one_ rfl ?_
       refine bsk hs29 sl24 [I 0, I 1, I 10, I 255, I r1'] [I 0, I 1, I 10, I 255, I r1'] trivial rfl (fun b2' w30 hs30 => ?_)
       exact nl (kq ⟨_, hs30, trivial⟩ (alc D_1_11 ⟨r1', q1', b2', ⟨rfl, rfl, rfl, rfl, rfl, rfl, trivial⟩, p107, p108, hs30⟩))
     · refine one_ rfl ?_
       refine cl trivial rfl (pick (rb := rb) (Ab := Ab) (cb := cb) (bs := bs) (p := q1') (n := 5) (w := _) (hr := (blk_heap hs29 0 rfl)) (hb := (hb.up hs29 (fun _ h => h) (fun _ h => .inl h))) (hbn := (by first | assumption | (simp; omega))) (hp := (by omega))) ?_
       rintro _ w31 ⟨r4', q4', rfl, p109, p110, hs31'⟩
       have hs31 := hs29.callM 0 rfl hs31' (by intro k hk; simp at hk; exact hk.symm)
       clear hs31'
       exact nl (kq ⟨_, hs31, trivial⟩ (alc D_1_12 ⟨r1', q1', r4', q4', ⟨rfl, rfl, rfl, rfl, rfl, rfl, trivial⟩, p107, p108, p109, p110, hs31⟩))
   refine dag (fuel' := 10) (listed' := lbits 15 2697) (fun f w' => Has f [(0, pB rb), (4, pB rb), (7, pB rb), (11, pB rb), (13, pB rb), (15, pB rb)] ∧ SH w w' [rb] [.blk rb 66 [.slice Ab bs.length cb, I ((p : Nat) : Int)]]) ?_ (fun D_1_14 => ?_)
   · rintro f w32 ⟨hf, hs32⟩
     obtain ⟨g15, rfl⟩ := has_upd hf
     clear hf
     refine aaL [1] (fa_one ?_)
     refine one_ rfl ?_
     refine cl trivial rfl (pick (rb := rb) (Ab := Ab) (cb := cb) (bs := bs) (p := p) (n := 256) (w := _) (hr := (blk_heap hs32 0 rfl)) (hb := (hb.up hs32 (fun _ h => h) (fun _ h => .inl h))) (hbn := (by first | assumption | (simp; omega))) (hp := (by omega))) ?_
     rintro _ w33 ⟨r1', q1', rfl, p111, p112, hs33'⟩
     have hs33 := hs32.callM 0 rfl hs33' (by intro k hk; simp at hk; exact hk.symm)
     clear hs33'
     exact nl (kq ⟨_, hs33, trivial⟩ (alc D_1_13 ⟨r1', q1', ⟨rfl, rfl, rfl, rfl, rfl, rfl, trivial⟩, p111, p112, hs33⟩))
   have hs34 := hs0.drew
   refine tk (fuel := 10) (is := [0, 3, 7, 9, 11]) (.cons rfl (.cons rfl (.cons rfl (.cons rfl (.cons rfl (.nil)))))) (by kernel_rfl) (by kernel_rfl) ⟨_, hs34, trivial⟩ ?_
   refine .op trivial rfl rfl (fun wq _ => mv (v := pB rb) rfl) ?_
   refine .op trivial rfl rfl (fun wq _ => mv (v := pB rb) rfl) ?_
   refine .op trivial rfl rfl (fun wq _ => mv (v := pB rb) rfl) ?_
   refine .op trivial rfl rfl (fun wq _ => mv (v := pB rb) rfl) ?_
   refine .op trivial rfl rfl (fun wq _ => mv (v := pB rb) rfl) ?_
   refine .nil ?_
   exact alc D_1_14 ⟨⟨rfl, rfl, rfl, rfl, rfl, rfl, trivial⟩, hs34⟩
 rintro f w34 ⟨r1', q1', b2', r4', q4', r8', q8', r10', q10', r12', q12', b13', hf, p113, p114, p115, p116, p117, p118, p119, p120, p121, p122, hs35⟩
 obtain ⟨g16, rfl⟩ := has_upd hf
 clear hf
 refine nN ?_
 refine sq ?_
 refine sq ?_
 refine rg ?_
 refine q trivial rfl rfl (mv (v := pB rb) rfl) ?_
 refine cl trivial rfl (pick (rb := rb) (Ab := Ab) (cb := cb) (bs := bs) (p := q12') (n := 40) (w := _) (hr := (blk_heap hs35 0 rfl)) (hb := (hb.up hs35 (fun _ h => h) (fun _ h => .inl h))) (hbn := (by first | assumption | (simp; omega))) (hp := (by omega))) ?_
 rintro _ w35 ⟨r1, q1, rfl, p123, p124, hs36'⟩
 have hs36 : SH w w35 [rb] [oI b13' ([([0, 1, 10, 255, r1'] : List Int).getD r4'.toNat 0, r8', r10', r12'] : List Int) 4 3, oI b2' ([0, 1, 10, 255, r1'] : List Int) 5 3, .blk rb 66 [.slice Ab bs.length cb, I ((q1 : Nat) : Int)]] := hs35.callM 0 rfl hs36' (by intro k hk; simp at hk; exact hk.symm)
 clear hs36'
 refine nl ?_
 refine nN ?_
 refine bl ?_
 refine sq ?_
 refine rg ?_
 refine q trivial rfl rfl (eqi (k := .i64) (a := r1) (b := 0) rfl rfl) ?_
 refine q trivial rfl rfl (asg (v := .bool (decide (r1 = 0))) rfl) ?_
 refine nl ?_
 refine nN ?_
 refine cdd (p := r1 = 0) rfl (fun h1 => ?_) (fun h1 => ?_)
 · refine rg ?_
   refine q trivial rfl rfl (mv (v := sb b13' (([([0, 1, 10, 255, r1'] : List Int).getD r4'.toNat 0, r8', r10', r12'] : List Int).length) 4) rfl) ?_
   refine q trivial rfl rfl (mv (v := pB rb) rfl) ?_
   refine cl trivial rfl (pick (rb := rb) (Ab := Ab) (cb := cb) (bs := bs) (p := q1) (n := 4) (w := _) (hr := (blk_heap hs36 2 rfl)) (hb := (hb.up hs36 (fun _ h => h) (fun _ h => .inl h))) (hbn := (by first | assumption | (simp; omega))) (hp := (by omega))) ?_
   rintro _ w36 ⟨r2, q2, rfl, p125, p126, hs37'⟩
   have hs37 : SH w w36 [rb] [oI b13' ([([0, 1, 10, 255, r1'] : List Int).getD r4'.toNat 0, r8', r10', r12'] : List Int) 4 3, oI b2' ([0, 1, 10, 255, r1'] : List Int) 5 3, .blk rb 66 [.slice Ab bs.length cb, I ((q2 : Nat) : Int)]] := hs36.callM 2 rfl hs37' (by intro k hk; simp at hk; exact hk.symm)
   clear hs37'
   refine q trivial rfl rfl (ixo r2.toNat sl24 rfl (ieq (x := r2) (by omega)) (by first | omega | (simp; done) | (simp; omega))) ?_
   refine stomn (g := I) (ys := ([([0, 1, 10, 255, r1'] : List Int).getD r4'.toNat 0, r8', r10', r12'] : List Int)) (o := r2.toNat) (u := 256) hs37 0 rfl rfl rfl rfl (by first | omega | (simp; done) | (simp; omega)) rfl one3 trivial (fun w37 (hs38 : SH w w37 [rb] [oI b2' ([0, 1, 10, 255, r1'] : List Int) 5 3, .blk rb 66 [.slice Ab bs.length cb, I ((q2 : Nat) : Int)], .own (some ⟨b13', 0, none⟩) (([([0, 1, 10, 255, r1'] : List Int).getD r4'.toNat 0, r8', r10', r12'] : List Int).length) 4 3 1 ((([([0, 1, 10, 255, r1'] : List Int).getD r4'.toNat 0, r8', r10', r12'] : List Int).set r2.toNat 256).map I)]) => ?_)
   refine nl ?_
   refine bN ?_
   refine nN ?_
   refine sq ?_
   refine rg ?_
   refine q trivial rfl rfl (mv (v := sb b13' (([([0, 1, 10, 255, r1'] : List Int).getD r4'.toNat 0, r8', r10', r12'] : List Int).length) 4) rfl) ?_
   refine q trivial rfl rfl (asg (v := sb b13' (([([0, 1, 10, 255, r1'] : List Int).getD r4'.toNat 0, r8', r10', r12'] : List Int).length) 4) rfl) ?_
   have e1 : ([([0, 1, 10, 255, r1'] : List Int).getD r4'.toNat 0, r8', r10', r12'] : List Int).length = (([([0, 1, 10, 255, r1'] : List Int).getD r4'.toNat 0, r8', r10', r12'] : List Int).set r2.toNat 256).length := by first | rfl | (simp; done) | (simp; omega) | (simp at *; omega)
   have hs39 : SH w w37 [rb] [oI b2' ([0, 1, 10, 255, r1'] : List Int) 5 3, .blk rb 66 [.slice Ab bs.length cb, I ((q2 : Nat) : Int)], oI b13' (([([0, 1, 10, 255, r1'] : List Int).getD r4'.toNat 0, r8', r10', r12'] : List Int).set r2.toNat 256) 4 3] := (hs38.cast (lc rfl (lc rfl (lc (own_eq (g := I) rfl e1 rfl rfl) rfl))))
   refine re 2 (v := sb b13' ((([([0, 1, 10, 255, r1'] : List Int).getD r4'.toNat 0, r8', r10', r12'] : List Int).set r2.toNat 256).length) 4) (show (sb b13' (([([0, 1, 10, 255, r1'] : List Int).getD r4'.toNat 0, r8', r10', r12'] : List Int).length) 4 : Value) = sb b13' ((([([0, 1, 10, 255, r1'] : List Int).getD r4'.toNat 0, r8', r10', r12'] : List Int).set r2.toNat 256).length) 4 from slv rfl e1 rfl) ?_
   refine nl ?_
   refine nN ?_
   refine rt ?_
   refine fret (v := sb b13' ((([([0, 1, 10, 255, r1'] : List Int).getD r4'.toNat 0, r8', r10', r12'] : List Int).set r2.toNat 256).length) 4) (.tmp .nil) rfl ?_
   exact ⟨(some ⟨b13', 0, none⟩), 4, ([([0, 1, 10, 255, r1'] : List Int).getD r4'.toNat 0, r8', r10', r12'] : List Int).set r2.toNat 256, q2, rfl, (by first | omega | (simp; omega) | simp), (by omega), (hs39.pick [1, 2] rfl (by decide))⟩
 · refine sq ?_
   refine rg ?_
   refine q trivial rfl rfl (eqi (k := .i64) (a := r1) (b := 1) rfl rfl) ?_
   refine q trivial rfl rfl (asg (v := .bool (decide (r1 = 1))) rfl) ?_
   refine nl ?_
   refine nN ?_
   refine cdd (p := r1 = 1) rfl (fun h2 => ?_) (fun h2 => ?_)
   · refine sq ?_
     refine rg ?_
     refine q trivial rfl rfl (mv (v := sb b13' (([([0, 1, 10, 255, r1'] : List Int).getD r4'.toNat 0, r8', r10', r12'] : List Int).length) 4) rfl) ?_
     have e2 : (([([0, 1, 10, 255, r1'] : List Int).getD r4'.toNat 0, r8', r10', r12'] : List Int).map I).take (3 * 1) = (([([0, 1, 10, 255, r1'] : List Int).getD r4'.toNat 0, r8', r10', r12'] : List Int).take 3).map I := by first | rfl | simp [List.map_take]
     have hs40 : SH w w35 [rb] [oI b2' ([0, 1, 10, 255, r1'] : List Int) 5 3, .blk rb 66 [.slice Ab bs.length cb, I ((q1 : Nat) : Int)], .own (some ⟨b13', 0, none⟩) 3 4 3 1 ((([([0, 1, 10, 255, r1'] : List Int).getD r4'.toNat 0, r8', r10', r12'] : List Int).take 3).map I)] := e2 ▸ SH.trunc hs36 0 (3) rfl (by first | omega | (simp; done) | (simp; omega))
     refine q trivial rfl rfl (cuh 3 sl24 rfl rfl (Nat.le_trans (by first | omega | (simp; done) | (simp; omega)) (own_cap hs36 0 rfl).1)) ?_
     refine q trivial rfl rfl (asg (v := sb b13' 3 4) rfl) ?_
     have e3 : 3 = (([([0, 1, 10, 255, r1'] : List Int).getD r4'.toNat 0, r8', r10', r12'] : List Int).take 3).length := by first | rfl | (simp; done) | (simp; omega) | (simp at *; omega)
     have hs41 : SH w w35 [rb] [oI b2' ([0, 1, 10, 255, r1'] : List Int) 5 3, .blk rb 66 [.slice Ab bs.length cb, I ((q1 : Nat) : Int)], oI b13' (([([0, 1, 10, 255, r1'] : List Int).getD r4'.toNat 0, r8', r10', r12'] : List Int).take 3) 4 3] := (hs40.cast (lc rfl (lc rfl (lc (own_eq (g := I) rfl e3 rfl rfl) rfl))))
     refine re 2 (v := sb b13' ((([([0, 1, 10, 255, r1'] : List Int).getD r4'.toNat 0, r8', r10', r12'] : List Int).take 3).length) 4) (show (sb b13' 3 4 : Value) = sb b13' ((([([0, 1, 10, 255, r1'] : List Int).getD r4'.toNat 0, r8', r10', r12'] : List Int).take 3).length) 4 from slv rfl e3 rfl) ?_
     refine nl ?_
     refine nN ?_
     refine rt (bR (tR ?_))
     refine fret (v := sb b13' ((([([0, 1, 10, 255, r1'] : List Int).getD r4'.toNat 0, r8', r10', r12'] : List Int).take 3).length) 4) (.tmp .nil) rfl ?_
     exact ⟨(some ⟨b13', 0, none⟩), 4, ([([0, 1, 10, 255, r1'] : List Int).getD r4'.toNat 0, r8', r10', r12'] : List Int).take 3, q1, rfl, (by first | omega | (simp; omega) | simp), (by omega), (hs41.pick [1, 2] rfl (by decide))⟩
   · refine sk ?_
     refine bN ?_
     refine nN ?_
     refine sq ?_
     refine rg ?_
     refine q trivial rfl rfl (mv (v := sb b13' (([([0, 1, 10, 255, r1'] : List Int).getD r4'.toNat 0, r8', r10', r12'] : List Int).length) 4) rfl) ?_
     refine q trivial rfl rfl (asg (v := sb b13' (([([0, 1, 10, 255, r1'] : List Int).getD r4'.toNat 0, r8', r10', r12'] : List Int).length) 4) rfl) ?_
     refine nl ?_
     refine nN ?_
     refine rt ?_
     refine fret (v := sb b13' (([([0, 1, 10, 255, r1'] : List Int).getD r4'.toNat 0, r8', r10', r12'] : List Int).length) 4) (.tmp .nil) rfl ?_
     exact ⟨(some ⟨b13', 0, none⟩), 4, ([([0, 1, 10, 255, r1'] : List Int).getD r4'.toNat 0, r8', r10', r12'] : List Int), q1, rfl, (by first | omega | (simp; omega) | simp), (by omega), (hs36.pick [2, 0] rfl (by decide))⟩

set_option maxHeartbeats 8000000 in
theorem l91Port {rb : Nat} {Ab : Option Addr} {cb : Nat} {bs : List UInt8} {p : Nat} (w : World) (hr : w.heap[rb]? = some (.cells [.slice Ab bs.length cb, .int .i64 ((p : Nat) : Int)].toArray 66 (0, 0))) (hb : Sl w [rb] 1 Ab bs.length cb (bs.map U)) (hbn : bs.length ≤ 2000) (hp : p ≤ 549755813888) : Does Tryd.prog 48 [pB rb] w (fun v w' => ∃ r : Int, ∃ q : Nat, v = .int .i64 r ∧ (q ≤ p + 10) ∧ SH w w' [rb] [.blk rb 66 [.slice Ab bs.length cb, I ((q : Nat) : Int)]]) := by
 refine fn_enter (N := 18) Tryd.func48 rfl (by kernel_rfl) rfl rfl rfl ?_
 have hs0 : SH w w [rb] [.blk rb 66 [.slice Ab bs.length cb, I ((p : Nat) : Int)]] := SH.entry1 hr
 refine sq ?_
 refine rg ?_
 refine q trivial rfl rfl (asg (v := I 0) rfl) ?_
 refine nl ?_
 refine nN ?_
 refine sq ?_
 refine sq ?_
 refine rg ?_
 refine q trivial rfl rfl (mv (v := pB rb) rfl) ?_
 refine cl trivial rfl (pick (rb := rb) (Ab := Ab) (cb := cb) (bs := bs) (p := p) (n := 40) (w := _) (hr := (blk_heap hs0 0 rfl)) (hb := (hb.up hs0 (fun _ h => h) (fun _ h => .inl h))) (hbn := (by first | assumption | (simp; omega))) (hp := (by omega))) ?_
 rintro _ w1 ⟨r1, q1, rfl, p1, p2, hs1'⟩
 have hs1 : SH w w1 [rb] [.blk rb 66 [.slice Ab bs.length cb, I ((q1 : Nat) : Int)]] := hs0.callM 0 rfl hs1' (by intro k hk; simp at hk; exact hk.symm)
 clear hs1'
 refine q trivial rfl rfl (eqi (k := .i64) (a := r1) (b := 0) rfl rfl) ?_
 refine nl ?_
 refine nN ?_
 refine cdd (p := r1 = 0) rfl (fun h1 => ?_) (fun h1 => ?_)
 · refine sq ?_
   refine rg ?_
   refine bsk hs1 sl24 [I (-1), I 65536] [I (-1), I 65536] trivial rfl (fun b1 w2 (hs2 : SH w w2 [rb] [.blk rb 66 [.slice Ab bs.length cb, I ((q1 : Nat) : Int)], oI b1 ([(-1), 65536] : List Int) 2 3]) => ?_)
   refine q trivial rfl rfl (mv (v := pB rb) rfl) ?_
   refine cl trivial rfl (pick (rb := rb) (Ab := Ab) (cb := cb) (bs := bs) (p := q1) (n := 2) (w := _) (hr := (blk_heap hs2 0 rfl)) (hb := (hb.up hs2 (fun _ h => h) (fun _ h => .inl h))) (hbn := (by first | assumption | (simp; omega))) (hp := (by omega))) ?_
   rintro _ w3 ⟨r2, q2, rfl, p3, p4, hs3'⟩
   have hs3 : SH w w3 [rb] [oI b1 ([(-1), 65536] : List Int) 2 3, .blk rb 66 [.slice Ab bs.length cb, I ((q2 : Nat) : Int)]] := hs2.callM 0 rfl hs3' (by intro k hk; simp at hk; exact hk.symm)
   clear hs3'
   refine q trivial rfl rfl (ixo r2.toNat sl24 rfl (ieq (x := r2) (by omega)) (by first | omega | (simp; done) | (simp; omega))) ?_
   refine q trivial rfl rfl (ldo1n (g := I) (ys := ([(-1), 65536] : List Int)) (o := r2.toNat) 0 hs3 0 rfl rfl (by first | omega | (simp; done) | (simp; omega)) one3) ?_
   refine q trivial rfl rfl (asg (v := I (([(-1), 65536] : List Int).getD r2.toNat 0)) rfl) ?_
   refine nl ?_
   refine nN ?_
   refine rt (tR ?_)
   refine fret (v := I (([(-1), 65536] : List Int).getD r2.toNat 0)) (.tmp .nil) rfl ?_
   exact ⟨([(-1), 65536] : List Int).getD r2.toNat 0, q2, rfl, (by omega), (hs3.pick [1] rfl (by decide))⟩
 · refine sk ?_
   refine nN ?_
   refine sq ?_
   refine rg ?_
   refine q trivial rfl rfl (mv (v := pB rb) rfl) ?_
   refine cl trivial rfl (pick (rb := rb) (Ab := Ab) (cb := cb) (bs := bs) (p := q1) (n := 65536) (w := _) (hr := (blk_heap hs1 0 rfl)) (hb := (hb.up hs1 (fun _ h => h) (fun _ h => .inl h))) (hbn := (by first | assumption | (simp; omega))) (hp := (by omega))) ?_
   rintro _ w4 ⟨r3, q3, rfl, p5, p6, hs4'⟩
   have hs4 : SH w w4 [rb] [.blk rb 66 [.slice Ab bs.length cb, I ((q3 : Nat) : Int)]] := hs1.callM 0 rfl hs4' (by intro k hk; simp at hk; exact hk.symm)
   clear hs4'
   refine bsk hs4 sl24 [I 0, I 80, I 443, I 65535, I r3] [I 0, I 80, I 443, I 65535, I r3] trivial rfl (fun b2 w5 (hs5 : SH w w5 [rb] [.blk rb 66 [.slice Ab bs.length cb, I ((q3 : Nat) : Int)], oI b2 ([0, 80, 443, 65535, r3] : List Int) 5 3]) => ?_)
   refine q trivial rfl rfl (mv (v := pB rb) rfl) ?_
   refine cl trivial rfl (pick (rb := rb) (Ab := Ab) (cb := cb) (bs := bs) (p := q3) (n := 5) (w := _) (hr := (blk_heap hs5 0 rfl)) (hb := (hb.up hs5 (fun _ h => h) (fun _ h => .inl h))) (hbn := (by first | assumption | (simp; omega))) (hp := (by omega))) ?_
   rintro _ w6 ⟨r4, q4, rfl, p7, p8, hs6'⟩
   have hs6 : SH w w6 [rb] [oI b2 ([0, 80, 443, 65535, r3] : List Int) 5 3, .blk rb 66 [.slice Ab bs.length cb, I ((q4 : Nat) : Int)]] := hs5.callM 0 rfl hs6' (by intro k hk; simp at hk; exact hk.symm)
   clear hs6'
   refine q trivial rfl rfl (ixo r4.toNat sl24 rfl (ieq (x := r4) (by omega)) (by first | omega | (simp; done) | (simp; omega))) ?_
   refine q trivial rfl rfl (ldo1n (g := I) (ys := ([0, 80, 443, 65535, r3] : List Int)) (o := r4.toNat) 0 hs6 0 rfl rfl (by first | omega | (simp; done) | (simp; omega)) one3) ?_
   refine q trivial rfl rfl (asg (v := I (([0, 80, 443, 65535, r3] : List Int).getD r4.toNat 0)) rfl) ?_
   refine nl ?_
   refine nN ?_
   refine rt ?_
   refine fret (v := I (([0, 80, 443, 65535, r3] : List Int).getD r4.toNat 0)) (.tmp .nil) rfl ?_
   exact ⟨([0, 80, 443, 65535, r3] : List Int).getD r4.toNat 0, q4, rfl, (by omega), (hs6.pick [1] rfl (by decide))⟩

theorem l91Name {rb : Nat} {Ab : Option Addr} {cb : Nat} {bs : List UInt8} {p : Nat} (w : World) (hr : w.heap[rb]? = some (.cells [.slice Ab bs.length cb, .int .i64 ((p : Nat) : Int)].toArray 66 (0, 0))) (hb : Sl w [rb] 1 Ab bs.length cb (bs.map U)) (hbn : bs.length ≤ 2000) (hp : p ≤ 274877906944) : Does Tryd.prog 49 [pB rb] w (fun v w' => ∃ s : List UInt8, ∃ q : Nat, v = Str s ∧ (s.length ≤ 21) ∧ (q ≤ p + 10) ∧ SH w w' [rb] [.blk rb 66 [.slice Ab bs.length cb, I ((q : Nat) : Int)]]) := by
 refine fn_enter (N := 12) Tryd.func49 rfl (by kernel_rfl) rfl rfl rfl ?_
 have hs0 : SH w w [rb] [.blk rb 66 [.slice Ab bs.length cb, I ((p : Nat) : Int)]] := SH.entry1 hr
 refine sq ?_
 refine rg ?_
 refine q trivial rfl rfl (asg (v := Str []) rfl) ?_
 refine nl ?_
 refine nN ?_
 refine sq ?_
 refine sq ?_
 refine rg ?_
 refine q trivial rfl rfl (mv (v := pB rb) rfl) ?_
 refine cl trivial rfl (pick (rb := rb) (Ab := Ab) (cb := cb) (bs := bs) (p := p) (n := 20) (w := _) (hr := (blk_heap hs0 0 rfl)) (hb := (hb.up hs0 (fun _ h => h) (fun _ h => .inl h))) (hbn := (by first | assumption | (simp; omega))) (hp := (by omega))) ?_
 rintro _ w1 ⟨r1, q1, rfl, p1, p2, hs1'⟩
 have hs1 : SH w w1 [rb] [.blk rb 66 [.slice Ab bs.length cb, I ((q1 : Nat) : Int)]] := hs0.callM 0 rfl hs1' (by intro k hk; simp at hk; exact hk.symm)
 clear hs1'
 refine q trivial rfl rfl (eqi (k := .i64) (a := r1) (b := 0) rfl rfl) ?_
 refine nl ?_
 refine nN ?_
 refine cdd (p := r1 = 0) rfl (fun h1 => ?_) (fun h1 => ?_)
 · refine sq ?_
   refine rg ?_
   refine q trivial rfl rfl (mv (v := pB rb) rfl) ?_
   refine bsk hs1 sl68 [Str [], Str [97, 46, 46, 98], Str [46, 97], Str [97, 46], Str [65], Str [97, 95, 98], Str [97, 98, 99, 100, 101, 102, 103, 104, 105, 106, 107, 108, 109, 110, 111, 112, 113, 114, 115, 116], Str [97, 98, 99, 100, 101, 102, 103, 104, 105, 106, 107, 108, 109, 110, 111, 112, 113, 114, 115, 116, 117], Str [97, 46, 57]] [Str [], Str [97, 46, 46, 98], Str [46, 97], Str [97, 46], Str [65], Str [97, 95, 98], Str [97, 98, 99, 100, 101, 102, 103, 104, 105, 106, 107, 108, 109, 110, 111, 112, 113, 114, 115, 116], Str [97, 98, 99, 100, 101, 102, 103, 104, 105, 106, 107, 108, 109, 110, 111, 112, 113, 114, 115, 116, 117], Str [97, 46, 57]] trivial rfl (fun b1 w2 (hs2 : SH w w2 [rb] [.blk rb 66 [.slice Ab bs.length cb, I ((q1 : Nat) : Int)], .own (some ⟨b1, 0, none⟩) (([[], [97, 46, 46, 98], [46, 97], [97, 46], [65], [97, 95, 98], [97, 98, 99, 100, 101, 102, 103, 104, 105, 106, 107, 108, 109, 110, 111, 112, 113, 114, 115, 116], [97, 98, 99, 100, 101, 102, 103, 104, 105, 106, 107, 108, 109, 110, 111, 112, 113, 114, 115, 116, 117], [97, 46, 57]] : List (List UInt8)).length) 9 9 1 (([[], [97, 46, 46, 98], [46, 97], [97, 46], [65], [97, 95, 98], [97, 98, 99, 100, 101, 102, 103, 104, 105, 106, 107, 108, 109, 110, 111, 112, 113, 114, 115, 116], [97, 98, 99, 100, 101, 102, 103, 104, 105, 106, 107, 108, 109, 110, 111, 112, 113, 114, 115, 116, 117], [97, 46, 57]] : List (List UInt8)).map Str)]) => ?_)
   refine cl trivial rfl (rdOf (rb := rb) (Ab := Ab) (cb := cb) (bs := bs) (p := q1) (Ass := (some ⟨b1, 0, none⟩)) (css := 9) (ss := ([[], [97, 46, 46, 98], [46, 97], [97, 46], [65], [97, 95, 98], [97, 98, 99, 100, 101, 102, 103, 104, 105, 106, 107, 108, 109, 110, 111, 112, 113, 114, 115, 116], [97, 98, 99, 100, 101, 102, 103, 104, 105, 106, 107, 108, 109, 110, 111, 112, 113, 114, 115, 116, 117], [97, 46, 57]] : List (List UInt8))) (w := _) (hr := (blk_heap hs2 0 rfl)) (hb := (hb.up hs2 (fun _ h => h) (fun _ h => .inl h))) (hbn := (by first | assumption | (simp; omega))) (hp := (by omega)) (hss := (hs2.sl 1 rfl (by intro k hk; simp at hk; subst hk; exact ⟨_, memi 0 rfl, rfl⟩))) (hne := (by first | omega | assumption | (simp; done) | (simp; omega)))) ?_
   rintro _ w3 ⟨s1, q2, rfl, p3, p4, hs3'⟩
   have hs3 : SH w w3 [rb] [.own (some ⟨b1, 0, none⟩) (([[], [97, 46, 46, 98], [46, 97], [97, 46], [65], [97, 95, 98], [97, 98, 99, 100, 101, 102, 103, 104, 105, 106, 107, 108, 109, 110, 111, 112, 113, 114, 115, 116], [97, 98, 99, 100, 101, 102, 103, 104, 105, 106, 107, 108, 109, 110, 111, 112, 113, 114, 115, 116, 117], [97, 46, 57]] : List (List UInt8)).length) 9 9 1 (([[], [97, 46, 46, 98], [46, 97], [97, 46], [65], [97, 95, 98], [97, 98, 99, 100, 101, 102, 103, 104, 105, 106, 107, 108, 109, 110, 111, 112, 113, 114, 115, 116], [97, 98, 99, 100, 101, 102, 103, 104, 105, 106, 107, 108, 109, 110, 111, 112, 113, 114, 115, 116, 117], [97, 46, 57]] : List (List UInt8)).map Str), .blk rb 66 [.slice Ab bs.length cb, I ((q2 : Nat) : Int)]] := hs2.callM 0 rfl hs3' (by intro k hk; simp at hk; exact hk.symm)
   clear hs3'
   refine q trivial rfl rfl (asg (v := Str s1) rfl) ?_
   refine nl ?_
   refine nN ?_
   refine rt (tR ?_)
   refine fret (v := Str s1) (.tmp .nil) rfl ?_
   exact ⟨s1, q2, rfl, (by first | exact names9 (by assumption) | exact names6 (by assumption)), (by omega), (hs3.pick [1] rfl (by decide))⟩
 · refine sk ?_
   refine nN ?_
   refine sq ?_
   refine rg ?_
   refine q trivial rfl rfl (mv (v := pB rb) rfl) ?_
   refine bsk hs1 sl68 [Str [120, 46, 111, 114, 103], Str [119, 119, 119, 46, 120, 46, 111, 114, 103], Str [97], Str [98, 45, 99, 46, 110, 101, 116], Str [57, 97, 46, 98], Str [121]] [Str [120, 46, 111, 114, 103], Str [119, 119, 119, 46, 120, 46, 111, 114, 103], Str [97], Str [98, 45, 99, 46, 110, 101, 116], Str [57, 97, 46, 98], Str [121]] trivial rfl (fun b2 w4 (hs4 : SH w w4 [rb] [.blk rb 66 [.slice Ab bs.length cb, I ((q1 : Nat) : Int)], .own (some ⟨b2, 0, none⟩) (([[120, 46, 111, 114, 103], [119, 119, 119, 46, 120, 46, 111, 114, 103], [97], [98, 45, 99, 46, 110, 101, 116], [57, 97, 46, 98], [121]] : List (List UInt8)).length) 6 9 1 (([[120, 46, 111, 114, 103], [119, 119, 119, 46, 120, 46, 111, 114, 103], [97], [98, 45, 99, 46, 110, 101, 116], [57, 97, 46, 98], [121]] : List (List UInt8)).map Str)]) => ?_)
   refine cl trivial rfl (rdOf (rb := rb) (Ab := Ab) (cb := cb) (bs := bs) (p := q1) (Ass := (some ⟨b2, 0, none⟩)) (css := 6) (ss := ([[120, 46, 111, 114, 103], [119, 119, 119, 46, 120, 46, 111, 114, 103], [97], [98, 45, 99, 46, 110, 101, 116], [57, 97, 46, 98], [121]] : List (List UInt8))) (w := _) (hr := (blk_heap hs4 0 rfl)) (hb := (hb.up hs4 (fun _ h => h) (fun _ h => .inl h))) (hbn := (by first | assumption | (simp; omega))) (hp := (by omega)) (hss := (hs4.sl 1 rfl (by intro k hk; simp at hk; subst hk; exact ⟨_, memi 0 rfl, rfl⟩))) (hne := (by first | omega | assumption | (simp; done) | (simp; omega)))) ?_
   rintro _ w5 ⟨s2, q3, rfl, p5, p6, hs5'⟩
   have hs5 : SH w w5 [rb] [.own (some ⟨b2, 0, none⟩) (([[120, 46, 111, 114, 103], [119, 119, 119, 46, 120, 46, 111, 114, 103], [97], [98, 45, 99, 46, 110, 101, 116], [57, 97, 46, 98], [121]] : List (List UInt8)).length) 6 9 1 (([[120, 46, 111, 114, 103], [119, 119, 119, 46, 120, 46, 111, 114, 103], [97], [98, 45, 99, 46, 110, 101, 116], [57, 97, 46, 98], [121]] : List (List UInt8)).map Str), .blk rb 66 [.slice Ab bs.length cb, I ((q3 : Nat) : Int)]] := hs4.callM 0 rfl hs5' (by intro k hk; simp at hk; exact hk.symm)
   clear hs5'
   refine q trivial rfl rfl (asg (v := Str s2) rfl) ?_
   refine nl ?_
   refine nN ?_
   refine rt ?_
   refine fret (v := Str s2) (.tmp .nil) rfl ?_
   exact ⟨s2, q3, rfl, (by first | exact names9 (by assumption) | exact names6 (by assumption)), (by omega), (hs5.pick [1] rfl (by decide))⟩

set_option maxHeartbeats 8000000 in
theorem l91Address {rb : Nat} {Ab : Option Addr} {cb : Nat} {bs : List UInt8} {p : Nat} (w : World) (hr : w.heap[rb]? = some (.cells [.slice Ab bs.length cb, .int .i64 ((p : Nat) : Int)].toArray 66 (0, 0))) (hb : Sl w [rb] 1 Ab bs.length cb (bs.map U)) (hbn : bs.length ≤ 2000) (hp : p ≤ 137438953472) : Does Tryd.prog 25 [pB rb] w (fun v w' => ∃ Aqr : Option Addr, ∃ cqr : Nat, ∃ ak : Int, ∃ aq : List Int, ∃ an : List UInt8, ∃ apt : Int, ∃ q : Nat, v = .agg #[.int .i64 ak, .slice Aqr aq.length cqr, Str an, .int .i64 apt] ∧ (aq.length ≤ 4) ∧ (an.length ≤ 21) ∧ (q ≤ p + 40) ∧ SH w w' [rb] [.blk rb 66 [.slice Ab bs.length cb, I ((q : Nat) : Int)], .own Aqr aq.length cqr 3 1 (aq.map I)]) := by
 refine fn_enter (N := 25) Tryd.func25 rfl (by kernel_rfl) rfl rfl rfl ?_
 have hs0 : SH w w [rb] [.blk rb 66 [.slice Ab bs.length cb, I ((p : Nat) : Int)]] := SH.entry1 hr
 refine sq ?_
 refine rg ?_
 refine al (v := .agg #[I 0, ns, Str [], I 0]) (cs := [I 0, ns, Str [], I 0]) hs0 tz26 rfl trivial rfl (fun b1 w1 (hs1 : SH w w1 [rb] [.blk rb 66 [.slice Ab bs.length cb, I ((p : Nat) : Int)], .blk b1 26 [I 0, ns, Str [], I 0]]) => ?_)
 refine nl ?_
 refine nN ?_
 refine sq ?_
 refine sq ?_
 refine rg ?_
 refine q trivial rfl rfl (mv (v := pB rb) rfl) ?_
 refine cl trivial rfl (pick (rb := rb) (Ab := Ab) (cb := cb) (bs := bs) (p := p) (n := 2) (w := _) (hr := (blk_heap hs1 0 rfl)) (hb := (hb.up hs1 (fun _ h => h) (fun _ h => .inl h))) (hbn := (by first | assumption | (simp; omega))) (hp := (by omega))) ?_
 rintro _ w2 ⟨r1, q1, rfl, p1, p2, hs2'⟩
 have hs2 : SH w w2 [rb] [.blk b1 26 [I 0, ns, Str [], I 0], .blk rb 66 [.slice Ab bs.length cb, I ((q1 : Nat) : Int)]] := hs1.callM 0 rfl hs2' (by intro k hk; simp at hk; exact hk.symm)
 clear hs2'
 refine q trivial rfl rfl (eqi (k := .i64) (a := r1) (b := 0) rfl rfl) ?_
 refine nl ?_
 refine nN ?_
 refine cdd (p := r1 = 0) rfl (fun h1 => ?_) (fun h1 => ?_)
 · refine sq ?_
   refine rg ?_
   refine q trivial rfl rfl (mv (v := pB rb) rfl) ?_
   refine cl trivial rfl (l91Quad (rb := rb) (Ab := Ab) (cb := cb) (bs := bs) (p := q1) (w := _) (hr := (blk_heap hs2 1 rfl)) (hb := (hb.up hs2 (fun _ h => h) (fun _ h => .inl h))) (hbn := (by first | assumption | (simp; omega))) (hp := (by omega))) ?_
   rintro _ w3 ⟨A1, c1, r2, q2, rfl, p3, p4, hs3'⟩
   have hs3 : SH w w3 [rb] [.blk b1 26 [I 0, ns, Str [], I 0], .blk rb 66 [.slice Ab bs.length cb, I ((q2 : Nat) : Int)], .own A1 r2.length c1 3 1 (r2.map I)] := hs2.callM 1 rfl hs3' (by intro k hk; simp at hk; exact hk.symm)
   clear hs3'
   refine q trivial rfl rfl (mv (v := pB rb) rfl) ?_
   refine cl trivial rfl (l91Port (rb := rb) (Ab := Ab) (cb := cb) (bs := bs) (p := q2) (w := _) (hr := (blk_heap hs3 1 rfl)) (hb := (hb.up hs3 (fun _ h => h) (fun _ h => .inl h))) (hbn := (by first | assumption | (simp; omega))) (hp := (by omega))) ?_
   rintro _ w4 ⟨r3, q3, rfl, p5, hs4'⟩
   have hs4 : SH w w4 [rb] [.blk b1 26 [I 0, ns, Str [], I 0], .own A1 r2.length c1 3 1 (r2.map I), .blk rb 66 [.slice Ab bs.length cb, I ((q3 : Nat) : Int)]] := hs3.callM 1 rfl hs4' (by intro k hk; simp at hk; exact hk.symm)
   clear hs4'
   refine q trivial rfl rfl (bdv (v := .agg #[I 1, .slice A1 r2.length c1, Str [], I r3]) [(0, I 1), (1, .slice A1 r2.length c1), (3, I r3)] rfl (fun _ => by kernel_rfl)) ?_
   refine stg (vs := [I 1, .slice A1 r2.length c1, Str [], I r3]) hs4 0 rfl rfl rfl rfl rfl rfl rfl ag26 trivial (fun w5 (hs5 : SH w w5 [rb] [.own A1 r2.length c1 3 1 (r2.map I), .blk rb 66 [.slice Ab bs.length cb, I ((q3 : Nat) : Int)], .blk b1 26 [I 1, .slice A1 r2.length c1, Str [], I r3]]) => ?_)
   refine nl ?_
   refine nN ?_
   refine rt (tR ?_)
   refine fret (v := .agg #[I 1, .slice A1 r2.length c1, Str [], I r3]) (resC hs5 2 rfl rfl ag26 rfl .nil) rfl ?_
   exact ⟨A1, c1, 1, r2, [], r3, q3, rfl, (by first | omega | simp), (by first | omega | simp), (by omega), (hs5.pick [1, 0] rfl (by decide))⟩
 · refine sk ?_
   refine nN ?_
   refine sq ?_
   refine rg ?_
   refine bsk hs2 sl24 [] [] trivial rfl (fun b2 w6 (hs6 : SH w w6 [rb] [.blk b1 26 [I 0, ns, Str [], I 0], .blk rb 66 [.slice Ab bs.length cb, I ((q1 : Nat) : Int)], oI b2 ([] : List Int) 0 3]) => ?_)
   refine q trivial rfl rfl (mv (v := pB rb) rfl) ?_
   refine cl trivial rfl (l91Name (rb := rb) (Ab := Ab) (cb := cb) (bs := bs) (p := q1) (w := _) (hr := (blk_heap hs6 1 rfl)) (hb := (hb.up hs6 (fun _ h => h) (fun _ h => .inl h))) (hbn := (by first | assumption | (simp; omega))) (hp := (by omega))) ?_
   rintro _ w7 ⟨s1, q4, rfl, p6, p7, hs7'⟩
   have hs7 : SH w w7 [rb] [.blk b1 26 [I 0, ns, Str [], I 0], oI b2 ([] : List Int) 0 3, .blk rb 66 [.slice Ab bs.length cb, I ((q4 : Nat) : Int)]] := hs6.callM 1 rfl hs7' (by intro k hk; simp at hk; exact hk.symm)
   clear hs7'
   refine q trivial rfl rfl (mv (v := pB rb) rfl) ?_
   refine cl trivial rfl (l91Port (rb := rb) (Ab := Ab) (cb := cb) (bs := bs) (p := q4) (w := _) (hr := (blk_heap hs7 2 rfl)) (hb := (hb.up hs7 (fun _ h => h) (fun _ h => .inl h))) (hbn := (by first | assumption | (simp; omega))) (hp := (by omega))) ?_
   rintro _ w8 ⟨r4, q5, rfl, p8, hs8'⟩
   have hs8 : SH w w8 [rb] [.blk b1 26 [I 0, ns, Str [], I 0], oI b2 ([] : List Int) 0 3, .blk rb 66 [.slice Ab bs.length cb, I ((q5 : Nat) : Int)]] := hs7.callM 2 rfl hs8' (by intro k hk; simp at hk; exact hk.symm)
   clear hs8'
   refine q trivial rfl rfl (bdv (v := .agg #[I 3, sb b2 (([] : List Int).length) 0, Str s1, I r4]) [(0, I 3), (1, sb b2 (([] : List Int).length) 0), (2, Str s1), (3, I r4)] rfl (fun _ => by kernel_rfl)) ?_
   refine al (v := .agg #[I 0, ns, Str [], I 0]) (cs := [I 0, ns, Str [], I 0]) hs8 tz26 rfl trivial rfl (fun b3 w9 (hs9 : SH w w9 [rb] [.blk b1 26 [I 0, ns, Str [], I 0], oI b2 ([] : List Int) 0 3, .blk rb 66 [.slice Ab bs.length cb, I ((q5 : Nat) : Int)], .blk b3 26 [I 0, ns, Str [], I 0]]) => ?_)
   refine stg (vs := [I 3, sb b2 (([] : List Int).length) 0, Str s1, I r4]) hs9 3 rfl rfl rfl rfl rfl rfl rfl ag26 trivial (fun w10 (hs10 : SH w w10 [rb] [.blk b1 26 [I 0, ns, Str [], I 0], oI b2 ([] : List Int) 0 3, .blk rb 66 [.slice Ab bs.length cb, I ((q5 : Nat) : Int)], .blk b3 26 [I 3, sb b2 (([] : List Int).length) 0, Str s1, I r4]]) => ?_)
   refine nl ?_
   refine nN ?_
   refine sq ?_
   refine sq ?_
   refine rg ?_
   refine q trivial rfl rfl (mv (v := pB rb) rfl) ?_
   refine cl trivial rfl (pick (rb := rb) (Ab := Ab) (cb := cb) (bs := bs) (p := q5) (n := 40) (w := _) (hr := (blk_heap hs10 2 rfl)) (hb := (hb.up hs10 (fun _ h => h) (fun _ h => .inl h))) (hbn := (by first | assumption | (simp; omega))) (hp := (by omega))) ?_
   rintro _ w11 ⟨r5, q6, rfl, p9, p10, hs11'⟩
   have hs11 : SH w w11 [rb] [.blk b1 26 [I 0, ns, Str [], I 0], oI b2 ([] : List Int) 0 3, .blk b3 26 [I 3, sb b2 (([] : List Int).length) 0, Str s1, I r4], .blk rb 66 [.slice Ab bs.length cb, I ((q6 : Nat) : Int)]] := hs10.callM 2 rfl hs11' (by intro k hk; simp at hk; exact hk.symm)
   clear hs11'
   refine q trivial rfl rfl (eqi (k := .i64) (a := r5) (b := 0) rfl rfl) ?_
   refine nl ?_
   refine nN ?_
   refine cdd (p := r5 = 0) rfl (fun h2 => ?_) (fun h2 => ?_)
   · refine rg ?_
     refine q trivial rfl rfl (mv (v := pB rb) rfl) ?_
     refine cl trivial rfl (pick (rb := rb) (Ab := Ab) (cb := cb) (bs := bs) (p := q6) (n := 5) (w := _) (hr := (blk_heap hs11 3 rfl)) (hb := (hb.up hs11 (fun _ h => h) (fun _ h => .inl h))) (hbn := (by first | assumption | (simp; omega))) (hp := (by omega))) ?_
     rintro _ w12 ⟨r6, q7, rfl, p11, p12, hs12'⟩
     have hs12 : SH w w12 [rb] [.blk b1 26 [I 0, ns, Str [], I 0], oI b2 ([] : List Int) 0 3, .blk b3 26 [I 3, sb b2 (([] : List Int).length) 0, Str s1, I r4], .blk rb 66 [.slice Ab bs.length cb, I ((q7 : Nat) : Int)]] := hs11.callM 3 rfl hs12' (by intro k hk; simp at hk; exact hk.symm)
     clear hs12'
     refine q trivial rfl rfl (fa 0 fo26_0 rfl) ?_
     refine st (v := I r6) hs12 2 rfl rfl rfl rfl rfl one3 trivial (fun w13 (hs13 : SH w w13 [rb] [.blk b1 26 [I 0, ns, Str [], I 0], oI b2 ([] : List Int) 0 3, .blk rb 66 [.slice Ab bs.length cb, I ((q7 : Nat) : Int)], .blk b3 26 [I r6, sb b2 (([] : List Int).length) 0, Str s1, I r4]]) => ?_)
     refine nl ?_
     refine nN ?_
     refine sq ?_
     refine rg ?_
     refine q trivial rfl rfl (ldg (vs := [I r6, sb b2 (([] : List Int).length) 0, Str s1, I r4]) hs13 3 rfl rfl rfl rfl ag26) ?_
     refine stg (vs := [I r6, sb b2 (([] : List Int).length) 0, Str s1, I r4]) hs13 0 rfl rfl rfl rfl rfl rfl rfl ag26 trivial (fun w14 (hs14 : SH w w14 [rb] [oI b2 ([] : List Int) 0 3, .blk rb 66 [.slice Ab bs.length cb, I ((q7 : Nat) : Int)], .blk b3 26 [I r6, sb b2 (([] : List Int).length) 0, Str s1, I r4], .blk b1 26 [I r6, sb b2 (([] : List Int).length) 0, Str s1, I r4]]) => ?_)
     refine nl ?_
     refine nN ?_
     refine rt ?_
     refine fret (v := .agg #[I r6, sb b2 (([] : List Int).length) 0, Str s1, I r4]) (resC hs14 3 rfl rfl ag26 rfl .nil) rfl ?_
     exact ⟨(some ⟨b2, 0, none⟩), 0, r6, ([] : List Int), s1, r4, q7, rfl, (by first | omega | simp), (by first | omega | simp), (by omega), (hs14.pick [1, 0] rfl (by decide))⟩
   · refine sk ?_
     refine nN ?_
     refine sq ?_
     refine rg ?_
     refine q trivial rfl rfl (ldg (vs := [I 3, sb b2 (([] : List Int).length) 0, Str s1, I r4]) hs11 2 rfl rfl rfl rfl ag26) ?_
     refine stg (vs := [I 3, sb b2 (([] : List Int).length) 0, Str s1, I r4]) hs11 0 rfl rfl rfl rfl rfl rfl rfl ag26 trivial (fun w15 (hs15 : SH w w15 [rb] [oI b2 ([] : List Int) 0 3, .blk b3 26 [I 3, sb b2 (([] : List Int).length) 0, Str s1, I r4], .blk rb 66 [.slice Ab bs.length cb, I ((q6 : Nat) : Int)], .blk b1 26 [I 3, sb b2 (([] : List Int).length) 0, Str s1, I r4]]) => ?_)
     refine nl ?_
     refine nN ?_
     refine rt ?_
     refine fret (v := .agg #[I 3, sb b2 (([] : List Int).length) 0, Str s1, I r4]) (resC hs15 3 rfl rfl ag26 rfl .nil) rfl ?_
     exact ⟨(some ⟨b2, 0, none⟩), 0, 3, ([] : List Int), s1, r4, q6, rfl, (by first | omega | simp), (by first | omega | simp), (by omega), (hs15.pick [2, 0] rfl (by decide))⟩

theorem stItoa (n : Int) (w : World) (hn : -9223372036854775808 ≤ n ∧ n ≤ 9223372036854775807) (hGp : Lib.TabIs Tryd.prog w "internal/strconv.uint64pow10" .u64 Lib.pow10Tab) : Does Tryd.prog 63 [I n] w (fun v w' => v = Str (Lib.itoa n) ∧ SH w w' [] []) := by
  exact does_grow ⟨_, _, Tryd.func63, by kernel_rfl, rfl⟩ rfl (Tryd.strconv_Itoa n hn.1 hn.2 w hGp)

theorem stJoin {bxs : Nat} {cxs : Nat} (xs : List (List UInt8)) (m : List UInt8) (w : World) (hxs : Sl w [] 1 (some ⟨bxs, 0, none⟩) xs.length cxs (xs.map Str)) (hxs_n : xs.length ≤ 1099511627776) (hl : (Lib.join xs m).length ≤ 140737488355328) : Does Tryd.prog 72 [sb bxs xs.length cxs, Str m] w (fun v w' => v = Str (Lib.join xs m) ∧ SH w w' [] []) := by
  exact does_join ⟨_, _, Tryd.func72, by kernel_rfl, rfl⟩ Tryd.strings_Join_none Tryd.strings_Join hxs hxs_n hl

set_option maxHeartbeats 8000000 in
theorem l6DecStep (n : Int) (w : World) (hn : 0 ≤ n ∧ n ≤ 9223372036854775807) (ih : ∀ (m : Int) (w : World), 0 ≤ m → m < n → Does Tryd.prog 73 [I m] w (fun v w' => v = Str (Lib.itoa m) ∧ SH w w' [] [])) : Does Tryd.prog 73 [I n] w (fun v w' => v = Str (Lib.itoa n) ∧ SH w w' [] []) := by
 refine fn_enter (N := 28) Tryd.func73 rfl (by kernel_rfl) rfl rfl rfl ?_
 have hs0 : SH w w [] [] := SH.refl w []
 refine sq ?_
 refine rg ?_
 refine q trivial rfl rfl (asg (v := Str []) rfl) ?_
 refine nl ?_
 refine nN ?_
 refine sq ?_
 refine sq ?_
 refine rg ?_
 refine q trivial rfl rfl (mv (v := I n) rfl) ?_
 refine q trivial rfl rfl (lss (k := .i64) (a := n) (b := (-9223372036854775807)) rfl rfl) ?_
 refine nl ?_
 refine nN ?_
 refine cdd (p := n < (-9223372036854775807)) rfl (fun h1 => absurd h1 (by omega)) (fun h1 => ?_)
 refine sk ?_
 refine nN ?_
 refine sq ?_
 refine sq ?_
 refine rg ?_
 refine q trivial rfl rfl (mv (v := I n) rfl) ?_
 refine q trivial rfl rfl (lss (k := .i64) (a := n) (b := 0) rfl rfl) ?_
 refine nl ?_
 refine nN ?_
 refine cdd (p := n < 0) rfl (fun h2 => absurd h2 (by omega)) (fun h2 => ?_)
 refine sk ?_
 refine nN ?_
 refine sq ?_
 refine sq ?_
 refine rg ?_
 refine q trivial rfl rfl (mv (v := I n) rfl) ?_
 refine q trivial rfl rfl (lss (k := .i64) (a := n) (b := 10) rfl rfl) ?_
 refine nl ?_
 refine nN ?_
 refine cdd (p := n < 10) rfl (fun h3 => ?_) (fun h3 => ?_)
 · refine sq ?_
   refine rg ?_
   refine q trivial rfl rfl (mv (v := I n) rfl) ?_
   refine q trivial rfl rfl (add (a := 48) (b := n) rfl rfl (by first | (exact ⟨by omega, by omega⟩) | (have hdl := Lib.itoa_length_le (n / 10) (by omega) (by omega); exact ⟨by omega, by omega⟩))) ?_
   refine q trivial rfl rfl (cvB (a := 48 + n) (s := .i64) ti3 ti5 rfl (by first | (omega) | (have hdl := Lib.itoa_length_le (n / 10) (by omega) (by omega); omega)) (by first | (omega) | (have hdl := Lib.itoa_length_le (n / 10) (by omega) (by omega); omega))) ?_
   refine bsk hs0 sl22 [.int .u8 (((UInt8.ofNat (48 + n).toNat).toNat : Nat) : Int)] [.int .u8 (((UInt8.ofNat (48 + n).toNat).toNat : Nat) : Int)] trivial rfl (fun b1 w1 (hs1 : SH w w1 [] [.own (some ⟨b1, 0, none⟩) (([(UInt8.ofNat (48 + n).toNat)] : List UInt8).length) 1 5 1 (([(UInt8.ofNat (48 + n).toNat)] : List UInt8).map U)]) => ?_)
   refine q trivial rfl rfl (cvS (l := ([(UInt8.ofNat (48 + n).toNat)] : List UInt8)) us22 ti5 st9 rfl (hs1.sl0 0 rfl)) ?_
   refine q trivial rfl rfl (asg (v := Str ([(UInt8.ofNat (48 + n).toNat)] : List UInt8)) rfl) ?_
   refine nl ?_
   refine nN ?_
   refine rt (tR ?_)
   refine fret (v := Str ([(UInt8.ofNat (48 + n).toNat)] : List UInt8)) (.tmp .nil) rfl ?_
   have e1 : ([(UInt8.ofNat (48 + n).toNat)] : List UInt8) = Lib.itoa n := by first | exact decDigits_small (by omega) (by omega) | exact decDigits_big (by omega)
   exact ⟨(congrArg (Str) e1), (hs1.pick [] rfl (by decide))⟩
 · refine sk ?_
   refine nN ?_
   refine sq ?_
   refine raJ (fun w' => ∃ L, SH w w' [] L ∧ True) (fun f w' => ∃ (b7' : Nat), Has f [(2, Str ((Lib.itoa (n / 10)) ++ ([(UInt8.ofNat (48 + (n % 10)).toNat)] : List UInt8)))] ∧ SH w w' [] [.own (some ⟨b7', 0, none⟩) (([(UInt8.ofNat (48 + (n % 10)).toNat)] : List UInt8).length) 1 5 1 (([(UInt8.ofNat (48 + (n % 10)).toNat)] : List UInt8).map U)]) mixed ?_ ?_
   · refine dag (fuel' := 3) (listed' := lbits 11 255) (fun f w' => ∃ (b7' : Nat), Has f [(2, Str []), (20, Str (Lib.itoa (n / 10))), (25, sb b7' (([(UInt8.ofNat (48 + (n % 10)).toNat)] : List UInt8).length) 1)] ∧ SH w w' [] [.own (some ⟨b7', 0, none⟩) (([(UInt8.ofNat (48 + (n % 10)).toNat)] : List UInt8).length) 1 5 1 (([(UInt8.ofNat (48 + (n % 10)).toNat)] : List UInt8).map U)]) ?_ (fun D_7_0 => ?_)
     · rintro f w2 ⟨b7', hf, hs2⟩
       obtain ⟨g1, rfl⟩ := has_upd hf
       clear hf
       refine aaL [8] (fa_one ?_)
       refine one_ rfl ?_
       refine q trivial rfl rfl (cvS (l := ([(UInt8.ofNat (48 + (n % 10)).toNat)] : List UInt8)) us22 ti5 st9 rfl (hs2.sl0 0 rfl)) ?_
       refine nl (kq ⟨_, hs2, trivial⟩ ?_)
       refine tk (fuel := 0) (is := [9, 10]) (.cons rfl (.cons rfl (.nil))) (by kernel_rfl) (by kernel_rfl) ⟨_, hs2, trivial⟩ ?_
       refine .op trivial rfl rfl (fun wq _ => cat (l := Lib.itoa (n / 10)) (m := ([(UInt8.ofNat (48 + (n % 10)).toNat)] : List UInt8)) rfl rfl (by first | (first | omega | (simp; done) | (simp; omega)) | (have hdl := Lib.itoa_length_le (n / 10) (by omega) (by omega); first | omega | (simp; done) | (simp; omega)))) ?_
       refine .op trivial rfl rfl (fun wq _ => asg (v := Str ((Lib.itoa (n / 10)) ++ ([(UInt8.ofNat (48 + (n % 10)).toNat)] : List UInt8))) rfl) ?_
       refine .nil ?_
       refine ad (by kernel_rfl) ?_
       exact ⟨b7', ⟨rfl, trivial⟩, hs2⟩
     refine dag (fuel' := 3) (listed' := lbits 11 507) (fun f w' => ∃ (b7' : Nat), Has f [(2, Str []), (19, I (n / 10)), (26, Str ([(UInt8.ofNat (48 + (n % 10)).toNat)] : List UInt8))] ∧ SH w w' [] [.own (some ⟨b7', 0, none⟩) (([(UInt8.ofNat (48 + (n % 10)).toNat)] : List UInt8).length) 1 5 1 (([(UInt8.ofNat (48 + (n % 10)).toNat)] : List UInt8).map U)]) ?_ (fun D_7_1 => ?_)
     · rintro f w3 ⟨b7', hf, hs3⟩
       obtain ⟨g2, rfl⟩ := has_upd hf
       clear hf
       refine aaL [2] (fa_one ?_)
       refine one_ rfl ?_
       refine cl trivial rfl (ih (n / 10) _ (by first | (omega) | (have hdl := Lib.itoa_length_le (n / 10) (by omega) (by omega); omega)) (by first | (omega) | (have hdl := Lib.itoa_length_le (n / 10) (by omega) (by omega); omega))) ?_
       rintro _ w4 ⟨rfl, hs4'⟩
       have hs4 := hs3.call0 hs4'
       clear hs4'
       refine nl (kq ⟨_, hs4, trivial⟩ ?_)
       refine tk (fuel := 0) (is := [9, 10]) (.cons rfl (.cons rfl (.nil))) (by kernel_rfl) (by kernel_rfl) ⟨_, hs4, trivial⟩ ?_
       refine .op trivial rfl rfl (fun wq _ => cat (l := Lib.itoa (n / 10)) (m := ([(UInt8.ofNat (48 + (n % 10)).toNat)] : List UInt8)) rfl rfl (by first | (first | omega | (simp; done) | (simp; omega)) | (have hdl := Lib.itoa_length_le (n / 10) (by omega) (by omega); first | omega | (simp; done) | (simp; omega)))) ?_
       refine .op trivial rfl rfl (fun wq _ => asg (v := Str ((Lib.itoa (n / 10)) ++ ([(UInt8.ofNat (48 + (n % 10)).toNat)] : List UInt8))) rfl) ?_
       refine .nil ?_
       refine ad (by kernel_rfl) ?_
       exact ⟨b7', ⟨rfl, trivial⟩, hs4⟩
     refine dag (fuel' := 4) (listed' := lbits 11 127) (fun f w' => Has f [(2, Str []), (20, Str (Lib.itoa (n / 10))), (24, .int .u8 (((UInt8.ofNat (48 + (n % 10)).toNat).toNat : Nat) : Int))] ∧ SH w w' [] []) ?_ (fun D_7_2 => ?_)
     · rintro f w5 ⟨hf, hs5⟩
       obtain ⟨g3, rfl⟩ := has_upd hf
       clear hf
       refine aaL [7] (fa_one ?_)
       refine one_ rfl ?_
       refine bsk hs5 sl22 [.int .u8 (((UInt8.ofNat (48 + (n % 10)).toNat).toNat : Nat) : Int)] [.int .u8 (((UInt8.ofNat (48 + (n % 10)).toNat).toNat : Nat) : Int)] trivial rfl (fun b7' w6 hs6 => ?_)
       exact nl (kq ⟨_, hs6, trivial⟩ (alc D_7_0 ⟨b7', ⟨rfl, rfl, rfl, trivial⟩, hs6⟩))
     refine dag (fuel' := 4) (listed' := lbits 11 251) (fun f w' => ∃ (b7' : Nat), Has f [(2, Str []), (19, I (n / 10)), (25, sb b7' (([(UInt8.ofNat (48 + (n % 10)).toNat)] : List UInt8).length) 1)] ∧ SH w w' [] [.own (some ⟨b7', 0, none⟩) (([(UInt8.ofNat (48 + (n % 10)).toNat)] : List UInt8).length) 1 5 1 (([(UInt8.ofNat (48 + (n % 10)).toNat)] : List UInt8).map U)]) ?_ (fun D_7_3 => ?_)
     · rintro f w7 ⟨b7', hf, hs7⟩
       obtain ⟨g4, rfl⟩ := has_upd hf
       clear hf
       refine aaL [2, 8] (fa_cons ?_ (fa_one ?_))
       · refine one_ rfl ?_
         refine cl trivial rfl (ih (n / 10) _ (by first | (omega) | (have hdl := Lib.itoa_length_le (n / 10) (by omega) (by omega); omega)) (by first | (omega) | (have hdl := Lib.itoa_length_le (n / 10) (by omega) (by omega); omega))) ?_
         rintro _ w8 ⟨rfl, hs8'⟩
         have hs8 := hs7.call0 hs8'
         clear hs8'
         exact nl (kq ⟨_, hs8, trivial⟩ (alc D_7_0 ⟨b7', ⟨rfl, rfl, rfl, trivial⟩, hs8⟩))
       · refine one_ rfl ?_
         refine q trivial rfl rfl (cvS (l := ([(UInt8.ofNat (48 + (n % 10)).toNat)] : List UInt8)) us22 ti5 st9 rfl (hs7.sl0 0 rfl)) ?_
         exact nl (kq ⟨_, hs7, trivial⟩ (alc D_7_1 ⟨b7', ⟨rfl, rfl, rfl, trivial⟩, hs7⟩))
     refine dag (fuel' := 5) (listed' := lbits 11 123) (fun f w' => Has f [(2, Str []), (19, I (n / 10)), (24, .int .u8 (((UInt8.ofNat (48 + (n % 10)).toNat).toNat : Nat) : Int))] ∧ SH w w' [] []) ?_ (fun D_7_4 => ?_)
     · rintro f w9 ⟨hf, hs9⟩
       obtain ⟨g5, rfl⟩ := has_upd hf
       clear hf
       refine aaL [2, 7] (fa_cons ?_ (fa_one ?_))
       · refine one_ rfl ?_
         refine cl trivial rfl (ih (n / 10) _ (by first | (omega) | (have hdl := Lib.itoa_length_le (n / 10) (by omega) (by omega); omega)) (by first | (omega) | (have hdl := Lib.itoa_length_le (n / 10) (by omega) (by omega); omega))) ?_
         rintro _ w10 ⟨rfl, hs10'⟩
         have hs10 := hs9.call0 hs10'
         clear hs10'
         exact nl (kq ⟨_, hs10, trivial⟩ (alc D_7_2 ⟨⟨rfl, rfl, rfl, trivial⟩, hs10⟩))
       · refine one_ rfl ?_
         refine bsk hs9 sl22 [.int .u8 (((UInt8.ofNat (48 + (n % 10)).toNat).toNat : Nat) : Int)] [.int .u8 (((UInt8.ofNat (48 + (n % 10)).toNat).toNat : Nat) : Int)] trivial rfl (fun b7' w11 hs11 => ?_)
         exact nl (kq ⟨_, hs11, trivial⟩ (alc D_7_3 ⟨b7', ⟨rfl, rfl, rfl, trivial⟩, hs11⟩))
     have hs12 := hs0.drew
     refine tk (fuel := 5) (is := [0, 1, 3, 4, 5, 6]) (.cons rfl (.cons rfl (.cons rfl (.cons rfl (.cons rfl (.cons rfl (.nil))))))) (by kernel_rfl) (by kernel_rfl) ⟨_, hs12, trivial⟩ ?_
     refine .op trivial rfl rfl (fun wq _ => mv (v := I n) rfl) ?_
     refine .op trivial rfl rfl (fun wq _ => quo (a := n) (b := 10) rfl rfl (by first | (omega) | (have hdl := Lib.itoa_length_le (n / 10) (by omega) (by omega); omega)) (by first | (omega) | (have hdl := Lib.itoa_length_le (n / 10) (by omega) (by omega); omega)) (by first | (omega) | (have hdl := Lib.itoa_length_le (n / 10) (by omega) (by omega); omega))) ?_
     refine .op trivial rfl rfl (fun wq _ => mv (v := I n) rfl) ?_
     refine .op trivial rfl rfl (fun wq _ => rem (a := n) (b := 10) rfl rfl (by first | (omega) | (have hdl := Lib.itoa_length_le (n / 10) (by omega) (by omega); omega)) (by first | (omega) | (have hdl := Lib.itoa_length_le (n / 10) (by omega) (by omega); omega))) ?_
     refine .op trivial rfl rfl (fun wq _ => add (a := 48) (b := n % 10) rfl rfl (by first | (exact ⟨by omega, by omega⟩) | (have hdl := Lib.itoa_length_le (n / 10) (by omega) (by omega); exact ⟨by omega, by omega⟩))) ?_
     refine .op trivial rfl rfl (fun wq _ => cvB (a := 48 + (n % 10)) (s := .i64) ti3 ti5 rfl (by first | (omega) | (have hdl := Lib.itoa_length_le (n / 10) (by omega) (by omega); omega)) (by first | (omega) | (have hdl := Lib.itoa_length_le (n / 10) (by omega) (by omega); omega))) ?_
     refine .nil ?_
     exact alc D_7_4 ⟨⟨rfl, rfl, rfl, trivial⟩, hs12⟩
   rintro f w12 ⟨b7', hf, hs13⟩
   obtain ⟨g6, rfl⟩ := has_upd hf
   clear hf
   refine nN ?_
   refine rt ?_
   refine fret (v := Str ((Lib.itoa (n / 10)) ++ ([(UInt8.ofNat (48 + (n % 10)).toNat)] : List UInt8))) (.tmp .nil) rfl ?_
   have e2 : (Lib.itoa (n / 10)) ++ ([(UInt8.ofNat (48 + (n % 10)).toNat)] : List UInt8) = Lib.itoa n := by first | exact decDigits_small (by omega) (by omega) | exact decDigits_big (by omega)
   exact ⟨(congrArg (Str) e2), (hs13.pick [] rfl (by decide))⟩

theorem l6Dec (n : Int) (w : World) (hn : 0 ≤ n ∧ n ≤ 9223372036854775807) : Does Tryd.prog 73 [I n] w (fun v w' => v = Str (Lib.itoa n) ∧ SH w w' [] []) := by
  have key : ∀ (j : Nat) (n : Int) (w : World), n.toNat = j → 0 ≤ n → n ≤ 9223372036854775807 → Does Tryd.prog 73 [I n] w (fun v w' => v = Str (Lib.itoa n) ∧ SH w w' [] []) := by
    intro j
    induction j using Nat.strongRecOn with
    | _ j ih =>
      intro n w hj h0 h1
      exact l6DecStep n w ⟨h0, h1⟩ (fun m w hm0 hmn => ih m.toNat (by omega) m w rfl hm0 (by omega))
  exact key _ n w rfl hn.1 hn.2

theorem iQuadText {Aqs : Option Addr} {cqs : Nat} (qs : List Int) (w : World) (hqs : Sl w [] 1 Aqs qs.length cqs (qs.map I)) (hq : quadOk qs = true) (hGp : Lib.TabIs Tryd.prog w "internal/strconv.uint64pow10" .u64 Lib.pow10Tab) : Does Tryd.prog 65 [.slice Aqs qs.length cqs] w (fun v w' => v = Str (quadT qs) ∧ SH w w' [] []) := by
 refine fn_enter (N := 24) Tryd.func65 rfl (by kernel_rfl) rfl rfl rfl ?_
 have hs0 : SH w w [] [] := SH.refl w []
 have hqs_m : qs.length ≤ 9223372036854775807 := Nat.le_trans hqs.cap hqs.capMax
 refine sq ?_
 refine rg ?_
 refine q trivial rfl rfl (asg (v := Str []) rfl) ?_
 refine nl ?_
 refine nN ?_
 refine sq ?_
 refine rg ?_
 refine q trivial rfl rfl (mv (v := .slice Aqs qs.length cqs) rfl) ?_
 refine q trivial rfl rfl (lnA (n := qs.length) sl24 rfl) ?_
 refine mkm (g := Str) (z := []) (n := qs.length) hs0 sl68 rfl rfl rfl (by first | (omega) | (have hq4 := quadOk_len hq; omega)) (by unfold maxLen; first | (omega) | (have hq4 := quadOk_len hq; omega)) trivial rfl (fun b1 w1 (hs1 : SH w w1 [] [.own (some ⟨b1, 0, none⟩) ((List.replicate qs.length ([] : List UInt8)).length) qs.length 9 1 ((List.replicate qs.length ([] : List UInt8)).map Str)]) => ?_)
 refine q trivial rfl rfl (asg (v := sb b1 ((List.replicate qs.length ([] : List UInt8)).length) qs.length) rfl) ?_
 refine nl ?_
 refine nN ?_
 refine sq ?_
 refine sq ?_
 refine rg ?_
 refine q trivial rfl rfl (mv (v := .slice Aqs qs.length cqs) rfl) ?_
 refine q trivial rfl rfl (lnA (n := qs.length) sl24 rfl) ?_
 refine q trivial rfl rfl (mv (v := I 0) rfl) ?_
 refine nl ?_
 refine nN ?_
 refine bl ?_
 have e1 : List.replicate qs.length ([] : List UInt8) = (qs.map Lib.itoa).take 0 ++ List.replicate (qs.length - 0) ([] : List UInt8) := by simp
 have e2 : (List.replicate qs.length ([] : List UInt8)).length = qs.length := by first | (first | rfl | (simp; done) | (simp; omega) | omega) | (have hq4 := quadOk_len hq; first | rfl | (simp; done) | (simp; omega) | omega)
 refine lp (σ := Nat) (fun (k : Nat) f w' => Has f [(3, sb b1 qs.length qs.length), (9, .slice Aqs qs.length cqs), (10, I ((qs.length : Nat) : Int)), (11, I ((k : Nat) : Int))] ∧ (k ≤ qs.length) ∧ SH w w' [] [.own (some ⟨b1, 0, none⟩) qs.length qs.length 9 1 (((qs.map Lib.itoa).take k ++ List.replicate (qs.length - k) ([] : List UInt8)).map Str)]) (fun k => qs.length - k) 0 ⟨⟨(show (.slice (some ⟨b1, 0, none⟩) ((List.replicate qs.length ([] : List UInt8)).length) qs.length : Value) = .slice (some ⟨b1, 0, none⟩) qs.length qs.length from slv rfl e2 rfl), rfl, rfl, rfl, trivial⟩, (by simp), (hs1.cast (lc (own_eq (g := Str) rfl e2 rfl e1) rfl))⟩ ?_
 rintro k f w2 ⟨hf, hk, hs2⟩
 obtain ⟨g1, rfl⟩ := has_upd hf
 clear hf
 refine sq ?_
 refine rg ?_
 refine q trivial rfl rfl (lss (k := .i64) (a := ((k : Nat) : Int)) (b := ((qs.length : Nat) : Int)) rfl rfl) ?_
 refine nl ?_
 refine nN ?_
 refine sq ?_
 refine cdd (p := ((k : Nat) : Int) < ((qs.length : Nat) : Int)) rfl (fun h1 => ?_) (fun h1 => ?_)
 · refine sk ?_
   refine nN ?_
   refine sq ?_
   refine bl ?_
   refine sq ?_
   refine rg ?_
   refine q trivial rfl rfl (mv (v := I ((k : Nat) : Int)) rfl) ?_
   refine ixw1 k sl24 rfl rfl hqs (by first | (first | omega | (simp; done) | (simp; omega)) | (have hq4 := quadOk_len hq; first | omega | (simp; done) | (simp; omega))) (getm I 0 (by first | (first | omega | (simp; done) | (simp; omega)) | (have hq4 := quadOk_len hq; first | omega | (simp; done) | (simp; omega)))) trivial rfl (fun a1 ha1 => ?_)
   refine q trivial rfl rfl (lda (v := I (qs.getD k 0)) hs2 ha1 (fun _ h => h) rfl rfl one3) ?_
   refine q trivial rfl rfl (asg (v := I ((k : Nat) : Int)) rfl) ?_
   refine q trivial rfl rfl (asg (v := I (qs.getD k 0)) rfl) ?_
   refine nl ?_
   refine nN ?_
   refine rg ?_
   refine q trivial rfl rfl (mv (v := sb b1 qs.length qs.length) rfl) ?_
   refine q trivial rfl rfl (mv (v := I ((k : Nat) : Int)) rfl) ?_
   refine q trivial rfl rfl (mv (v := I (qs.getD k 0)) rfl) ?_
   refine cl trivial rfl (stItoa (n := qs.getD k 0) (w := _) (hn := (by have hy := quad_get hq (k := k) (by omega); omega)) (hGp := (tab_up hGp hs2))) ?_
   rintro _ w3 ⟨rfl, hs3'⟩
   have hs3 : SH w w3 [] [.own (some ⟨b1, 0, none⟩) qs.length qs.length 9 1 (((qs.map Lib.itoa).take k ++ List.replicate (qs.length - k) ([] : List UInt8)).map Str)] := hs2.call0 hs3'
   clear hs3'
   refine q trivial rfl rfl (ixo k sl68 rfl rfl (by first | (first | omega | (simp; done) | (simp; omega)) | (have hq4 := quadOk_len hq; first | omega | (simp; done) | (simp; omega)))) ?_
   refine stomn (g := Str) (ys := (qs.map Lib.itoa).take k ++ List.replicate (qs.length - k) ([] : List UInt8)) (o := k) (u := Lib.itoa (qs.getD k 0)) hs3 0 rfl rfl rfl rfl (by first | (first | omega | (simp; done) | (simp; omega)) | (have hq4 := quadOk_len hq; first | omega | (simp; done) | (simp; omega))) rfl one9 trivial (fun w4 (hs4 : SH w w4 [] [.own (some ⟨b1, 0, none⟩) qs.length qs.length 9 1 ((((qs.map Lib.itoa).take k ++ List.replicate (qs.length - k) ([] : List UInt8)).set k (Lib.itoa (qs.getD k 0))).map Str)]) => ?_)
   refine nl ?_
   refine bN ?_
   refine nN ?_
   refine rg ?_
   refine q trivial rfl rfl (add (a := ((k : Nat) : Int)) (b := 1) rfl rfl (by first | (exact ⟨by omega, by omega⟩) | (have hq4 := quadOk_len hq; exact ⟨by omega, by omega⟩))) ?_
   refine q trivial rfl rfl (mv (v := I (((k : Nat) : Int) + 1)) rfl) ?_
   refine nl ?_
   refine nN ?_
   have e3 : ((qs.map Lib.itoa).take k ++ List.replicate (qs.length - k) ([] : List UInt8)).set k (Lib.itoa (qs.getD k 0)) = (qs.map Lib.itoa).take (k + 1) ++ List.replicate (qs.length - (k + 1)) ([] : List UInt8) := by exact quad_set (by omega)
   refine ⟨(k + 1), ⟨⟨rfl, rfl, rfl, rfl, trivial⟩, (by omega), (hs4.cast (lc (own_eq (g := Str) rfl rfl rfl e3) rfl))⟩, ?_⟩
   omega
 · refine ex (tE (tE (bE ?_)))
   refine nN ?_
   refine sq ?_
   refine rg ?_
   refine q trivial rfl rfl (mv (v := sb b1 qs.length qs.length) rfl) ?_
   have e4 : qs.length = ((qs.map Lib.itoa).take k ++ List.replicate (qs.length - k) ([] : List UInt8)).length := by first | rfl | (simp; done) | (simp; omega) | omega
   have hs5 : SH w w2 [] [.own (some ⟨b1, 0, none⟩) (((qs.map Lib.itoa).take k ++ List.replicate (qs.length - k) ([] : List UInt8)).length) qs.length 9 1 (((qs.map Lib.itoa).take k ++ List.replicate (qs.length - k) ([] : List UInt8)).map Str)] := (hs2.cast (lc (own_eq (g := Str) rfl e4 rfl rfl) rfl))
   refine cl trivial rfl (Does.castA (lc (slv rfl e4.symm rfl) (lc rfl rfl)) (stJoin (bxs := b1) (cxs := qs.length) (xs := (qs.map Lib.itoa).take k ++ List.replicate (qs.length - k) ([] : List UInt8)) (m := [46]) (w := _) (hxs := (hs5.sl0 0 rfl)) (hxs_n := (by first | (first | omega | (simp; done) | (simp; omega)) | (have hq4 := quadOk_len hq; first | omega | (simp; done) | (simp; omega)))) (hl := (by rw [quad_whole (by omega)]; exact Nat.le_trans (quadT_len hq) (by decide : 87 ≤ 140737488355328))))) ?_
   rintro _ w5 ⟨rfl, hs6'⟩
   have hs6 : SH w w5 [] [.own (some ⟨b1, 0, none⟩) (((qs.map Lib.itoa).take k ++ List.replicate (qs.length - k) ([] : List UInt8)).length) qs.length 9 1 (((qs.map Lib.itoa).take k ++ List.replicate (qs.length - k) ([] : List UInt8)).map Str)] := hs5.call0 hs6'
   clear hs6'
   refine q trivial rfl rfl (asg (v := Str (Lib.join ((qs.map Lib.itoa).take k ++ List.replicate (qs.length - k) ([] : List UInt8)) [46])) rfl) ?_
   refine nl ?_
   refine nN ?_
   refine rt ?_
   refine fret (v := Str (Lib.join ((qs.map Lib.itoa).take k ++ List.replicate (qs.length - k) ([] : List UInt8)) [46])) (.tmp .nil) rfl ?_
   have e5 : Lib.join ((qs.map Lib.itoa).take k ++ List.replicate (qs.length - k) ([] : List UInt8)) [46] = quadT qs := by rw [quad_whole (by omega)]; rfl
   exact ⟨(congrArg (Str) e5), (hs6.pick [] rfl (by decide))⟩

theorem sL2Quad {Aqs : Option Addr} {cqs : Nat} (qs : List Int) (w : World) (hqs : Sl w [] 1 Aqs qs.length cqs (qs.map I)) (hq : quadOk qs = true) : Does Tryd.prog 66 [.slice Aqs qs.length cqs] w (fun v w' => v = Str (quadT qs) ∧ SH w w' [] []) := by
 refine fn_enter (N := 25) Tryd.func66 rfl (by kernel_rfl) rfl rfl rfl ?_
 have hs0 : SH w w [] [] := SH.refl w []
 have hqs_m : qs.length ≤ 9223372036854775807 := Nat.le_trans hqs.cap hqs.capMax
 refine sq ?_
 refine rg ?_
 refine q trivial rfl rfl (asg (v := Str []) rfl) ?_
 refine nl ?_
 refine nN ?_
 refine sq ?_
 refine rq (fun w' => SH w w' [] []) mixed (by kernel_rfl) hs0.drew ?_
 refine qq trivial rfl rfl (fun wq hsq => mv (v := .slice Aqs qs.length cqs) rfl) ?_
 refine ixq1 0 sl24 rfl rfl hqs (by first | (first | omega | (simp; done) | (simp; omega)) | (have hq4 := quadOk_len hq; have g0 := itoa_b (quad_get hq (k := 0) (by omega)); have g1 := itoa_b (quad_get hq (k := 1) (by omega)); have g2 := itoa_b (quad_get hq (k := 2) (by omega)); have g3 := itoa_b (quad_get hq (k := 3) (by omega)); first | omega | (simp; done) | (simp; omega))) (getm I 0 (by first | (first | omega | (simp; done) | (simp; omega)) | (have hq4 := quadOk_len hq; have g0 := itoa_b (quad_get hq (k := 0) (by omega)); have g1 := itoa_b (quad_get hq (k := 1) (by omega)); have g2 := itoa_b (quad_get hq (k := 2) (by omega)); have g3 := itoa_b (quad_get hq (k := 3) (by omega)); first | omega | (simp; done) | (simp; omega)))) trivial rfl (fun a1 ha1 => ?_)
 refine qq trivial rfl rfl (fun wq hsq => lda (v := I (qs.getD 0 0)) hsq ha1 (fun _ h => h) rfl rfl one3) ?_
 refine qc (Str (Lib.itoa (qs.getD 0 0))) trivial rfl (fun wq hsq => (l6Dec (n := qs.getD 0 0) (w := _) (hn := (by have hq4 := quadOk_len hq; have g0 := quad_get hq (k := 0) (by omega); have g1 := quad_get hq (k := 1) (by omega); have g2 := quad_get hq (k := 2) (by omega); have g3 := quad_get hq (k := 3) (by omega); omega))).mono (fun v w' h => ⟨h.1, by simpa using hsq.call0 h.2⟩)) ?_
 refine qq trivial rfl rfl (fun wq hsq => cat (l := Lib.itoa (qs.getD 0 0)) (m := [46]) rfl rfl (by have hq4 := quadOk_len hq; have g0 := itoa_b (quad_get hq (k := 0) (by omega)); have g1 := itoa_b (quad_get hq (k := 1) (by omega)); have g2 := itoa_b (quad_get hq (k := 2) (by omega)); have g3 := itoa_b (quad_get hq (k := 3) (by omega)); simp only [List.length_append, List.length_cons, List.length_nil]; omega)) ?_
 refine qq trivial rfl rfl (fun wq hsq => mv (v := .slice Aqs qs.length cqs) rfl) ?_
 refine ixq1 1 sl24 rfl rfl hqs (by first | (first | omega | (simp; done) | (simp; omega)) | (have hq4 := quadOk_len hq; have g0 := itoa_b (quad_get hq (k := 0) (by omega)); have g1 := itoa_b (quad_get hq (k := 1) (by omega)); have g2 := itoa_b (quad_get hq (k := 2) (by omega)); have g3 := itoa_b (quad_get hq (k := 3) (by omega)); first | omega | (simp; done) | (simp; omega))) (getm I 0 (by first | (first | omega | (simp; done) | (simp; omega)) | (have hq4 := quadOk_len hq; have g0 := itoa_b (quad_get hq (k := 0) (by omega)); have g1 := itoa_b (quad_get hq (k := 1) (by omega)); have g2 := itoa_b (quad_get hq (k := 2) (by omega)); have g3 := itoa_b (quad_get hq (k := 3) (by omega)); first | omega | (simp; done) | (simp; omega)))) trivial rfl (fun a2 ha2 => ?_)
 refine qq trivial rfl rfl (fun wq hsq => lda (v := I (qs.getD 1 0)) hsq ha2 (fun _ h => h) rfl rfl one3) ?_
 refine qc (Str (Lib.itoa (qs.getD 1 0))) trivial rfl (fun wq hsq => (l6Dec (n := qs.getD 1 0) (w := _) (hn := (by have hq4 := quadOk_len hq; have g0 := quad_get hq (k := 0) (by omega); have g1 := quad_get hq (k := 1) (by omega); have g2 := quad_get hq (k := 2) (by omega); have g3 := quad_get hq (k := 3) (by omega); omega))).mono (fun v w' h => ⟨h.1, by simpa using hsq.call0 h.2⟩)) ?_
 refine qq trivial rfl rfl (fun wq hsq => cat (l := (Lib.itoa (qs.getD 0 0)) ++ [46]) (m := Lib.itoa (qs.getD 1 0)) rfl rfl (by have hq4 := quadOk_len hq; have g0 := itoa_b (quad_get hq (k := 0) (by omega)); have g1 := itoa_b (quad_get hq (k := 1) (by omega)); have g2 := itoa_b (quad_get hq (k := 2) (by omega)); have g3 := itoa_b (quad_get hq (k := 3) (by omega)); simp only [List.length_append, List.length_cons, List.length_nil]; omega)) ?_
 refine qq trivial rfl rfl (fun wq hsq => cat (l := ((Lib.itoa (qs.getD 0 0)) ++ [46]) ++ (Lib.itoa (qs.getD 1 0))) (m := [46]) rfl rfl (by have hq4 := quadOk_len hq; have g0 := itoa_b (quad_get hq (k := 0) (by omega)); have g1 := itoa_b (quad_get hq (k := 1) (by omega)); have g2 := itoa_b (quad_get hq (k := 2) (by omega)); have g3 := itoa_b (quad_get hq (k := 3) (by omega)); simp only [List.length_append, List.length_cons, List.length_nil]; omega)) ?_
 refine qq trivial rfl rfl (fun wq hsq => mv (v := .slice Aqs qs.length cqs) rfl) ?_
 refine ixq1 2 sl24 rfl rfl hqs (by first | (first | omega | (simp; done) | (simp; omega)) | (have hq4 := quadOk_len hq; have g0 := itoa_b (quad_get hq (k := 0) (by omega)); have g1 := itoa_b (quad_get hq (k := 1) (by omega)); have g2 := itoa_b (quad_get hq (k := 2) (by omega)); have g3 := itoa_b (quad_get hq (k := 3) (by omega)); first | omega | (simp; done) | (simp; omega))) (getm I 0 (by first | (first | omega | (simp; done) | (simp; omega)) | (have hq4 := quadOk_len hq; have g0 := itoa_b (quad_get hq (k := 0) (by omega)); have g1 := itoa_b (quad_get hq (k := 1) (by omega)); have g2 := itoa_b (quad_get hq (k := 2) (by omega)); have g3 := itoa_b (quad_get hq (k := 3) (by omega)); first | omega | (simp; done) | (simp; omega)))) trivial rfl (fun a3 ha3 => ?_)
 refine qq trivial rfl rfl (fun wq hsq => lda (v := I (qs.getD 2 0)) hsq ha3 (fun _ h => h) rfl rfl one3) ?_
 refine qc (Str (Lib.itoa (qs.getD 2 0))) trivial rfl (fun wq hsq => (l6Dec (n := qs.getD 2 0) (w := _) (hn := (by have hq4 := quadOk_len hq; have g0 := quad_get hq (k := 0) (by omega); have g1 := quad_get hq (k := 1) (by omega); have g2 := quad_get hq (k := 2) (by omega); have g3 := quad_get hq (k := 3) (by omega); omega))).mono (fun v w' h => ⟨h.1, by simpa using hsq.call0 h.2⟩)) ?_
 refine qq trivial rfl rfl (fun wq hsq => cat (l := (((Lib.itoa (qs.getD 0 0)) ++ [46]) ++ (Lib.itoa (qs.getD 1 0))) ++ [46]) (m := Lib.itoa (qs.getD 2 0)) rfl rfl (by have hq4 := quadOk_len hq; have g0 := itoa_b (quad_get hq (k := 0) (by omega)); have g1 := itoa_b (quad_get hq (k := 1) (by omega)); have g2 := itoa_b (quad_get hq (k := 2) (by omega)); have g3 := itoa_b (quad_get hq (k := 3) (by omega)); simp only [List.length_append, List.length_cons, List.length_nil]; omega)) ?_
 refine qq trivial rfl rfl (fun wq hsq => cat (l := ((((Lib.itoa (qs.getD 0 0)) ++ [46]) ++ (Lib.itoa (qs.getD 1 0))) ++ [46]) ++ (Lib.itoa (qs.getD 2 0))) (m := [46]) rfl rfl (by have hq4 := quadOk_len hq; have g0 := itoa_b (quad_get hq (k := 0) (by omega)); have g1 := itoa_b (quad_get hq (k := 1) (by omega)); have g2 := itoa_b (quad_get hq (k := 2) (by omega)); have g3 := itoa_b (quad_get hq (k := 3) (by omega)); simp only [List.length_append, List.length_cons, List.length_nil]; omega)) ?_
 refine qq trivial rfl rfl (fun wq hsq => mv (v := .slice Aqs qs.length cqs) rfl) ?_
 refine ixq1 3 sl24 rfl rfl hqs (by first | (first | omega | (simp; done) | (simp; omega)) | (have hq4 := quadOk_len hq; have g0 := itoa_b (quad_get hq (k := 0) (by omega)); have g1 := itoa_b (quad_get hq (k := 1) (by omega)); have g2 := itoa_b (quad_get hq (k := 2) (by omega)); have g3 := itoa_b (quad_get hq (k := 3) (by omega)); first | omega | (simp; done) | (simp; omega))) (getm I 0 (by first | (first | omega | (simp; done) | (simp; omega)) | (have hq4 := quadOk_len hq; have g0 := itoa_b (quad_get hq (k := 0) (by omega)); have g1 := itoa_b (quad_get hq (k := 1) (by omega)); have g2 := itoa_b (quad_get hq (k := 2) (by omega)); have g3 := itoa_b (quad_get hq (k := 3) (by omega)); first | omega | (simp; done) | (simp; omega)))) trivial rfl (fun a4 ha4 => ?_)
 refine qq trivial rfl rfl (fun wq hsq => lda (v := I (qs.getD 3 0)) hsq ha4 (fun _ h => h) rfl rfl one3) ?_
 refine qc (Str (Lib.itoa (qs.getD 3 0))) trivial rfl (fun wq hsq => (l6Dec (n := qs.getD 3 0) (w := _) (hn := (by have hq4 := quadOk_len hq; have g0 := quad_get hq (k := 0) (by omega); have g1 := quad_get hq (k := 1) (by omega); have g2 := quad_get hq (k := 2) (by omega); have g3 := quad_get hq (k := 3) (by omega); omega))).mono (fun v w' h => ⟨h.1, by simpa using hsq.call0 h.2⟩)) ?_
 refine qq trivial rfl rfl (fun wq hsq => cat (l := (((((Lib.itoa (qs.getD 0 0)) ++ [46]) ++ (Lib.itoa (qs.getD 1 0))) ++ [46]) ++ (Lib.itoa (qs.getD 2 0))) ++ [46]) (m := Lib.itoa (qs.getD 3 0)) rfl rfl (by have hq4 := quadOk_len hq; have g0 := itoa_b (quad_get hq (k := 0) (by omega)); have g1 := itoa_b (quad_get hq (k := 1) (by omega)); have g2 := itoa_b (quad_get hq (k := 2) (by omega)); have g3 := itoa_b (quad_get hq (k := 3) (by omega)); simp only [List.length_append, List.length_cons, List.length_nil]; omega)) ?_
 refine qq trivial rfl rfl (fun wq hsq => asg (v := Str (((((((Lib.itoa (qs.getD 0 0)) ++ [46]) ++ (Lib.itoa (qs.getD 1 0))) ++ [46]) ++ (Lib.itoa (qs.getD 2 0))) ++ [46]) ++ (Lib.itoa (qs.getD 3 0)))) rfl) ?_
 refine qn (fun w1 hs1 => ?_)
 refine nN ?_
 refine rt ?_
 refine fret (v := Str (((((((Lib.itoa (qs.getD 0 0)) ++ [46]) ++ (Lib.itoa (qs.getD 1 0))) ++ [46]) ++ (Lib.itoa (qs.getD 2 0))) ++ [46]) ++ (Lib.itoa (qs.getD 3 0)))) (.tmp .nil) rfl ?_
 have e1 : ((((((Lib.itoa (qs.getD 0 0)) ++ [46]) ++ (Lib.itoa (qs.getD 1 0))) ++ [46]) ++ (Lib.itoa (qs.getD 2 0))) ++ [46]) ++ (Lib.itoa (qs.getD 3 0)) = quadT qs := by exact (quadT_eq (quadOk_len hq)).symm
 exact ⟨(congrArg (Str) e1), hs1⟩

theorem iHostText (ak : Int) {Aaq : Option Addr} {caq : Nat} (aq : List Int) (an : List UInt8) (apt : Int) (w : World) (haq : Sl w [] 1 Aaq aq.length caq (aq.map I)) (han_n : an.length ≤ 1099511627776) (hok : addrOk ak aq an apt = true) (hGp : Lib.TabIs Tryd.prog w "internal/strconv.uint64pow10" .u64 Lib.pow10Tab) : Does Tryd.prog 51 [.agg #[I ak, .slice Aaq aq.length caq, Str an, I apt]] w (fun v w' => v = Str (hostT ak aq an) ∧ SH w w' [] []) := by
 refine fn_enter (N := 11) Tryd.func51 rfl (by kernel_rfl) rfl rfl rfl ?_
 have hs0 : SH w w [] [] := SH.refl w []
 have haq_m : aq.length ≤ 9223372036854775807 := Nat.le_trans haq.cap haq.capMax
 refine sq ?_
 refine rg ?_
 refine bx (v := .agg #[I ak, .slice Aaq aq.length caq, Str an, I apt]) (cs := [I ak, .slice Aaq aq.length caq, Str an, I apt]) hs0 rfl rfl trivial rfl (fun b1 w1 (hs1 : SH w w1 [] [.blk b1 26 [I ak, .slice Aaq aq.length caq, Str an, I apt]]) => ?_)
 refine q trivial rfl rfl (asg (v := Str []) rfl) ?_
 refine nl ?_
 refine nN ?_
 refine sq ?_
 refine sq ?_
 refine rg ?_
 refine q trivial rfl rfl (fa 0 fo26_0 rfl) ?_
 refine q trivial rfl rfl (ld (v := I ak) hs1 0 rfl rfl rfl one3) ?_
 refine q trivial rfl rfl (eqi (k := .i64) (a := ak) (b := 1) rfl rfl) ?_
 refine nl ?_
 refine nN ?_
 refine cdd (p := ak = 1) rfl (fun h1 => ?_) (fun h1 => ?_)
 · refine sq ?_
   refine rg ?_
   refine q trivial rfl rfl (fa 1 fo26_1 rfl) ?_
   refine q trivial rfl rfl (ld (v := .slice Aaq aq.length caq) hs1 0 rfl rfl rfl one24) ?_
   refine cl trivial rfl (iQuadText (Aqs := Aaq) (cqs := caq) (qs := aq) (w := _) (hqs := (haq.up0 hs1)) (hq := (by exact addr_quad hok (by assumption))) (hGp := (tab_up hGp hs1))) ?_
   rintro _ w2 ⟨rfl, hs2'⟩
   have hs2 : SH w w2 [] [.blk b1 26 [I ak, .slice Aaq aq.length caq, Str an, I apt]] := hs1.call0 hs2'
   clear hs2'
   refine q trivial rfl rfl (asg (v := Str (quadT aq)) rfl) ?_
   refine nl ?_
   refine nN ?_
   refine rt (tR ?_)
   refine fret (v := Str (quadT aq)) (.tmp .nil) rfl ?_
   have e1 : quadT aq = hostT ak aq an := by simp [hostT, h1]
   exact ⟨(congrArg (Str) e1), (hs2.pick [] rfl (by decide))⟩
 · refine sk ?_
   refine nN ?_
   refine sq ?_
   refine rg ?_
   refine q trivial rfl rfl (fa 2 fo26_2 rfl) ?_
   refine q trivial rfl rfl (ld (v := Str an) hs1 0 rfl rfl rfl one9) ?_
   refine q trivial rfl rfl (asg (v := Str an) rfl) ?_
   refine nl ?_
   refine nN ?_
   refine rt ?_
   refine fret (v := Str an) (.tmp .nil) rfl ?_
   have e2 : an = hostT ak aq an := by simp [hostT, h1]
   exact ⟨(congrArg (Str) e2), (hs1.pick [] rfl (by decide))⟩

theorem sL3Host (ak : Int) {Aaq : Option Addr} {caq : Nat} (aq : List Int) (an : List UInt8) (apt : Int) (w : World) (haq : Sl w [] 1 Aaq aq.length caq (aq.map I)) (han_n : an.length ≤ 1099511627776) (hok : addrOk ak aq an apt = true) : Does Tryd.prog 53 [.agg #[I ak, .slice Aaq aq.length caq, Str an, I apt]] w (fun v w' => v = Str (hostT ak aq an) ∧ SH w w' [] []) := by
 refine fn_enter (N := 11) Tryd.func53 rfl (by kernel_rfl) rfl rfl rfl ?_
 have hs0 : SH w w [] [] := SH.refl w []
 have haq_m : aq.length ≤ 9223372036854775807 := Nat.le_trans haq.cap haq.capMax
 refine sq ?_
 refine rg ?_
 refine bx (v := .agg #[I ak, .slice Aaq aq.length caq, Str an, I apt]) (cs := [I ak, .slice Aaq aq.length caq, Str an, I apt]) hs0 rfl rfl trivial rfl (fun b1 w1 (hs1 : SH w w1 [] [.blk b1 26 [I ak, .slice Aaq aq.length caq, Str an, I apt]]) => ?_)
 refine q trivial rfl rfl (asg (v := Str []) rfl) ?_
 refine nl ?_
 refine nN ?_
 refine sq ?_
 refine sq ?_
 refine rg ?_
 refine q trivial rfl rfl (fa 0 fo26_0 rfl) ?_
 refine q trivial rfl rfl (ld (v := I ak) hs1 0 rfl rfl rfl one3) ?_
 refine q trivial rfl rfl (eqi (k := .i64) (a := ak) (b := 1) rfl rfl) ?_
 refine nl ?_
 refine nN ?_
 refine cdd (p := ak = 1) rfl (fun h1 => ?_) (fun h1 => ?_)
 · refine sq ?_
   refine rg ?_
   refine q trivial rfl rfl (fa 1 fo26_1 rfl) ?_
   refine q trivial rfl rfl (ld (v := .slice Aaq aq.length caq) hs1 0 rfl rfl rfl one24) ?_
   refine cl trivial rfl (sL2Quad (Aqs := Aaq) (cqs := caq) (qs := aq) (w := _) (hqs := (haq.up0 hs1)) (hq := (by exact addr_quad hok (by assumption)))) ?_
   rintro _ w2 ⟨rfl, hs2'⟩
   have hs2 : SH w w2 [] [.blk b1 26 [I ak, .slice Aaq aq.length caq, Str an, I apt]] := hs1.call0 hs2'
   clear hs2'
   refine q trivial rfl rfl (asg (v := Str (quadT aq)) rfl) ?_
   refine nl ?_
   refine nN ?_
   refine rt (tR ?_)
   refine fret (v := Str (quadT aq)) (.tmp .nil) rfl ?_
   have e1 : quadT aq = hostT ak aq an := by simp [hostT, h1]
   exact ⟨(congrArg (Str) e1), (hs2.pick [] rfl (by decide))⟩
 · refine sk ?_
   refine nN ?_
   refine sq ?_
   refine rg ?_
   refine q trivial rfl rfl (fa 2 fo26_2 rfl) ?_
   refine q trivial rfl rfl (ld (v := Str an) hs1 0 rfl rfl rfl one9) ?_
   refine q trivial rfl rfl (asg (v := Str an) rfl) ?_
   refine nl ?_
   refine nN ?_
   refine rt ?_
   refine fret (v := Str an) (.tmp .nil) rfl ?_
   have e2 : an = hostT ak aq an := by simp [hostT, h1]
   exact ⟨(congrArg (Str) e2), (hs1.pick [] rfl (by decide))⟩

theorem slHasSuffix (s : List UInt8) (t : List UInt8) (w : World) (hs_n : s.length ≤ 9223372036854775807) (ht_n : t.length ≤ 9223372036854775807) : Does Tryd.prog 64 [Str s, Str t] w (fun v w' => v = .bool (decide (sufP s t)) ∧ SH w w' [] []) := by
 refine fn_enter (N := 21) Tryd.func64 rfl (by kernel_rfl) rfl rfl rfl ?_
 have hs0 : SH w w [] [] := SH.refl w []
 refine sq ?_
 refine rg ?_
 refine q trivial rfl rfl (asg (v := .bool false) rfl) ?_
 refine nl ?_
 refine nN ?_
 refine sq ?_
 refine rg ?_
 refine q trivial rfl rfl (mv (v := Str s) rfl) ?_
 refine q trivial rfl rfl (lnS (l := s) st9 rfl) ?_
 refine q trivial rfl rfl (mv (v := Str t) rfl) ?_
 refine q trivial rfl rfl (lnS (l := t) st9 rfl) ?_
 refine q trivial rfl rfl (geq (k := .i64) (a := ((s.length : Nat) : Int)) (b := ((t.length : Nat) : Int)) rfl rfl) ?_
 refine q trivial rfl rfl (mv (v := .bool (decide (((t.length : Nat) : Int) ≤ ((s.length : Nat) : Int)))) rfl) ?_
 refine spd (p := ((t.length : Nat) : Int) ≤ ((s.length : Nat) : Int)) 10 rfl (fun h1 => ?_) (fun h1 => ?_)
 · refine q ⟨_, rfl, rfl⟩ rfl rfl (mv (v := Str s) rfl) ?_
   refine q ⟨_, rfl, rfl⟩ rfl rfl (mv (v := Str s) rfl) ?_
   refine q ⟨_, rfl, rfl⟩ rfl rfl (lnS (l := s) st9 rfl) ?_
   refine q ⟨_, rfl, rfl⟩ rfl rfl (mv (v := Str t) rfl) ?_
   refine q ⟨_, rfl, rfl⟩ rfl rfl (lnS (l := t) st9 rfl) ?_
   refine q ⟨_, rfl, rfl⟩ rfl rfl (subN (a := s.length) (b := t.length) rfl rfl (by omega) (by omega)) ?_
   refine q ⟨_, rfl, rfl⟩ rfl rfl (culs (l := s) (s.length - t.length) st9 rfl rfl (by first | omega | (simp; done) | (simp; omega))) ?_
   refine q ⟨_, rfl, rfl⟩ rfl rfl (mv (v := Str t) rfl) ?_
   refine q ⟨_, rfl, rfl⟩ rfl rfl (eqs (l := s.drop (s.length - t.length)) (m := t) rfl rfl) ?_
   refine q trivial rfl rfl (pt (v := .bool (decide (s.drop (s.length - t.length) = t))) rfl rfl) ?_
   refine q trivial rfl rfl (asg (v := .bool (decide (s.drop (s.length - t.length) = t))) rfl) ?_
   refine nl ?_
   refine nN ?_
   refine rt ?_
   refine fret (v := .bool (decide (s.drop (s.length - t.length) = t))) (.tmp .nil) rfl ?_
   have e1 : (decide (s.drop (s.length - t.length) = t)) = (decide (sufP s t)) := by first | rfl | exact suf1 (by assumption) | exact suf2 (by assumption)
   exact ⟨(congrArg (Value.bool) e1), hs0⟩
 · refine gk false rfl rfl rfl rfl rfl ?_
   refine gk false rfl rfl rfl rfl rfl ?_
   refine gk false rfl rfl rfl rfl rfl ?_
   refine gk false rfl rfl rfl rfl rfl ?_
   refine gk false rfl rfl rfl rfl rfl ?_
   refine gk false rfl rfl rfl rfl rfl ?_
   refine gk false rfl rfl rfl rfl rfl ?_
   refine gk false rfl rfl rfl rfl rfl ?_
   refine gk false rfl rfl rfl rfl rfl ?_
   refine q trivial rfl rfl (pf (v := .bool false) rfl rfl) ?_
   refine q trivial rfl rfl (asg (v := .bool false) rfl) ?_
   refine nl ?_
   refine nN ?_
   refine rt ?_
   refine fret (v := .bool false) (.tmp .nil) rfl ?_
   have e2 : false = (decide (sufP s t)) := by first | rfl | exact suf1 (by assumption) | exact suf2 (by assumption)
   exact ⟨(congrArg (Value.bool) e2), hs0⟩

theorem stHasSuffix (s : List UInt8) (t : List UInt8) (w : World) (hs_n : s.length ≤ 9223372036854775807) (ht_n : t.length ≤ 9223372036854775807) : Does Tryd.prog 50 [Str s, Str t] w (fun v w' => v = .bool (decide (sufP s t)) ∧ SH w w' [] []) := by
 refine fn_enter (N := 8) Tryd.func50 rfl (by kernel_rfl) rfl rfl rfl ?_
 have hs0 : SH w w [] [] := SH.refl w []
 refine sq ?_
 refine rg ?_
 refine q trivial rfl rfl (asg (v := .bool false) rfl) ?_
 refine nl ?_
 refine nN ?_
 refine sq ?_
 refine rg ?_
 refine q trivial rfl rfl (mv (v := Str s) rfl) ?_
 refine q trivial rfl rfl (mv (v := Str t) rfl) ?_
 refine cl trivial rfl (slHasSuffix (s := s) (t := t) (w := _) (hs_n := (by first | omega | (simp; done) | (simp; omega))) (ht_n := (by first | omega | (simp; done) | (simp; omega)))) ?_
 rintro _ w1 ⟨rfl, hs1'⟩
 have hs1 : SH w w1 [] [] := hs0.call0 hs1'
 clear hs1'
 refine q trivial rfl rfl (asg (v := .bool (decide (sufP s t))) rfl) ?_
 refine nl ?_
 refine nN ?_
 refine rt ?_
 refine fret (v := .bool (decide (sufP s t))) (.tmp .nil) rfl ?_
 exact ⟨rfl, hs1⟩

theorem sL32Fits (l : List UInt8) (n : Int) (b : Bool) (ak : Int) {Aaq : Option Addr} {caq : Nat} (aq : List Int) (an : List UInt8) (apt : Int) (w : World) (hl_n : l.length ≤ 9223372036854775807) (haq : Sl w [] 1 Aaq aq.length caq (aq.map I)) (han_n : an.length ≤ 1099511627776) (hok : addrOk ak aq an apt = true) : Does Tryd.prog 29 [.agg #[Str l, I n, .bool b], .agg #[I ak, .slice Aaq aq.length caq, Str an, I apt]] w (fun v w' => v = .bool (fitB (l, n, b) (hostT ak aq an) apt) ∧ SH w w' [] []) := by
 refine fn_enter (N := 37) Tryd.func29 rfl (by kernel_rfl) rfl rfl rfl ?_
 have hs0 : SH w w [] [] := SH.refl w []
 have haq_m : aq.length ≤ 9223372036854775807 := Nat.le_trans haq.cap haq.capMax
 refine sq ?_
 refine rg ?_
 refine bx (v := .agg #[Str l, I n, .bool b]) (cs := [Str l, I n, .bool b]) hs0 rfl rfl trivial rfl (fun b1 w1 (hs1 : SH w w1 [] [.blk b1 33 [Str l, I n, .bool b]]) => ?_)
 refine bx (v := .agg #[I ak, .slice Aaq aq.length caq, Str an, I apt]) (cs := [I ak, .slice Aaq aq.length caq, Str an, I apt]) hs1 rfl rfl trivial rfl (fun b2 w2 (hs2 : SH w w2 [] [.blk b1 33 [Str l, I n, .bool b], .blk b2 26 [I ak, .slice Aaq aq.length caq, Str an, I apt]]) => ?_)
 refine q trivial rfl rfl (asg (v := .bool false) rfl) ?_
 refine nl ?_
 refine nN ?_
 refine sq ?_
 refine rg ?_
 refine q trivial rfl rfl (ldg (vs := [I ak, .slice Aaq aq.length caq, Str an, I apt]) hs2 1 rfl rfl rfl rfl ag26) ?_
 refine cl trivial rfl (sL3Host (ak := ak) (Aaq := Aaq) (caq := caq) (aq := aq) (an := an) (apt := apt) (w := _) (haq := (haq.up0 hs2)) (han_n := (by first | (first | omega | (simp; done) | (simp; omega)) | (have hhl := hostT_len hok; first | omega | (simp; done) | (simp; omega)))) (hok := (by first | (first | omega | assumption | (simp; done) | (simp; omega)) | (have hhl := hostT_len hok; first | omega | assumption | (simp; done) | (simp; omega))))) ?_
 rintro _ w3 ⟨rfl, hs3'⟩
 have hs3 : SH w w3 [] [.blk b1 33 [Str l, I n, .bool b], .blk b2 26 [I ak, .slice Aaq aq.length caq, Str an, I apt]] := hs2.call0 hs3'
 clear hs3'
 refine q trivial rfl rfl (asg (v := Str (hostT ak aq an)) rfl) ?_
 refine nl ?_
 refine nN ?_
 refine sq ?_
 refine rg ?_
 refine q trivial rfl rfl (mv (v := Str (hostT ak aq an)) rfl) ?_
 refine q trivial rfl rfl (lnS (l := hostT ak aq an) st9 rfl) ?_
 refine q trivial rfl rfl (fa 0 fo33_0 rfl) ?_
 refine q trivial rfl rfl (ld (v := Str l) hs3 0 rfl rfl rfl one9) ?_
 refine q trivial rfl rfl (lnS (l := l) st9 rfl) ?_
 refine q trivial rfl rfl (sub (a := (((hostT ak aq an).length : Nat) : Int)) (b := ((l.length : Nat) : Int)) rfl rfl (by first | (exact ⟨by omega, by omega⟩) | (have hhl := hostT_len hok; exact ⟨by omega, by omega⟩))) ?_
 refine q trivial rfl rfl (asg (v := I ((((hostT ak aq an).length : Nat) : Int) - ((l.length : Nat) : Int))) rfl) ?_
 refine nl ?_
 refine nN ?_
 refine sq ?_
 refine rq (fun w' => SH w w' [] [.blk b1 33 [Str l, I n, .bool b], .blk b2 26 [I ak, .slice Aaq aq.length caq, Str an, I apt]]) mixed (by kernel_rfl) hs3.drew ?_
 refine qq trivial rfl rfl (fun wq hsq => mv (v := I ((((hostT ak aq an).length : Nat) : Int) - ((l.length : Nat) : Int))) rfl) ?_
 refine qq trivial rfl rfl (fun wq hsq => geq (k := .i64) (a := (((hostT ak aq an).length : Nat) : Int) - ((l.length : Nat) : Int)) (b := 0) rfl rfl) ?_
 refine qq trivial rfl rfl (fun wq hsq => mv (v := .bool (decide ((0 : Int) ≤ ((((hostT ak aq an).length : Nat) : Int) - ((l.length : Nat) : Int))))) rfl) ?_
 refine qspd (p := (0 : Int) ≤ ((((hostT ak aq an).length : Nat) : Int) - ((l.length : Nat) : Int))) 17 rfl (fun h1 => ?_) (fun h1 => ?_)
 · refine qq ⟨_, rfl, rfl⟩ rfl rfl (fun wq hsq => mv (v := Str (hostT ak aq an)) rfl) ?_
   refine qq ⟨_, rfl, rfl⟩ rfl rfl (fun wq hsq => mv (v := I ((((hostT ak aq an).length : Nat) : Int) - ((l.length : Nat) : Int))) rfl) ?_
   refine qq ⟨_, rfl, rfl⟩ rfl rfl (fun wq hsq => culs (l := hostT ak aq an) (((((hostT ak aq an).length : Nat) : Int) - ((l.length : Nat) : Int)).toNat) st9 rfl (ieq (x := (((hostT ak aq an).length : Nat) : Int) - ((l.length : Nat) : Int)) (by first | (omega) | (have hhl := hostT_len hok; omega))) (by first | (first | omega | (simp; done) | (simp; omega)) | (have hhl := hostT_len hok; first | omega | (simp; done) | (simp; omega)))) ?_
   refine qq ⟨_, rfl, rfl⟩ rfl rfl (fun wq hsq => fa 0 fo33_0 rfl) ?_
   refine qq ⟨_, rfl, rfl⟩ rfl rfl (fun wq hsq => ld (v := Str l) hsq 0 rfl rfl rfl one9) ?_
   refine qq ⟨_, rfl, rfl⟩ rfl rfl (fun wq hsq => eqs (l := (hostT ak aq an).drop (((((hostT ak aq an).length : Nat) : Int) - ((l.length : Nat) : Int)).toNat)) (m := l) rfl rfl) ?_
   refine qq trivial rfl rfl (fun wq hsq => pt (v := .bool (decide ((hostT ak aq an).drop (((((hostT ak aq an).length : Nat) : Int) - ((l.length : Nat) : Int)).toNat) = l))) rfl rfl) ?_
   refine qq trivial rfl rfl (fun wq hsq => mv (v := .bool (decide ((hostT ak aq an).drop (((((hostT ak aq an).length : Nat) : Int) - ((l.length : Nat) : Int)).toNat) = l))) rfl) ?_
   refine qspd (p := (hostT ak aq an).drop (((((hostT ak aq an).length : Nat) : Int) - ((l.length : Nat) : Int)).toNat) = l) 25 rfl (fun h2 => ?_) (fun h2 => ?_)
   · refine qq ⟨_, rfl, rfl⟩ rfl rfl (fun wq hsq => fa 1 fo33_1 rfl) ?_
     refine qq ⟨_, rfl, rfl⟩ rfl rfl (fun wq hsq => ld (v := I n) hsq 0 rfl rfl rfl one3) ?_
     refine qq ⟨_, rfl, rfl⟩ rfl rfl (fun wq hsq => eqi (k := .i64) (a := n) (b := 0) rfl rfl) ?_
     refine qq ⟨_, rfl, rfl⟩ rfl rfl (fun wq hsq => mv (v := .bool (decide (n = 0))) rfl) ?_
     refine qspd (p := n = 0) 29 rfl (fun h3 => ?_) (fun h3 => ?_)
     · refine qk true rfl rfl rfl rfl rfl ?_
       refine qk true rfl rfl rfl rfl rfl ?_
       refine qk true rfl rfl rfl rfl rfl ?_
       refine qk true rfl rfl rfl rfl rfl ?_
       refine qk true rfl rfl rfl rfl rfl ?_
       refine qq ⟨_, rfl, rfl⟩ rfl rfl (fun wq hsq => pt (v := .bool true) rfl rfl) ?_
       refine qq trivial rfl rfl (fun wq hsq => pt (v := .bool true) rfl rfl) ?_
       refine qq trivial rfl rfl (fun wq hsq => asg (v := .bool true) rfl) ?_
       refine qn (fun w4 hs4 => ?_)
       refine nN ?_
       refine rt ?_
       refine fret (v := .bool true) (.tmp .nil) rfl ?_
       have e1 : true = fitB (l, n, b) (hostT ak aq an) apt := by first | exact (fit_yes (sufZ (by assumption) (by assumption)) (.inl (by assumption))).symm | exact fit_port (sufZ (by assumption) (by assumption)) (by assumption) | exact (fit_no1 (sufZ2 (by assumption))).symm | exact (fit_no1 (sufZ1 (by assumption))).symm
       exact ⟨(congrArg (Value.bool) e1), (hs4.pick [] rfl (by decide))⟩
     · refine qq ⟨_, rfl, rfl⟩ rfl rfl (fun wq hsq => fa 1 fo33_1 rfl) ?_
       refine qq ⟨_, rfl, rfl⟩ rfl rfl (fun wq hsq => ld (v := I n) hsq 0 rfl rfl rfl one3) ?_
       refine qq ⟨_, rfl, rfl⟩ rfl rfl (fun wq hsq => fa 3 fo26_3 rfl) ?_
       refine qq ⟨_, rfl, rfl⟩ rfl rfl (fun wq hsq => ld (v := I apt) hsq 1 rfl rfl rfl one3) ?_
       refine qq ⟨_, rfl, rfl⟩ rfl rfl (fun wq hsq => eqi (k := .i64) (a := n) (b := apt) rfl rfl) ?_
       refine qq ⟨_, rfl, rfl⟩ rfl rfl (fun wq hsq => pf (v := .bool (decide (n = apt))) rfl rfl) ?_
       refine qq trivial rfl rfl (fun wq hsq => pt (v := .bool (decide (n = apt))) rfl rfl) ?_
       refine qq trivial rfl rfl (fun wq hsq => asg (v := .bool (decide (n = apt))) rfl) ?_
       refine qn (fun w5 hs5 => ?_)
       refine nN ?_
       refine rt ?_
       refine fret (v := .bool (decide (n = apt))) (.tmp .nil) rfl ?_
       have e2 : (decide (n = apt)) = fitB (l, n, b) (hostT ak aq an) apt := by first | exact (fit_yes (sufZ (by assumption) (by assumption)) (.inl (by assumption))).symm | exact fit_port (sufZ (by assumption) (by assumption)) (by assumption) | exact (fit_no1 (sufZ2 (by assumption))).symm | exact (fit_no1 (sufZ1 (by assumption))).symm
       exact ⟨(congrArg (Value.bool) e2), (hs5.pick [] rfl (by decide))⟩
   · refine qk false rfl rfl rfl rfl rfl ?_
     refine qk false rfl rfl rfl rfl rfl ?_
     refine qk false rfl rfl rfl rfl rfl ?_
     refine qk false rfl rfl rfl rfl rfl ?_
     refine qku rfl rfl rfl rfl rfl ?_
     refine qku rfl rfl rfl rfl rfl ?_
     refine qku rfl rfl rfl rfl rfl ?_
     refine qku rfl rfl rfl rfl rfl ?_
     refine qku rfl rfl rfl rfl rfl ?_
     refine qk false rfl rfl rfl rfl rfl ?_
     refine qq trivial rfl rfl (fun wq hsq => pf (v := .bool false) rfl rfl) ?_
     refine qq trivial rfl rfl (fun wq hsq => asg (v := .bool false) rfl) ?_
     refine qn (fun w6 hs6 => ?_)
     refine nN ?_
     refine rt ?_
     refine fret (v := .bool false) (.tmp .nil) rfl ?_
     have e3 : false = fitB (l, n, b) (hostT ak aq an) apt := by first | exact (fit_yes (sufZ (by assumption) (by assumption)) (.inl (by assumption))).symm | exact fit_port (sufZ (by assumption) (by assumption)) (by assumption) | exact (fit_no1 (sufZ2 (by assumption))).symm | exact (fit_no1 (sufZ1 (by assumption))).symm
     exact ⟨(congrArg (Value.bool) e3), (hs6.pick [] rfl (by decide))⟩
 · refine qk false rfl rfl rfl rfl rfl ?_
   refine qk false rfl rfl rfl rfl rfl ?_
   refine qk false rfl rfl rfl rfl rfl ?_
   refine qk false rfl rfl rfl rfl rfl ?_
   refine qk false rfl rfl rfl rfl rfl ?_
   refine qk false rfl rfl rfl rfl rfl ?_
   refine qq trivial rfl rfl (fun wq hsq => pf (v := .bool false) rfl rfl) ?_
   refine qq trivial rfl rfl (fun wq hsq => mv (v := .bool false) rfl) ?_
   refine qk false rfl rfl rfl rfl rfl ?_
   refine qk false rfl rfl rfl rfl rfl ?_
   refine qk false rfl rfl rfl rfl rfl ?_
   refine qk false rfl rfl rfl rfl rfl ?_
   refine qku rfl rfl rfl rfl rfl ?_
   refine qku rfl rfl rfl rfl rfl ?_
   refine qku rfl rfl rfl rfl rfl ?_
   refine qku rfl rfl rfl rfl rfl ?_
   refine qku rfl rfl rfl rfl rfl ?_
   refine qk false rfl rfl rfl rfl rfl ?_
   refine qq trivial rfl rfl (fun wq hsq => pf (v := .bool false) rfl rfl) ?_
   refine qq trivial rfl rfl (fun wq hsq => asg (v := .bool false) rfl) ?_
   refine qn (fun w7 hs7 => ?_)
   refine nN ?_
   refine rt ?_
   refine fret (v := .bool false) (.tmp .nil) rfl ?_
   have e4 : false = fitB (l, n, b) (hostT ak aq an) apt := by first | exact (fit_yes (sufZ (by assumption) (by assumption)) (.inl (by assumption))).symm | exact fit_port (sufZ (by assumption) (by assumption)) (by assumption) | exact (fit_no1 (sufZ2 (by assumption))).symm | exact (fit_no1 (sufZ1 (by assumption))).symm
   exact ⟨(congrArg (Value.bool) e4), (hs7.pick [] rfl (by decide))⟩

theorem iAllow {Azs : Option Addr} {czs : Nat} (zs : List (List UInt8 × Int × Bool)) (ak : Int) {Aaq : Option Addr} {caq : Nat} (aq : List Int) (an : List UInt8) (apt : Int) (w : World) (hzs : Sl w [] 3 Azs zs.length czs (zs.flatMap gRule)) (hzs_e : ∀ u ∈ zs, u.1.length ≤ 9223372036854775807) (haq : Sl w [] 1 Aaq aq.length caq (aq.map I)) (han_n : an.length ≤ 1099511627776) (hok : addrOk ak aq an apt = true) (hGp : Lib.TabIs Tryd.prog w "internal/strconv.uint64pow10" .u64 Lib.pow10Tab) : Does Tryd.prog 27 [.slice Azs zs.length czs, .agg #[I ak, .slice Aaq aq.length caq, Str an, I apt]] w (fun v w' => v = .bool (allowL zs (hostT ak aq an) apt) ∧ SH w w' [] []) := by
 refine fn_enter (N := 33) Tryd.func27 rfl (by kernel_rfl) rfl rfl rfl ?_
 have hs0 : SH w w [] [] := SH.refl w []
 have hzs_m : zs.length ≤ 9223372036854775807 := Nat.le_trans hzs.cap hzs.capMax
 have haq_m : aq.length ≤ 9223372036854775807 := Nat.le_trans haq.cap haq.capMax
 refine sq ?_
 refine rg ?_
 refine bx (v := .agg #[I ak, .slice Aaq aq.length caq, Str an, I apt]) (cs := [I ak, .slice Aaq aq.length caq, Str an, I apt]) hs0 rfl rfl trivial rfl (fun b1 w1 (hs1 : SH w w1 [] [.blk b1 26 [I ak, .slice Aaq aq.length caq, Str an, I apt]]) => ?_)
 refine q trivial rfl rfl (asg (v := .bool false) rfl) ?_
 refine nl ?_
 refine nN ?_
 refine sq ?_
 refine sq ?_
 refine rg ?_
 refine q trivial rfl rfl (mv (v := .slice Azs zs.length czs) rfl) ?_
 refine q trivial rfl rfl (lnA (n := zs.length) sl23 rfl) ?_
 refine q trivial rfl rfl (mv (v := I 0) rfl) ?_
 refine nl ?_
 refine nN ?_
 refine bl ?_
 refine lp (σ := Nat) (fun (k : Nat) f w' => Has f [(3, pB b1), (7, .slice Azs zs.length czs), (8, I ((zs.length : Nat) : Int)), (9, I ((k : Nat) : Int))] ∧ (k ≤ zs.length) ∧ (∀ j, j < k → fitB (zs.getD j rule0) (hostT ak aq an) apt = false) ∧ SH w w' [] [.blk b1 26 [I ak, .slice Aaq aq.length caq, Str an, I apt]]) (fun k => zs.length - k) 0 ⟨⟨rfl, rfl, rfl, rfl, trivial⟩, (by simp), (by intro j hj; omega), hs1⟩ ?_
 rintro k f w2 ⟨hf, hk, hn, hs2⟩
 obtain ⟨g1, rfl⟩ := has_upd hf
 clear hf
 refine sq ?_
 refine rg ?_
 refine q trivial rfl rfl (lss (k := .i64) (a := ((k : Nat) : Int)) (b := ((zs.length : Nat) : Int)) rfl rfl) ?_
 refine nl ?_
 refine nN ?_
 refine sq ?_
 refine cdd (p := ((k : Nat) : Int) < ((zs.length : Nat) : Int)) rfl (fun h1 => ?_) (fun h1 => ?_)
 · refine sk ?_
   refine nN ?_
   refine sq ?_
   refine bl ?_
   refine sq ?_
   refine rg ?_
   refine ixwf (g := gRule) (zs := zs) (fun _ => rfl) rule0 k sl23 rfl rfl hzs (by first | (first | omega | (simp; done) | (simp; omega)) | (have hre := hzs_e _ (getD_mem' (d := rule0) (show k < zs.length by omega)); have hhl := hostT_len hok; first | omega | (simp; done) | (simp; omega))) (by first | (first | omega | (simp; done) | (simp; omega)) | (have hre := hzs_e _ (getD_mem' (d := rule0) (show k < zs.length by omega)); have hhl := hostT_len hok; first | omega | (simp; done) | (simp; omega))) trivial rfl (fun a1 ha1 => ?_)
   refine q trivial rfl rfl (ldag (us := [Str ((zs.getD k rule0).1), I ((zs.getD k rule0).2.1), .bool ((zs.getD k rule0).2.2)]) hs2 ha1 (fun _ h => h) rfl rfl ag33) ?_
   refine al (v := .agg #[Str [], I 0, .bool false]) (cs := [Str [], I 0, .bool false]) hs2 tz33 rfl trivial rfl (fun b2 w3 (hs3 : SH w w3 [] [.blk b1 26 [I ak, .slice Aaq aq.length caq, Str an, I apt], .blk b2 33 [Str [], I 0, .bool false]]) => ?_)
   refine stg (vs := [Str ((zs.getD k rule0).1), I ((zs.getD k rule0).2.1), .bool ((zs.getD k rule0).2.2)]) hs3 1 rfl rfl rfl rfl rfl rfl rfl ag33 trivial (fun w4 (hs4 : SH w w4 [] [.blk b1 26 [I ak, .slice Aaq aq.length caq, Str an, I apt], .blk b2 33 [Str ((zs.getD k rule0).1), I ((zs.getD k rule0).2.1), .bool ((zs.getD k rule0).2.2)]]) => ?_)
   refine nl ?_
   refine nN ?_
   refine sq ?_
   refine rq (fun w' => SH w w' [] [.blk b1 26 [I ak, .slice Aaq aq.length caq, Str an, I apt], .blk b2 33 [Str ((zs.getD k rule0).1), I ((zs.getD k rule0).2.1), .bool ((zs.getD k rule0).2.2)]]) mixed (by kernel_rfl) hs4.drew ?_
   refine qq trivial rfl rfl (fun wq hsq => ldg (vs := [I ak, .slice Aaq aq.length caq, Str an, I apt]) hsq 0 rfl rfl rfl rfl ag26) ?_
   refine qc (Str (hostT ak aq an)) trivial rfl (fun wq hsq => (iHostText (ak := ak) (Aaq := Aaq) (caq := caq) (aq := aq) (an := an) (apt := apt) (w := _) (haq := (haq.up0 hsq)) (han_n := (by first | (first | omega | (simp; done) | (simp; omega)) | (have hre := hzs_e _ (getD_mem' (d := rule0) (show k < zs.length by omega)); have hhl := hostT_len hok; first | omega | (simp; done) | (simp; omega)))) (hok := (by first | (first | omega | assumption | (simp; done) | (simp; omega)) | (have hre := hzs_e _ (getD_mem' (d := rule0) (show k < zs.length by omega)); have hhl := hostT_len hok; first | omega | assumption | (simp; done) | (simp; omega)))) (hGp := (tab_up hGp hsq))).mono (fun v w' h => ⟨h.1, by simpa using hsq.call0 h.2⟩)) ?_
   refine qq trivial rfl rfl (fun wq hsq => fa 0 fo33_0 rfl) ?_
   refine qq trivial rfl rfl (fun wq hsq => ld (v := Str ((zs.getD k rule0).1)) hsq 1 rfl rfl rfl one9) ?_
   refine qc (.bool (decide (sufP (hostT ak aq an) ((zs.getD k rule0).1)))) trivial rfl (fun wq hsq => (stHasSuffix (s := hostT ak aq an) (t := (zs.getD k rule0).1) (w := _) (hs_n := (by first | (first | omega | (simp; done) | (simp; omega)) | (have hre := hzs_e _ (getD_mem' (d := rule0) (show k < zs.length by omega)); have hhl := hostT_len hok; first | omega | (simp; done) | (simp; omega)))) (ht_n := (by first | (first | omega | (simp; done) | (simp; omega)) | (have hre := hzs_e _ (getD_mem' (d := rule0) (show k < zs.length by omega)); have hhl := hostT_len hok; first | omega | (simp; done) | (simp; omega))))).mono (fun v w' h => ⟨h.1, by simpa using hsq.call0 h.2⟩)) ?_
   refine qq trivial rfl rfl (fun wq hsq => mv (v := .bool (decide (sufP (hostT ak aq an) ((zs.getD k rule0).1)))) rfl) ?_
   refine qspd (p := sufP (hostT ak aq an) ((zs.getD k rule0).1)) 18 rfl (fun h2 => ?_) (fun h2 => ?_)
   · refine qq ⟨_, rfl, rfl⟩ rfl rfl (fun wq hsq => fa 1 fo33_1 rfl) ?_
     refine qq ⟨_, rfl, rfl⟩ rfl rfl (fun wq hsq => ld (v := I ((zs.getD k rule0).2.1)) hsq 1 rfl rfl rfl one3) ?_
     refine qq ⟨_, rfl, rfl⟩ rfl rfl (fun wq hsq => eqi (k := .i64) (a := (zs.getD k rule0).2.1) (b := 0) rfl rfl) ?_
     refine qq ⟨_, rfl, rfl⟩ rfl rfl (fun wq hsq => mv (v := .bool (decide (((zs.getD k rule0).2.1) = 0))) rfl) ?_
     refine qspd (p := ((zs.getD k rule0).2.1) = 0) 22 rfl (fun h3 => ?_) (fun h3 => ?_)
     · refine qk true rfl rfl rfl rfl rfl ?_
       refine qk true rfl rfl rfl rfl rfl ?_
       refine qk true rfl rfl rfl rfl rfl ?_
       refine qk true rfl rfl rfl rfl rfl ?_
       refine qk true rfl rfl rfl rfl rfl ?_
       refine qq ⟨_, rfl, rfl⟩ rfl rfl (fun wq hsq => pt (v := .bool true) rfl rfl) ?_
       refine qq trivial rfl rfl (fun wq hsq => pt (v := .bool true) rfl rfl) ?_
       refine qn (fun w5 hs5 => ?_)
       refine nN ?_
       refine cdt rfl ?_
       refine sq ?_
       refine rg ?_
       refine q trivial rfl rfl (fa 2 fo33_2 rfl) ?_
       refine q trivial rfl rfl (ld (v := .bool ((zs.getD k rule0).2.2)) hs5 1 rfl rfl rfl one4) ?_
       refine q trivial rfl rfl (asg (v := .bool ((zs.getD k rule0).2.2)) rfl) ?_
       refine nl ?_
       refine nN ?_
       refine rt (bR (tR (tR (bR (tR ?_)))))
       refine fret (v := .bool ((zs.getD k rule0).2.2)) (.tmp .nil) rfl ?_
       have e1 : ((zs.getD k rule0).2.2) = allowL zs (hostT ak aq an) apt := by first | exact (allow_yes (by omega) hn (fit_yes (by assumption) (.inl (by assumption)))).symm | exact (allow_yes (by omega) hn (fit_yes (by assumption) (.inr (by assumption)))).symm | exact (allow_none (by omega) hn).symm
       exact ⟨(congrArg (Value.bool) e1), (hs5.pick [] rfl (by decide))⟩
     · refine qq ⟨_, rfl, rfl⟩ rfl rfl (fun wq hsq => fa 1 fo33_1 rfl) ?_
       refine qq ⟨_, rfl, rfl⟩ rfl rfl (fun wq hsq => ld (v := I ((zs.getD k rule0).2.1)) hsq 1 rfl rfl rfl one3) ?_
       refine qq ⟨_, rfl, rfl⟩ rfl rfl (fun wq hsq => fa 3 fo26_3 rfl) ?_
       refine qq ⟨_, rfl, rfl⟩ rfl rfl (fun wq hsq => ld (v := I apt) hsq 0 rfl rfl rfl one3) ?_
       refine qq ⟨_, rfl, rfl⟩ rfl rfl (fun wq hsq => eqi (k := .i64) (a := (zs.getD k rule0).2.1) (b := apt) rfl rfl) ?_
       refine qq ⟨_, rfl, rfl⟩ rfl rfl (fun wq hsq => pf (v := .bool (decide (((zs.getD k rule0).2.1) = apt))) rfl rfl) ?_
       refine qq trivial rfl rfl (fun wq hsq => pt (v := .bool (decide (((zs.getD k rule0).2.1) = apt))) rfl rfl) ?_
       refine qn (fun w6 hs6 => ?_)
       refine nN ?_
       refine cdd (p := ((zs.getD k rule0).2.1) = apt) rfl (fun h4 => ?_) (fun h4 => ?_)
       · refine sq ?_
         refine rg ?_
         refine q trivial rfl rfl (fa 2 fo33_2 rfl) ?_
         refine q trivial rfl rfl (ld (v := .bool ((zs.getD k rule0).2.2)) hs6 1 rfl rfl rfl one4) ?_
         refine q trivial rfl rfl (asg (v := .bool ((zs.getD k rule0).2.2)) rfl) ?_
         refine nl ?_
         refine nN ?_
         refine rt (bR (tR (tR (bR (tR ?_)))))
         refine fret (v := .bool ((zs.getD k rule0).2.2)) (.tmp .nil) rfl ?_
         have e2 : ((zs.getD k rule0).2.2) = allowL zs (hostT ak aq an) apt := by first | exact (allow_yes (by omega) hn (fit_yes (by assumption) (.inl (by assumption)))).symm | exact (allow_yes (by omega) hn (fit_yes (by assumption) (.inr (by assumption)))).symm | exact (allow_none (by omega) hn).symm
         exact ⟨(congrArg (Value.bool) e2), (hs6.pick [] rfl (by decide))⟩
       · refine sk ?_
         refine bN ?_
         refine nN ?_
         refine rg ?_
         refine q trivial rfl rfl (add (a := ((k : Nat) : Int)) (b := 1) rfl rfl (by first | (exact ⟨by omega, by omega⟩) | (have hre := hzs_e _ (getD_mem' (d := rule0) (show k < zs.length by omega)); have hhl := hostT_len hok; exact ⟨by omega, by omega⟩))) ?_
         refine q trivial rfl rfl (mv (v := I (((k : Nat) : Int) + 1)) rfl) ?_
         refine nl ?_
         refine nN ?_
         refine ⟨(k + 1), ⟨⟨rfl, rfl, rfl, rfl, trivial⟩, (by omega), (by intro j hj; rcases Nat.lt_succ_iff_lt_or_eq.1 hj with h | h; exact hn j h; subst h; first | exact fit_no1 (by assumption) | exact fit_no2 (by assumption) (by assumption)), (hs6.pick [0] rfl (by decide))⟩, ?_⟩
         omega
   · refine qk false rfl rfl rfl rfl rfl ?_
     refine qk false rfl rfl rfl rfl rfl ?_
     refine qk false rfl rfl rfl rfl rfl ?_
     refine qk false rfl rfl rfl rfl rfl ?_
     refine qku rfl rfl rfl rfl rfl ?_
     refine qku rfl rfl rfl rfl rfl ?_
     refine qku rfl rfl rfl rfl rfl ?_
     refine qku rfl rfl rfl rfl rfl ?_
     refine qku rfl rfl rfl rfl rfl ?_
     refine qk false rfl rfl rfl rfl rfl ?_
     refine qq trivial rfl rfl (fun wq hsq => pf (v := .bool false) rfl rfl) ?_
     refine qn (fun w7 hs7 => ?_)
     refine nN ?_
     refine cdf rfl ?_
     refine sk ?_
     refine bN ?_
     refine nN ?_
     refine rg ?_
     refine q trivial rfl rfl (add (a := ((k : Nat) : Int)) (b := 1) rfl rfl (by first | (exact ⟨by omega, by omega⟩) | (have hre := hzs_e _ (getD_mem' (d := rule0) (show k < zs.length by omega)); have hhl := hostT_len hok; exact ⟨by omega, by omega⟩))) ?_
     refine q trivial rfl rfl (mv (v := I (((k : Nat) : Int) + 1)) rfl) ?_
     refine nl ?_
     refine nN ?_
     refine ⟨(k + 1), ⟨⟨rfl, rfl, rfl, rfl, trivial⟩, (by omega), (by intro j hj; rcases Nat.lt_succ_iff_lt_or_eq.1 hj with h | h; exact hn j h; subst h; first | exact fit_no1 (by assumption) | exact fit_no2 (by assumption) (by assumption)), (hs7.pick [0] rfl (by decide))⟩, ?_⟩
     omega
 · refine ex (tE (tE (bE ?_)))
   refine nN ?_
   refine sq ?_
   refine rg ?_
   refine q trivial rfl rfl (asg (v := .bool false) rfl) ?_
   refine nl ?_
   refine nN ?_
   refine rt ?_
   refine fret (v := .bool false) (.tmp .nil) rfl ?_
   have e3 : false = allowL zs (hostT ak aq an) apt := by first | exact (allow_yes (by omega) hn (fit_yes (by assumption) (.inl (by assumption)))).symm | exact (allow_yes (by omega) hn (fit_yes (by assumption) (.inr (by assumption)))).symm | exact (allow_none (by omega) hn).symm
   exact ⟨(congrArg (Value.bool) e3), (hs2.pick [] rfl (by decide))⟩

theorem iRulesAllow {Azs : Option Addr} {czs : Nat} (zs : List (List UInt8 × Int × Bool)) (ak : Int) {Aaq : Option Addr} {caq : Nat} (aq : List Int) (an : List UInt8) (apt : Int) (w : World) (hzs : Sl w [] 3 Azs zs.length czs (zs.flatMap gRule)) (hzs_e : ∀ u ∈ zs, u.1.length ≤ 9223372036854775807) (haq : Sl w [] 1 Aaq aq.length caq (aq.map I)) (han_n : an.length ≤ 1099511627776) (hGp : Lib.TabIs Tryd.prog w "internal/strconv.uint64pow10" .u64 Lib.pow10Tab) : Does Tryd.prog 11 [.slice Azs zs.length czs, .agg #[I ak, .slice Aaq aq.length caq, Str an, I apt]] w (fun v w' => v = .bool (rulesAllow zs ak aq an apt) ∧ SH w w' [] []) := by
 refine fn_enter (N := 16) Tryd.func11 rfl (by kernel_rfl) rfl rfl rfl ?_
 have hs0 : SH w w [] [] := SH.refl w []
 have hzs_m : zs.length ≤ 9223372036854775807 := Nat.le_trans hzs.cap hzs.capMax
 have haq_m : aq.length ≤ 9223372036854775807 := Nat.le_trans haq.cap haq.capMax
 refine sq ?_
 refine rg ?_
 refine bx (v := .agg #[I ak, .slice Aaq aq.length caq, Str an, I apt]) (cs := [I ak, .slice Aaq aq.length caq, Str an, I apt]) hs0 rfl rfl trivial rfl (fun b1 w1 (hs1 : SH w w1 [] [.blk b1 26 [I ak, .slice Aaq aq.length caq, Str an, I apt]]) => ?_)
 refine q trivial rfl rfl (asg (v := .bool false) rfl) ?_
 refine nl ?_
 refine nN ?_
 refine sq ?_
 refine rg ?_
 refine q trivial rfl rfl (mv (v := .slice Azs zs.length czs) rfl) ?_
 refine cl trivial rfl (iRulesValid (Azs := Azs) (czs := czs) (zs := zs) (w := _) (hzs := (hzs.up0 hs1)) (hzs_e := hzs_e)) ?_
 rintro _ w2 ⟨rfl, hs2'⟩
 have hs2 : SH w w2 [] [.blk b1 26 [I ak, .slice Aaq aq.length caq, Str an, I apt]] := hs1.call0 hs2'
 clear hs2'
 refine q trivial rfl rfl (mv (v := .bool (rulesOk zs)) rfl) ?_
 refine spl (b := rulesOk zs) 7 rfl (fun h1 => ?_) (fun h1 => ?_)
 · refine q ⟨_, rfl, rfl⟩ rfl rfl (ldg (vs := [I ak, .slice Aaq aq.length caq, Str an, I apt]) hs2 0 rfl rfl rfl rfl ag26) ?_
   refine cl ⟨_, rfl, rfl⟩ rfl (iAddressValid (ak := ak) (Aaq := Aaq) (caq := caq) (aq := aq) (an := an) (apt := apt) (w := _) (haq := (haq.up0 hs2)) (han_n := (by first | omega | (simp; done) | (simp; omega)))) ?_
   rintro _ w3 ⟨rfl, hs3'⟩
   have hs3 : SH w w3 [] [.blk b1 26 [I ak, .slice Aaq aq.length caq, Str an, I apt]] := hs2.call0 hs3'
   clear hs3'
   refine q trivial rfl rfl (pt (v := .bool (addrOk ak aq an apt)) rfl rfl) ?_
   refine q trivial rfl rfl (mv (v := .bool (addrOk ak aq an apt)) rfl) ?_
   refine spl (b := addrOk ak aq an apt) 11 rfl (fun h2 => ?_) (fun h2 => ?_)
   · refine q ⟨_, rfl, rfl⟩ rfl rfl (mv (v := .slice Azs zs.length czs) rfl) ?_
     refine q ⟨_, rfl, rfl⟩ rfl rfl (ldg (vs := [I ak, .slice Aaq aq.length caq, Str an, I apt]) hs3 0 rfl rfl rfl rfl ag26) ?_
     refine cl ⟨_, rfl, rfl⟩ rfl (iAllow (Azs := Azs) (czs := czs) (zs := zs) (ak := ak) (Aaq := Aaq) (caq := caq) (aq := aq) (an := an) (apt := apt) (w := _) (hzs := (hzs.up0 hs3)) (hzs_e := hzs_e) (haq := (haq.up0 hs3)) (han_n := (by first | omega | (simp; done) | (simp; omega))) (hok := (by first | omega | assumption | (simp; done) | (simp; omega))) (hGp := (tab_up hGp hs3))) ?_
     rintro _ w4 ⟨rfl, hs4'⟩
     have hs4 : SH w w4 [] [.blk b1 26 [I ak, .slice Aaq aq.length caq, Str an, I apt]] := hs3.call0 hs4'
     clear hs4'
     refine q trivial rfl rfl (pt (v := .bool (allowL zs (hostT ak aq an) apt)) rfl rfl) ?_
     refine q trivial rfl rfl (asg (v := .bool (allowL zs (hostT ak aq an) apt)) rfl) ?_
     refine nl ?_
     refine nN ?_
     refine rt ?_
     refine fret (v := .bool (allowL zs (hostT ak aq an) apt)) (.tmp .nil) rfl ?_
     have e1 : (allowL zs (hostT ak aq an) apt) = rulesAllow zs ak aq an apt := by first | (simp [rulesAllow, h1, h2]; done) | exact (rulesAllow_no (.inl (by assumption))).symm | exact (rulesAllow_no (.inr (by assumption))).symm
     exact ⟨(congrArg (Value.bool) e1), (hs4.pick [] rfl (by decide))⟩
   · refine gk false rfl rfl rfl rfl rfl ?_
     refine gk false rfl rfl rfl rfl rfl ?_
     refine gk false rfl rfl rfl rfl rfl ?_
     refine q trivial rfl rfl (pf (v := .bool false) rfl rfl) ?_
     refine q trivial rfl rfl (asg (v := .bool false) rfl) ?_
     refine nl ?_
     refine nN ?_
     refine rt ?_
     refine fret (v := .bool false) (.tmp .nil) rfl ?_
     have e2 : false = rulesAllow zs ak aq an apt := by first | (simp [rulesAllow, h1, h2]; done) | exact (rulesAllow_no (.inl (by assumption))).symm | exact (rulesAllow_no (.inr (by assumption))).symm
     exact ⟨(congrArg (Value.bool) e2), (hs3.pick [] rfl (by decide))⟩
 · refine gk false rfl rfl rfl rfl rfl ?_
   refine gk false rfl rfl rfl rfl rfl ?_
   refine q trivial rfl rfl (pf (v := .bool false) rfl rfl) ?_
   refine q trivial rfl rfl (mv (v := .bool false) rfl) ?_
   refine gk false rfl rfl rfl rfl rfl ?_
   refine gk false rfl rfl rfl rfl rfl ?_
   refine gk false rfl rfl rfl rfl rfl ?_
   refine q trivial rfl rfl (pf (v := .bool false) rfl rfl) ?_
   refine q trivial rfl rfl (asg (v := .bool false) rfl) ?_
   refine nl ?_
   refine nN ?_
   refine rt ?_
   refine fret (v := .bool false) (.tmp .nil) rfl ?_
   have e3 : false = rulesAllow zs ak aq an apt := by first | (simp [rulesAllow, h1]; done) | exact (rulesAllow_no (.inl (by assumption))).symm | exact (rulesAllow_no (.inr (by assumption))).symm
   exact ⟨(congrArg (Value.bool) e3), (hs2.pick [] rfl (by decide))⟩

theorem sRulesAllow {Azs : Option Addr} {czs : Nat} (zs : List (List UInt8 × Int × Bool)) (ak : Int) {Aaq : Option Addr} {caq : Nat} (aq : List Int) (an : List UInt8) (apt : Int) (w : World) (hzs : Sl w [] 3 Azs zs.length czs (zs.flatMap gRule)) (hzs_e : ∀ u ∈ zs, u.1.length ≤ 9223372036854775807) (haq : Sl w [] 1 Aaq aq.length caq (aq.map I)) (han_n : an.length ≤ 1099511627776) : Does Tryd.prog 12 [.slice Azs zs.length czs, .agg #[I ak, .slice Aaq aq.length caq, Str an, I apt]] w (fun v w' => v = .bool (rulesAllow zs ak aq an apt) ∧ SH w w' [] []) := by
 refine fn_enter (N := 31) Tryd.func12 rfl (by kernel_rfl) rfl rfl rfl ?_
 have hs0 : SH w w [] [] := SH.refl w []
 have hzs_m : zs.length ≤ 9223372036854775807 := Nat.le_trans hzs.cap hzs.capMax
 have haq_m : aq.length ≤ 9223372036854775807 := Nat.le_trans haq.cap haq.capMax
 refine sq ?_
 refine rg ?_
 refine bx (v := .agg #[I ak, .slice Aaq aq.length caq, Str an, I apt]) (cs := [I ak, .slice Aaq aq.length caq, Str an, I apt]) hs0 rfl rfl trivial rfl (fun b1 w1 (hs1 : SH w w1 [] [.blk b1 26 [I ak, .slice Aaq aq.length caq, Str an, I apt]]) => ?_)
 refine q trivial rfl rfl (asg (v := .bool false) rfl) ?_
 refine nl ?_
 refine nN ?_
 refine sq ?_
 refine sq ?_
 refine rg ?_
 refine q trivial rfl rfl (asg (v := I 0) rfl) ?_
 refine nl ?_
 refine nN ?_
 refine bl ?_
 refine lp (σ := Nat) (fun (k : Nat) f w' => Has f [(0, .slice Azs zs.length czs), (3, pB b1), (5, I ((k : Nat) : Int))] ∧ (k ≤ zs.length) ∧ (∀ j, j < k → fitB (zs.getD j rule0) (hostT ak aq an) apt = false) ∧ SH w w' [] [.blk b1 26 [I ak, .slice Aaq aq.length caq, Str an, I apt]]) (fun k => zs.length - k) 0 ⟨⟨rfl, rfl, rfl, trivial⟩, (by simp), (by intro j hj; omega), hs1⟩ ?_
 rintro k f w2 ⟨hf, hk, hn, hs2⟩
 obtain ⟨g1, rfl⟩ := has_upd hf
 clear hf
 refine sq ?_
 refine sq ?_
 refine rg ?_
 refine q trivial rfl rfl (mv (v := I ((k : Nat) : Int)) rfl) ?_
 refine q trivial rfl rfl (mv (v := .slice Azs zs.length czs) rfl) ?_
 refine q trivial rfl rfl (lnA (n := zs.length) sl23 rfl) ?_
 refine q trivial rfl rfl (lss (k := .i64) (a := ((k : Nat) : Int)) (b := ((zs.length : Nat) : Int)) rfl rfl) ?_
 refine q trivial rfl rfl (mv (v := .bool (decide (((k : Nat) : Int) < ((zs.length : Nat) : Int)))) rfl) ?_
 refine spd (p := ((k : Nat) : Int) < ((zs.length : Nat) : Int)) 10 rfl (fun h1 => ?_) (fun h1 => ?_)
 · refine q ⟨_, rfl, rfl⟩ rfl rfl (mv (v := .slice Azs zs.length czs) rfl) ?_
   refine cl ⟨_, rfl, rfl⟩ rfl (sRulesValid (Azs := Azs) (czs := czs) (zs := zs) (w := _) (hzs := (hzs.up0 hs2)) (hzs_e := hzs_e)) ?_
   rintro _ w3 ⟨rfl, hs3'⟩
   have hs3 : SH w w3 [] [.blk b1 26 [I ak, .slice Aaq aq.length caq, Str an, I apt]] := hs2.call0 hs3'
   clear hs3'
   refine q trivial rfl rfl (pt (v := .bool (rulesOk zs)) rfl rfl) ?_
   refine q trivial rfl rfl (mv (v := .bool (rulesOk zs)) rfl) ?_
   refine spl (b := rulesOk zs) 14 rfl (fun h2 => ?_) (fun h2 => ?_)
   · refine q ⟨_, rfl, rfl⟩ rfl rfl (ldg (vs := [I ak, .slice Aaq aq.length caq, Str an, I apt]) hs3 0 rfl rfl rfl rfl ag26) ?_
     refine cl ⟨_, rfl, rfl⟩ rfl (sAddressValid (ak := ak) (Aaq := Aaq) (caq := caq) (aq := aq) (an := an) (apt := apt) (w := _) (haq := (haq.up0 hs3)) (han_n := (by first | (first | omega | (simp; done) | (simp; omega)) | (have hre := hzs_e _ (getD_mem' (d := rule0) (show k < zs.length by omega)); first | omega | (simp; done) | (simp; omega))))) ?_
     rintro _ w4 ⟨rfl, hs4'⟩
     have hs4 : SH w w4 [] [.blk b1 26 [I ak, .slice Aaq aq.length caq, Str an, I apt]] := hs3.call0 hs4'
     clear hs4'
     refine q trivial rfl rfl (pt (v := .bool (addrOk ak aq an apt)) rfl rfl) ?_
     refine nl ?_
     refine nN ?_
     refine cd (b := addrOk ak aq an apt) rfl (fun h3 => ?_) (fun h3 => ?_)
     · refine sk ?_
       refine nN ?_
       refine sq ?_
       refine bl ?_
       refine sq ?_
       refine rq (fun w' => SH w w' [] [.blk b1 26 [I ak, .slice Aaq aq.length caq, Str an, I apt]]) mixed (by kernel_rfl) hs4.drew ?_
       refine qq trivial rfl rfl (fun wq hsq => mv (v := .slice Azs zs.length czs) rfl) ?_
       refine qq trivial rfl rfl (fun wq hsq => mv (v := I ((k : Nat) : Int)) rfl) ?_
       refine ixqf (g := gRule) (zs := zs) (fun _ => rfl) rule0 k sl23 rfl rfl hzs (by first | (first | omega | (simp; done) | (simp; omega)) | (have hre := hzs_e _ (getD_mem' (d := rule0) (show k < zs.length by omega)); first | omega | (simp; done) | (simp; omega))) (by first | (first | omega | (simp; done) | (simp; omega)) | (have hre := hzs_e _ (getD_mem' (d := rule0) (show k < zs.length by omega)); first | omega | (simp; done) | (simp; omega))) trivial rfl (fun a1 ha1 => ?_)
       refine qq trivial rfl rfl (fun wq hsq => ldag (us := [Str ((zs.getD k rule0).1), I ((zs.getD k rule0).2.1), .bool ((zs.getD k rule0).2.2)]) hsq ha1 (fun _ h => h) rfl rfl ag33) ?_
       refine qq trivial rfl rfl (fun wq hsq => ldg (vs := [I ak, .slice Aaq aq.length caq, Str an, I apt]) hsq 0 rfl rfl rfl rfl ag26) ?_
       refine qc (.bool (fitB (((zs.getD k rule0).1), ((zs.getD k rule0).2.1), ((zs.getD k rule0).2.2)) (hostT ak aq an) apt)) trivial rfl (fun wq hsq => (sL32Fits (l := (zs.getD k rule0).1) (n := (zs.getD k rule0).2.1) (b := ((zs.getD k rule0).2.2)) (ak := ak) (Aaq := Aaq) (caq := caq) (aq := aq) (an := an) (apt := apt) (w := _) (hl_n := (by first | (first | omega | (simp; done) | (simp; omega)) | (have hre := hzs_e _ (getD_mem' (d := rule0) (show k < zs.length by omega)); first | omega | (simp; done) | (simp; omega)))) (haq := (haq.up0 hsq)) (han_n := (by first | (first | omega | (simp; done) | (simp; omega)) | (have hre := hzs_e _ (getD_mem' (d := rule0) (show k < zs.length by omega)); first | omega | (simp; done) | (simp; omega)))) (hok := (by first | (first | omega | assumption | (simp; done) | (simp; omega)) | (have hre := hzs_e _ (getD_mem' (d := rule0) (show k < zs.length by omega)); first | omega | assumption | (simp; done) | (simp; omega))))).mono (fun v w' h => ⟨h.1, by simpa using hsq.call0 h.2⟩)) ?_
       refine qn (fun w5 hs5 => ?_)
       refine nN ?_
       refine cd (b := fitB (((zs.getD k rule0).1), ((zs.getD k rule0).2.1), ((zs.getD k rule0).2.2)) (hostT ak aq an) apt) rfl (fun h4 => ?_) (fun h4 => ?_)
       · refine sq ?_
         refine rg ?_
         refine q trivial rfl rfl (mv (v := .slice Azs zs.length czs) rfl) ?_
         refine q trivial rfl rfl (mv (v := I ((k : Nat) : Int)) rfl) ?_
         refine ixwf (g := gRule) (zs := zs) (fun _ => rfl) rule0 k sl23 rfl rfl hzs (by first | (first | omega | (simp; done) | (simp; omega)) | (have hre := hzs_e _ (getD_mem' (d := rule0) (show k < zs.length by omega)); first | omega | (simp; done) | (simp; omega))) (by first | (first | omega | (simp; done) | (simp; omega)) | (have hre := hzs_e _ (getD_mem' (d := rule0) (show k < zs.length by omega)); first | omega | (simp; done) | (simp; omega))) trivial rfl (fun a2 ha2 => ?_)
         refine q trivial rfl rfl (fap 2 fo33_2 rfl) ?_
         refine q trivial rfl rfl (ldf (v := .bool ((zs.getD k rule0).2.2)) 2 hs5 ha2 (fun _ h => h) rfl rfl one4) ?_
         refine q trivial rfl rfl (asg (v := .bool ((zs.getD k rule0).2.2)) rfl) ?_
         refine nl ?_
         refine nN ?_
         refine rt (bR (tR (tR (bR (tR ?_)))))
         refine fret (v := .bool ((zs.getD k rule0).2.2)) (.tmp .nil) rfl ?_
         have e1 : ((zs.getD k rule0).2.2) = rulesAllow zs ak aq an apt := by first | (rw [rulesAllow_ok (by assumption) (by assumption)]; exact (allow_yes (by omega) hn (by assumption)).symm) | exact (rulesAllow_no (.inl (by assumption))).symm | exact (rulesAllow_no (.inr (by assumption))).symm | exact (rulesAllow_end (by omega) hn).symm
         exact ⟨(congrArg (Value.bool) e1), (hs5.pick [] rfl (by decide))⟩
       · refine sk ?_
         refine bN ?_
         refine nN ?_
         refine rg ?_
         refine q trivial rfl rfl (mv (v := I ((k : Nat) : Int)) rfl) ?_
         refine q trivial rfl rfl (add (a := ((k : Nat) : Int)) (b := 1) rfl rfl (by first | (exact ⟨by omega, by omega⟩) | (have hre := hzs_e _ (getD_mem' (d := rule0) (show k < zs.length by omega)); exact ⟨by omega, by omega⟩))) ?_
         refine q trivial rfl rfl (asg (v := I (((k : Nat) : Int) + 1)) rfl) ?_
         refine nl ?_
         refine nN ?_
         refine ⟨(k + 1), ⟨⟨rfl, rfl, rfl, trivial⟩, (by omega), (by intro j hj; rcases Nat.lt_succ_iff_lt_or_eq.1 hj with h | h; exact hn j h; subst h; assumption), hs5⟩, ?_⟩
         omega
     · refine ex (tE (tE (bE ?_)))
       refine nN ?_
       refine sq ?_
       refine rg ?_
       refine q trivial rfl rfl (asg (v := .bool false) rfl) ?_
       refine nl ?_
       refine nN ?_
       refine rt ?_
       refine fret (v := .bool false) (.tmp .nil) rfl ?_
       have e2 : false = rulesAllow zs ak aq an apt := by first | (rw [rulesAllow_ok (by assumption) (by assumption)]; exact (allow_yes (by omega) hn (by assumption)).symm) | exact (rulesAllow_no (.inl (by assumption))).symm | exact (rulesAllow_no (.inr (by assumption))).symm | exact (rulesAllow_end (by omega) hn).symm
       exact ⟨(congrArg (Value.bool) e2), (hs4.pick [] rfl (by decide))⟩
   · refine gk false rfl rfl rfl rfl rfl ?_
     refine gk false rfl rfl rfl rfl rfl ?_
     refine q trivial rfl rfl (pf (v := .bool false) rfl rfl) ?_
     refine nl ?_
     refine nN ?_
     refine cdf rfl ?_
     refine ex (tE (tE (bE ?_)))
     refine nN ?_
     refine sq ?_
     refine rg ?_
     refine q trivial rfl rfl (asg (v := .bool false) rfl) ?_
     refine nl ?_
     refine nN ?_
     refine rt ?_
     refine fret (v := .bool false) (.tmp .nil) rfl ?_
     have e3 : false = rulesAllow zs ak aq an apt := by first | (rw [rulesAllow_ok (by assumption) (by assumption)]; exact (allow_yes (by omega) hn (by assumption)).symm) | exact (rulesAllow_no (.inl (by assumption))).symm | exact (rulesAllow_no (.inr (by assumption))).symm | exact (rulesAllow_end (by omega) hn).symm
     exact ⟨(congrArg (Value.bool) e3), (hs3.pick [] rfl (by decide))⟩
 · refine gk false rfl rfl rfl rfl rfl ?_
   refine gk false rfl rfl rfl rfl rfl ?_
   refine q trivial rfl rfl (pf (v := .bool false) rfl rfl) ?_
   refine q trivial rfl rfl (mv (v := .bool false) rfl) ?_
   refine gk false rfl rfl rfl rfl rfl ?_
   refine gk false rfl rfl rfl rfl rfl ?_
   refine q trivial rfl rfl (pf (v := .bool false) rfl rfl) ?_
   refine nl ?_
   refine nN ?_
   refine cdf rfl ?_
   refine ex (tE (tE (bE ?_)))
   refine nN ?_
   refine sq ?_
   refine rg ?_
   refine q trivial rfl rfl (asg (v := .bool false) rfl) ?_
   refine nl ?_
   refine nN ?_
   refine rt ?_
   refine fret (v := .bool false) (.tmp .nil) rfl ?_
   have e4 : false = rulesAllow zs ak aq an apt := by first | (rw [rulesAllow_ok (by assumption) (by assumption)]; exact (allow_yes (by omega) hn (by assumption)).symm) | exact (rulesAllow_no (.inl (by assumption))).symm | exact (rulesAllow_no (.inr (by assumption))).symm | exact (rulesAllow_end (by omega) hn).symm
   exact ⟨(congrArg (Value.bool) e4), (hs2.pick [] rfl (by decide))⟩

set_option maxHeartbeats 8000000 in
theorem drawRulesAllow {Acs : Option Addr} {ccs : Nat} (cs : List UInt8) (w : World) (hcs : Sl w [] 1 Acs cs.length ccs (cs.map U)) : Does Tryd.prog 10 [.slice Acs cs.length ccs] w (fun v w' => ∃ Ar : Option Addr, ∃ cr : Nat, ∃ Aqr : Option Addr, ∃ cqr : Nat, ∃ r : List (List UInt8 × Int × Bool), ∃ ak : Int, ∃ aq : List Int, ∃ an : List UInt8, ∃ apt : Int, v = .tuple #[.slice Ar r.length cr, .agg #[.int .i64 ak, .slice Aqr aq.length cqr, Str an, .int .i64 apt]] ∧ (r.length ≤ 8) ∧ ((∀ u ∈ r, u.1.length ≤ 5)) ∧ (aq.length ≤ 4) ∧ (an.length ≤ 21) ∧ SH w w' [] [.own Ar r.length cr 33 3 (r.flatMap gRule), .own Aqr aq.length cqr 3 1 (aq.map I)]) := by
 refine fn_enter (N := 29) Tryd.func10 rfl (by kernel_rfl) rfl rfl rfl ?_
 have hs0 : SH w w [] [] := SH.refl w []
 have hcs_m : cs.length ≤ 9223372036854775807 := Nat.le_trans hcs.cap hcs.capMax
 refine sq ?_
 refine rg ?_
 refine q trivial rfl rfl (asg (v := ns) rfl) ?_
 refine al (v := .agg #[I 0, ns, Str [], I 0]) (cs := [I 0, ns, Str [], I 0]) hs0 tz26 rfl trivial rfl (fun b1 w1 (hs1 : SH w w1 [] [.blk b1 26 [I 0, ns, Str [], I 0]]) => ?_)
 refine nl ?_
 refine nN ?_
 refine sq ?_
 refine rg ?_
 refine q trivial rfl rfl (mv (v := .slice Acs cs.length ccs) rfl) ?_
 refine cl trivial rfl (l6Open (Acs := Acs) (ccs := ccs) (cs := cs) (w := _) (hcs := (hcs.up0 hs1))) ?_
 rintro _ w2 ⟨g1, rfl, hs2'⟩
 have hs2 : SH w w2 [] [.blk b1 26 [I 0, ns, Str [], I 0], .blk g1 66 [.slice Acs ((cs.take 2000).length) ccs, I 0]] := hs1.call0 hs2'
 clear hs2'
 refine q trivial rfl rfl (asg (v := pB g1) rfl) ?_
 refine nl ?_
 refine nN ?_
 refine sq ?_
 refine rg ?_
 refine q trivial rfl rfl (mv (v := pB g1) rfl) ?_
 refine cl trivial rfl (l92Rules (rb := g1) (Ab := Acs) (cb := ccs) (bs := cs.take 2000) (p := 0) (w := _) (hr := (blk_heap hs2 1 rfl)) (hb := (Sl.take_ (hcs.up hs2 (by simp) (fun k h => .inr (hs2.lo1 1 rfl k h))) 2000)) (hbn := (by first | assumption | (simp; omega))) (hp := (by omega))) ?_
 rintro _ w3 ⟨A1, c1, r1, q1, rfl, p1, p2, p3, hs3'⟩
 have hs3 : SH w w3 [] [.blk b1 26 [I 0, ns, Str [], I 0], .blk g1 66 [.slice Acs ((cs.take 2000).length) ccs, I ((q1 : Nat) : Int)], .own A1 r1.length c1 33 3 (r1.flatMap gRule)] := hs2.callM 1 rfl hs3' (by intro k hk; simp at hk; exact hk.symm)
 clear hs3'
 refine q trivial rfl rfl (bdv (v := .agg #[Str [], I 0, .bool true]) [(0, Str []), (2, .bool true)] rfl (fun _ => by kernel_rfl)) ?_
 refine bsk hs3 sl23 [.agg #[Str [], I 0, .bool true]] [Str [], I 0, .bool true] trivial rfl (fun b2 w4 (hs4 : SH w w4 [] [.blk b1 26 [I 0, ns, Str [], I 0], .blk g1 66 [.slice Acs ((cs.take 2000).length) ccs, I ((q1 : Nat) : Int)], .own A1 r1.length c1 33 3 (r1.flatMap gRule), .own (some ⟨b2, 0, none⟩) (([(([], 0, true) : List UInt8 × Int × Bool)] : List (List UInt8 × Int × Bool)).length) 1 33 3 (([(([], 0, true) : List UInt8 × Int × Bool)] : List (List UInt8 × Int × Bool)).flatMap gRule)]) => ?_)
 refine apf (g := gRule) (ys := r1) (zs := ([(([], 0, true) : List UInt8 × Int × Bool)] : List (List UInt8 × Int × Bool))) hs4 2 rfl sl23 rfl (by decide) rfl rfl (hs4.sl0 3 rfl) (fun _ => rfl) (by unfold maxLen; first | omega | (simp; done) | (simp; omega)) (by first | omega | (simp; done) | (simp; omega)) trivial rfl (fun A2 c2 w5 (hs5 : SH w w5 [] [.blk b1 26 [I 0, ns, Str [], I 0], .blk g1 66 [.slice Acs ((cs.take 2000).length) ccs, I ((q1 : Nat) : Int)], .own (some ⟨b2, 0, none⟩) (([(([], 0, true) : List UInt8 × Int × Bool)] : List (List UInt8 × Int × Bool)).length) 1 33 3 (([(([], 0, true) : List UInt8 × Int × Bool)] : List (List UInt8 × Int × Bool)).flatMap gRule), .own A2 ((r1 ++ ([(([], 0, true) : List UInt8 × Int × Bool)] : List (List UInt8 × Int × Bool))).length) c2 33 3 ((r1 ++ ([(([], 0, true) : List UInt8 × Int × Bool)] : List (List UInt8 × Int × Bool))).flatMap gRule)]) => ?_)
 refine q trivial rfl rfl (asg (v := .slice A2 ((r1 ++ ([(([], 0, true) : List UInt8 × Int × Bool)] : List (List UInt8 × Int × Bool))).length) c2) rfl) ?_
 refine nl ?_
 refine nN ?_
 refine sq ?_
 refine sq ?_
 refine rg ?_
 refine q trivial rfl rfl (mv (v := .slice A2 ((r1 ++ ([(([], 0, true) : List UInt8 × Int × Bool)] : List (List UInt8 × Int × Bool))).length) c2) rfl) ?_
 refine q trivial rfl rfl (lnA (n := (r1 ++ ([(([], 0, true) : List UInt8 × Int × Bool)] : List (List UInt8 × Int × Bool))).length) sl23 rfl) ?_
 refine q trivial rfl rfl (gtr (k := .i64) (a := (((r1 ++ ([(([], 0, true) : List UInt8 × Int × Bool)] : List (List UInt8 × Int × Bool))).length : Nat) : Int)) (b := 6) rfl rfl) ?_
 refine nl ?_
 refine nN ?_
 refine cdd (p := (6 : Int) < (((r1 ++ ([(([], 0, true) : List UInt8 × Int × Bool)] : List (List UInt8 × Int × Bool))).length : Nat) : Int)) rfl (fun h1 => ?_) (fun h1 => ?_)
 · refine rg ?_
   refine q trivial rfl rfl (mv (v := .slice A2 ((r1 ++ ([(([], 0, true) : List UInt8 × Int × Bool)] : List (List UInt8 × Int × Bool))).length) c2) rfl) ?_
   have hs6 : SH w w5 [] [.blk b1 26 [I 0, ns, Str [], I 0], .blk g1 66 [.slice Acs ((cs.take 2000).length) ccs, I ((q1 : Nat) : Int)], .own (some ⟨b2, 0, none⟩) (([(([], 0, true) : List UInt8 × Int × Bool)] : List (List UInt8 × Int × Bool)).length) 1 33 3 (([(([], 0, true) : List UInt8 × Int × Bool)] : List (List UInt8 × Int × Bool)).flatMap gRule), .own A2 6 c2 33 3 (((r1 ++ ([(([], 0, true) : List UInt8 × Int × Bool)] : List (List UInt8 × Int × Bool))).take 6).flatMap gRule)] := SH.truncf (g := gRule) (fun _ => rfl) hs5 3 (6) rfl (by first | omega | (simp; done) | (simp; omega) | (simp at *; omega))
   refine q trivial rfl rfl (cuh 6 sl23 rfl rfl (Nat.le_trans (by first | omega | (simp; done) | (simp; omega) | (simp at *; omega)) (own_cap hs5 3 rfl).1)) ?_
   refine q trivial rfl rfl (asg (v := .slice A2 6 c2) rfl) ?_
   have e1 : 6 = ((r1 ++ ([(([], 0, true) : List UInt8 × Int × Bool)] : List (List UInt8 × Int × Bool))).take 6).length := by first | rfl | (simp; done) | (simp; omega) | (simp at *; omega)
   have hs7 : SH w w5 [] [.blk b1 26 [I 0, ns, Str [], I 0], .blk g1 66 [.slice Acs ((cs.take 2000).length) ccs, I ((q1 : Nat) : Int)], .own (some ⟨b2, 0, none⟩) (([(([], 0, true) : List UInt8 × Int × Bool)] : List (List UInt8 × Int × Bool)).length) 1 33 3 (([(([], 0, true) : List UInt8 × Int × Bool)] : List (List UInt8 × Int × Bool)).flatMap gRule), .own A2 (((r1 ++ ([(([], 0, true) : List UInt8 × Int × Bool)] : List (List UInt8 × Int × Bool))).take 6).length) c2 33 3 (((r1 ++ ([(([], 0, true) : List UInt8 × Int × Bool)] : List (List UInt8 × Int × Bool))).take 6).flatMap gRule)] := (hs6.cast (lc rfl (lc rfl (lc rfl (lc (own_eqf (g := gRule) rfl e1 rfl rfl) rfl)))))
   refine re 5 (v := .slice A2 (((r1 ++ ([(([], 0, true) : List UInt8 × Int × Bool)] : List (List UInt8 × Int × Bool))).take 6).length) c2) (show (.slice A2 6 c2 : Value) = .slice A2 (((r1 ++ ([(([], 0, true) : List UInt8 × Int × Bool)] : List (List UInt8 × Int × Bool))).take 6).length) c2 from slv rfl e1 rfl) ?_
   refine nl ?_
   refine nN ?_
   refine sq ?_
   refine rg ?_
   refine q trivial rfl rfl (mv (v := pB g1) rfl) ?_
   refine cl trivial rfl (l91Address (rb := g1) (Ab := Acs) (cb := ccs) (bs := cs.take 2000) (p := q1) (w := _) (hr := (blk_heap hs7 1 rfl)) (hb := (Sl.take_ (hcs.up hs7 (by simp) (fun k h => .inr (hs7.lo1 1 rfl k h))) 2000)) (hbn := (by first | assumption | (simp; omega))) (hp := (by omega))) ?_
   rintro _ w6 ⟨Aq1, cq1, ak1, aq1, an1, apt1, q2, rfl, p4, p5, p6, hs8'⟩
   have hs8 : SH w w6 [] [.blk b1 26 [I 0, ns, Str [], I 0], .own (some ⟨b2, 0, none⟩) (([(([], 0, true) : List UInt8 × Int × Bool)] : List (List UInt8 × Int × Bool)).length) 1 33 3 (([(([], 0, true) : List UInt8 × Int × Bool)] : List (List UInt8 × Int × Bool)).flatMap gRule), .own A2 (((r1 ++ ([(([], 0, true) : List UInt8 × Int × Bool)] : List (List UInt8 × Int × Bool))).take 6).length) c2 33 3 (((r1 ++ ([(([], 0, true) : List UInt8 × Int × Bool)] : List (List UInt8 × Int × Bool))).take 6).flatMap gRule), .blk g1 66 [.slice Acs ((cs.take 2000).length) ccs, I ((q2 : Nat) : Int)], .own Aq1 aq1.length cq1 3 1 (aq1.map I)] := hs7.callM 1 rfl hs8' (by intro k hk; simp at hk; exact hk.symm)
   clear hs8'
   refine al (v := .agg #[I 0, ns, Str [], I 0]) (cs := [I 0, ns, Str [], I 0]) hs8 tz26 rfl trivial rfl (fun b3 w7 (hs9 : SH w w7 [] [.blk b1 26 [I 0, ns, Str [], I 0], .own (some ⟨b2, 0, none⟩) (([(([], 0, true) : List UInt8 × Int × Bool)] : List (List UInt8 × Int × Bool)).length) 1 33 3 (([(([], 0, true) : List UInt8 × Int × Bool)] : List (List UInt8 × Int × Bool)).flatMap gRule), .own A2 (((r1 ++ ([(([], 0, true) : List UInt8 × Int × Bool)] : List (List UInt8 × Int × Bool))).take 6).length) c2 33 3 (((r1 ++ ([(([], 0, true) : List UInt8 × Int × Bool)] : List (List UInt8 × Int × Bool))).take 6).flatMap gRule), .blk g1 66 [.slice Acs ((cs.take 2000).length) ccs, I ((q2 : Nat) : Int)], .own Aq1 aq1.length cq1 3 1 (aq1.map I), .blk b3 26 [I 0, ns, Str [], I 0]]) => ?_)
   refine stg (vs := [I ak1, .slice Aq1 aq1.length cq1, Str an1, I apt1]) hs9 5 rfl rfl rfl rfl rfl rfl rfl ag26 trivial (fun w8 (hs10 : SH w w8 [] [.blk b1 26 [I 0, ns, Str [], I 0], .own (some ⟨b2, 0, none⟩) (([(([], 0, true) : List UInt8 × Int × Bool)] : List (List UInt8 × Int × Bool)).length) 1 33 3 (([(([], 0, true) : List UInt8 × Int × Bool)] : List (List UInt8 × Int × Bool)).flatMap gRule), .own A2 (((r1 ++ ([(([], 0, true) : List UInt8 × Int × Bool)] : List (List UInt8 × Int × Bool))).take 6).length) c2 33 3 (((r1 ++ ([(([], 0, true) : List UInt8 × Int × Bool)] : List (List UInt8 × Int × Bool))).take 6).flatMap gRule), .blk g1 66 [.slice Acs ((cs.take 2000).length) ccs, I ((q2 : Nat) : Int)], .own Aq1 aq1.length cq1 3 1 (aq1.map I), .blk b3 26 [I ak1, .slice Aq1 aq1.length cq1, Str an1, I apt1]]) => ?_)
   refine nl ?_
   refine nN ?_
   refine sq ?_
   refine raJ (fun w' => ∃ L, SH w w' [] L ∧ (.blk b3 26 [I ak1, .slice Aq1 aq1.length cq1, Str an1, I apt1]) ∈ L ∧ True) (fun f w' => ∃ (r4' : Int) (q4' : Nat), Has f [(2, .slice A2 ((((r1 ++ ([(([], 0, true) : List UInt8 × Int × Bool)] : List (List UInt8 × Int × Bool))).take 6).take ((((((r1 ++ ([(([], 0, true) : List UInt8 × Int × Bool)] : List (List UInt8 × Int × Bool))).take 6).length : Nat) : Int) - r4').toNat)).length) c2), (3, pB b1)] ∧ (0 ≤ r4' ∧ (r4' < 2 ∨ r4' = 0)) ∧ (q4' ≤ q2 + 1) ∧ SH w w' [] [.blk b1 26 [I ak1, .slice Aq1 aq1.length cq1, Str an1, I apt1], .own (some ⟨b2, 0, none⟩) (([(([], 0, true) : List UInt8 × Int × Bool)] : List (List UInt8 × Int × Bool)).length) 1 33 3 (([(([], 0, true) : List UInt8 × Int × Bool)] : List (List UInt8 × Int × Bool)).flatMap gRule), .own A2 (((r1 ++ ([(([], 0, true) : List UInt8 × Int × Bool)] : List (List UInt8 × Int × Bool))).take 6).length) c2 33 3 (((r1 ++ ([(([], 0, true) : List UInt8 × Int × Bool)] : List (List UInt8 × Int × Bool))).take 6).flatMap gRule), .blk g1 66 [.slice Acs ((cs.take 2000).length) ccs, I ((q4' : Nat) : Int)], .own Aq1 aq1.length cq1 3 1 (aq1.map I), .blk b3 26 [I ak1, .slice Aq1 aq1.length cq1, Str an1, I apt1]]) mixed ?_ ?_
   · refine dag (fuel' := 1) (listed' := lbits 10 511) (fun f w' => ∃ (r4' : Int) (q4' : Nat), Has f [(2, .slice A2 ((((r1 ++ ([(([], 0, true) : List UInt8 × Int × Bool)] : List (List UInt8 × Int × Bool))).take 6).take ((((((r1 ++ ([(([], 0, true) : List UInt8 × Int × Bool)] : List (List UInt8 × Int × Bool))).take 6).length : Nat) : Int) - r4').toNat)).length) c2), (3, pB b1), (28, .agg #[I ak1, .slice Aq1 aq1.length cq1, Str an1, I apt1])] ∧ (0 ≤ r4' ∧ (r4' < 2 ∨ r4' = 0)) ∧ (q4' ≤ q2 + 1) ∧ SH w w' [] [.blk b1 26 [I 0, ns, Str [], I 0], .own (some ⟨b2, 0, none⟩) (([(([], 0, true) : List UInt8 × Int × Bool)] : List (List UInt8 × Int × Bool)).length) 1 33 3 (([(([], 0, true) : List UInt8 × Int × Bool)] : List (List UInt8 × Int × Bool)).flatMap gRule), .own A2 (((r1 ++ ([(([], 0, true) : List UInt8 × Int × Bool)] : List (List UInt8 × Int × Bool))).take 6).length) c2 33 3 (((r1 ++ ([(([], 0, true) : List UInt8 × Int × Bool)] : List (List UInt8 × Int × Bool))).take 6).flatMap gRule), .blk g1 66 [.slice Acs ((cs.take 2000).length) ccs, I ((q4' : Nat) : Int)], .own Aq1 aq1.length cq1 3 1 (aq1.map I), .blk b3 26 [I ak1, .slice Aq1 aq1.length cq1, Str an1, I apt1]]) ?_ (fun D_6_0 => ?_)
     · rintro f w9 ⟨r4', q4', hf, p7, p8, hs11⟩
       obtain ⟨g2, rfl⟩ := has_upd hf
       clear hf
       refine aaL [9] (fa_one ?_)
       refine one_ rfl ?_
       refine stg (vs := [I ak1, .slice Aq1 aq1.length cq1, Str an1, I apt1]) hs11 0 rfl rfl rfl rfl rfl rfl rfl ag26 trivial (fun w10 hs12 => ?_)
       refine nl (kq ⟨_, hs12, memi 4 rfl, trivial⟩ ?_)
       refine ad (by kernel_rfl) ?_
       exact ⟨r4', q4', ⟨rfl, rfl, trivial⟩, p7, p8, (hs12.pick [5, 0, 1, 2, 3, 4] rfl (by decide))⟩
     refine dag (fuel' := 5) (listed' := lbits 10 143) (fun f w' => Has f [(2, ns), (3, pB b1), (21, .slice A2 (((r1 ++ ([(([], 0, true) : List UInt8 × Int × Bool)] : List (List UInt8 × Int × Bool))).take 6).length) c2), (23, I ((((r1 ++ ([(([], 0, true) : List UInt8 × Int × Bool)] : List (List UInt8 × Int × Bool))).take 6).length : Nat) : Int)), (24, pB g1), (28, .agg #[I ak1, .slice Aq1 aq1.length cq1, Str an1, I apt1])] ∧ SH w w' [] [.blk b1 26 [I 0, ns, Str [], I 0], .own (some ⟨b2, 0, none⟩) (([(([], 0, true) : List UInt8 × Int × Bool)] : List (List UInt8 × Int × Bool)).length) 1 33 3 (([(([], 0, true) : List UInt8 × Int × Bool)] : List (List UInt8 × Int × Bool)).flatMap gRule), .own A2 (((r1 ++ ([(([], 0, true) : List UInt8 × Int × Bool)] : List (List UInt8 × Int × Bool))).take 6).length) c2 33 3 (((r1 ++ ([(([], 0, true) : List UInt8 × Int × Bool)] : List (List UInt8 × Int × Bool))).take 6).flatMap gRule), .blk g1 66 [.slice Acs ((cs.take 2000).length) ccs, I ((q2 : Nat) : Int)], .own Aq1 aq1.length cq1 3 1 (aq1.map I), .blk b3 26 [I ak1, .slice Aq1 aq1.length cq1, Str an1, I apt1]]) ?_ (fun D_6_1 => ?_)
     · rintro f w11 ⟨hf, hs13⟩
       obtain ⟨g3, rfl⟩ := has_upd hf
       clear hf
       refine aaL [4] (fa_one ?_)
       refine one_ rfl ?_
       refine cl trivial rfl (pick (rb := g1) (Ab := Acs) (cb := ccs) (bs := cs.take 2000) (p := q2) (n := 2) (w := _) (hr := (blk_heap hs13 3 rfl)) (hb := (Sl.take_ (hcs.up hs13 (by simp) (fun k h => .inr (hs13.lo1 3 rfl k h))) 2000)) (hbn := (by first | assumption | (simp; omega))) (hp := (by omega))) ?_
       rintro _ w12 ⟨r4', q4', rfl, p9, p10, hs14'⟩
       have hs14 := hs13.callM 3 rfl hs14' (by intro k hk; simp at hk; exact hk.symm)
       clear hs14'
       refine nl (kq ⟨_, hs14, memi 4 rfl, trivial⟩ ?_)
       refine tk (fuel := 1) (is := [5, 6, 8]) (.cons rfl (.cons rfl (.cons rfl (.nil)))) (by kernel_rfl) (by kernel_rfl) ⟨_, hs14, memi 4 rfl, trivial⟩ ?_
       refine .op trivial rfl rfl (fun wq _ => sub (a := ((((r1 ++ ([(([], 0, true) : List UInt8 × Int × Bool)] : List (List UInt8 × Int × Bool))).take 6).length : Nat) : Int)) (b := r4') rfl rfl (by exact ⟨by omega, by omega⟩)) ?_
       refine .op trivial rfl rfl (fun wq _ => cuhf (zs := (r1 ++ ([(([], 0, true) : List UInt8 × Int × Bool)] : List (List UInt8 × Int × Bool))).take 6) ((((((r1 ++ ([(([], 0, true) : List UInt8 × Int × Bool)] : List (List UInt8 × Int × Bool))).take 6).length : Nat) : Int) - r4').toNat) sl23 rfl (ieq (x := ((((r1 ++ ([(([], 0, true) : List UInt8 × Int × Bool)] : List (List UInt8 × Int × Bool))).take 6).length : Nat) : Int) - r4') (by first | omega | (simp; omega) | (simp at *; omega))) (by first | omega | (simp; done) | (simp; omega) | (simp at *; omega)) (own_cap hs14 2 rfl).1) ?_
       refine .op trivial rfl rfl (fun wq _ => asg (v := .slice A2 ((((r1 ++ ([(([], 0, true) : List UInt8 × Int × Bool)] : List (List UInt8 × Int × Bool))).take 6).take ((((((r1 ++ ([(([], 0, true) : List UInt8 × Int × Bool)] : List (List UInt8 × Int × Bool))).take 6).length : Nat) : Int) - r4').toNat)).length) c2) rfl) ?_
       refine .nil ?_
       exact alc D_6_0 ⟨r4', q4', ⟨rfl, rfl, rfl, trivial⟩, p9, p10, (hs14.pick [0, 1, 2, 5, 3, 4] rfl (by decide))⟩
     have hs15 := hs10.drew
     refine tk (fuel := 5) (is := [0, 1, 2, 3, 7]) (.cons rfl (.cons rfl (.cons rfl (.cons rfl (.cons rfl (.nil)))))) (by kernel_rfl) (by kernel_rfl) ⟨_, hs15, memi 5 rfl, trivial⟩ ?_
     refine .op trivial rfl rfl (fun wq _ => mv (v := .slice A2 (((r1 ++ ([(([], 0, true) : List UInt8 × Int × Bool)] : List (List UInt8 × Int × Bool))).take 6).length) c2) rfl) ?_
     refine .op trivial rfl rfl (fun wq _ => mv (v := .slice A2 (((r1 ++ ([(([], 0, true) : List UInt8 × Int × Bool)] : List (List UInt8 × Int × Bool))).take 6).length) c2) rfl) ?_
     refine .op trivial rfl rfl (fun wq _ => lnA (n := ((r1 ++ ([(([], 0, true) : List UInt8 × Int × Bool)] : List (List UInt8 × Int × Bool))).take 6).length) sl23 rfl) ?_
     refine .op trivial rfl rfl (fun wq _ => mv (v := pB g1) rfl) ?_
     refine .op trivial rfl rfl (fun wq ⟨Lq, hsq, mh0, _⟩ => ldgm (vs := [I ak1, .slice Aq1 aq1.length cq1, Str an1, I apt1]) hsq mh0 rfl rfl rfl ag26) ?_
     refine .nil ?_
     exact alc D_6_1 ⟨⟨rfl, rfl, rfl, rfl, rfl, rfl, trivial⟩, hs15⟩
   rintro f w13 ⟨r4', q4', hf, p11, p12, hs16⟩
   obtain ⟨g4, rfl⟩ := has_upd hf
   clear hf
   refine nN ?_
   have hs17 : SH w w13 [] [.blk b1 26 [I ak1, .slice Aq1 aq1.length cq1, Str an1, I apt1], .own A2 (((r1 ++ ([(([], 0, true) : List UInt8 × Int × Bool)] : List (List UInt8 × Int × Bool))).take 6).length) c2 33 3 (((r1 ++ ([(([], 0, true) : List UInt8 × Int × Bool)] : List (List UInt8 × Int × Bool))).take 6).flatMap gRule), .own Aq1 aq1.length cq1 3 1 (aq1.map I)] := hs16.pick [0, 2, 4] rfl (by decide)
   refine rt ?_
   refine fret (v := .tuple #[.slice A2 ((((r1 ++ ([(([], 0, true) : List UInt8 × Int × Bool)] : List (List UInt8 × Int × Bool))).take 6).take ((((((r1 ++ ([(([], 0, true) : List UInt8 × Int × Bool)] : List (List UInt8 × Int × Bool))).take 6).length : Nat) : Int) - r4').toNat)).length) c2, .agg #[I ak1, .slice Aq1 aq1.length cq1, Str an1, I apt1]]) (.tmp (resC hs17 0 rfl rfl ag26 rfl .nil)) rfl ?_
   have hs18 : SH w w13 [] [.blk b1 26 [I ak1, .slice Aq1 aq1.length cq1, Str an1, I apt1], .own Aq1 aq1.length cq1 3 1 (aq1.map I), .own A2 ((((((r1 ++ ([(([], 0, true) : List UInt8 × Int × Bool)] : List (List UInt8 × Int × Bool))).take 6).length : Nat) : Int) - r4').toNat) c2 33 3 ((((r1 ++ ([(([], 0, true) : List UInt8 × Int × Bool)] : List (List UInt8 × Int × Bool))).take 6).take ((((((r1 ++ ([(([], 0, true) : List UInt8 × Int × Bool)] : List (List UInt8 × Int × Bool))).take 6).length : Nat) : Int) - r4').toNat)).flatMap gRule)] := SH.truncf (g := gRule) (fun _ => rfl) hs17 1 ((((((r1 ++ ([(([], 0, true) : List UInt8 × Int × Bool)] : List (List UInt8 × Int × Bool))).take 6).length : Nat) : Int) - r4').toNat) rfl (by first | omega | (simp; done) | (simp; omega) | (simp at *; omega))
   have e2 : (((((r1 ++ ([(([], 0, true) : List UInt8 × Int × Bool)] : List (List UInt8 × Int × Bool))).take 6).length : Nat) : Int) - r4').toNat = (((r1 ++ ([(([], 0, true) : List UInt8 × Int × Bool)] : List (List UInt8 × Int × Bool))).take 6).take ((((((r1 ++ ([(([], 0, true) : List UInt8 × Int × Bool)] : List (List UInt8 × Int × Bool))).take 6).length : Nat) : Int) - r4').toNat)).length := by first | (simp; omega) | (simp at *; omega)
   have hs19 : SH w w13 [] [.blk b1 26 [I ak1, .slice Aq1 aq1.length cq1, Str an1, I apt1], .own Aq1 aq1.length cq1 3 1 (aq1.map I), .own A2 ((((r1 ++ ([(([], 0, true) : List UInt8 × Int × Bool)] : List (List UInt8 × Int × Bool))).take 6).take ((((((r1 ++ ([(([], 0, true) : List UInt8 × Int × Bool)] : List (List UInt8 × Int × Bool))).take 6).length : Nat) : Int) - r4').toNat)).length) c2 33 3 ((((r1 ++ ([(([], 0, true) : List UInt8 × Int × Bool)] : List (List UInt8 × Int × Bool))).take 6).take ((((((r1 ++ ([(([], 0, true) : List UInt8 × Int × Bool)] : List (List UInt8 × Int × Bool))).take 6).length : Nat) : Int) - r4').toNat)).flatMap gRule)] := (hs18.cast (lc rfl (lc rfl (lc (own_eqf (g := gRule) rfl e2 rfl rfl) rfl))))
   exact ⟨A2, c2, Aq1, cq1, ((r1 ++ ([(([], 0, true) : List UInt8 × Int × Bool)] : List (List UInt8 × Int × Bool))).take 6).take ((((((r1 ++ ([(([], 0, true) : List UInt8 × Int × Bool)] : List (List UInt8 × Int × Bool))).take 6).length : Nat) : Int) - r4').toNat), ak1, aq1, an1, apt1, rfl, (by first | omega | (simp; omega)), (by intro u hu; exact draw_rules p2 u (by first | exact hu | exact List.mem_of_mem_take hu | exact List.mem_of_mem_take (List.mem_of_mem_take hu))), (by omega), (by omega), (hs19.pick [2, 1] rfl (by decide))⟩
 · refine sk ?_
   refine nN ?_
   refine sq ?_
   refine rg ?_
   refine q trivial rfl rfl (mv (v := pB g1) rfl) ?_
   refine cl trivial rfl (l91Address (rb := g1) (Ab := Acs) (cb := ccs) (bs := cs.take 2000) (p := q1) (w := _) (hr := (blk_heap hs5 1 rfl)) (hb := (Sl.take_ (hcs.up hs5 (by simp) (fun k h => .inr (hs5.lo1 1 rfl k h))) 2000)) (hbn := (by first | assumption | (simp; omega))) (hp := (by omega))) ?_
   rintro _ w14 ⟨Aq2, cq2, ak2, aq2, an2, apt2, q3, rfl, p13, p14, p15, hs20'⟩
   have hs20 : SH w w14 [] [.blk b1 26 [I 0, ns, Str [], I 0], .own (some ⟨b2, 0, none⟩) (([(([], 0, true) : List UInt8 × Int × Bool)] : List (List UInt8 × Int × Bool)).length) 1 33 3 (([(([], 0, true) : List UInt8 × Int × Bool)] : List (List UInt8 × Int × Bool)).flatMap gRule), .own A2 ((r1 ++ ([(([], 0, true) : List UInt8 × Int × Bool)] : List (List UInt8 × Int × Bool))).length) c2 33 3 ((r1 ++ ([(([], 0, true) : List UInt8 × Int × Bool)] : List (List UInt8 × Int × Bool))).flatMap gRule), .blk g1 66 [.slice Acs ((cs.take 2000).length) ccs, I ((q3 : Nat) : Int)], .own Aq2 aq2.length cq2 3 1 (aq2.map I)] := hs5.callM 1 rfl hs20' (by intro k hk; simp at hk; exact hk.symm)
   clear hs20'
   refine al (v := .agg #[I 0, ns, Str [], I 0]) (cs := [I 0, ns, Str [], I 0]) hs20 tz26 rfl trivial rfl (fun b4 w15 (hs21 : SH w w15 [] [.blk b1 26 [I 0, ns, Str [], I 0], .own (some ⟨b2, 0, none⟩) (([(([], 0, true) : List UInt8 × Int × Bool)] : List (List UInt8 × Int × Bool)).length) 1 33 3 (([(([], 0, true) : List UInt8 × Int × Bool)] : List (List UInt8 × Int × Bool)).flatMap gRule), .own A2 ((r1 ++ ([(([], 0, true) : List UInt8 × Int × Bool)] : List (List UInt8 × Int × Bool))).length) c2 33 3 ((r1 ++ ([(([], 0, true) : List UInt8 × Int × Bool)] : List (List UInt8 × Int × Bool))).flatMap gRule), .blk g1 66 [.slice Acs ((cs.take 2000).length) ccs, I ((q3 : Nat) : Int)], .own Aq2 aq2.length cq2 3 1 (aq2.map I), .blk b4 26 [I 0, ns, Str [], I 0]]) => ?_)
   refine stg (vs := [I ak2, .slice Aq2 aq2.length cq2, Str an2, I apt2]) hs21 5 rfl rfl rfl rfl rfl rfl rfl ag26 trivial (fun w16 (hs22 : SH w w16 [] [.blk b1 26 [I 0, ns, Str [], I 0], .own (some ⟨b2, 0, none⟩) (([(([], 0, true) : List UInt8 × Int × Bool)] : List (List UInt8 × Int × Bool)).length) 1 33 3 (([(([], 0, true) : List UInt8 × Int × Bool)] : List (List UInt8 × Int × Bool)).flatMap gRule), .own A2 ((r1 ++ ([(([], 0, true) : List UInt8 × Int × Bool)] : List (List UInt8 × Int × Bool))).length) c2 33 3 ((r1 ++ ([(([], 0, true) : List UInt8 × Int × Bool)] : List (List UInt8 × Int × Bool))).flatMap gRule), .blk g1 66 [.slice Acs ((cs.take 2000).length) ccs, I ((q3 : Nat) : Int)], .own Aq2 aq2.length cq2 3 1 (aq2.map I), .blk b4 26 [I ak2, .slice Aq2 aq2.length cq2, Str an2, I apt2]]) => ?_)
   refine nl ?_
   refine nN ?_
   refine sq ?_
   refine raJ (fun w' => ∃ L, SH w w' [] L ∧ (.blk b4 26 [I ak2, .slice Aq2 aq2.length cq2, Str an2, I apt2]) ∈ L ∧ True) (fun f w' => ∃ (r4'' : Int) (q4'' : Nat), Has f [(2, .slice A2 (((r1 ++ ([(([], 0, true) : List UInt8 × Int × Bool)] : List (List UInt8 × Int × Bool))).take (((((r1 ++ ([(([], 0, true) : List UInt8 × Int × Bool)] : List (List UInt8 × Int × Bool))).length : Nat) : Int) - r4'').toNat)).length) c2), (3, pB b1)] ∧ (0 ≤ r4'' ∧ (r4'' < 2 ∨ r4'' = 0)) ∧ (q4'' ≤ q3 + 1) ∧ SH w w' [] [.blk b1 26 [I ak2, .slice Aq2 aq2.length cq2, Str an2, I apt2], .own (some ⟨b2, 0, none⟩) (([(([], 0, true) : List UInt8 × Int × Bool)] : List (List UInt8 × Int × Bool)).length) 1 33 3 (([(([], 0, true) : List UInt8 × Int × Bool)] : List (List UInt8 × Int × Bool)).flatMap gRule), .own A2 ((r1 ++ ([(([], 0, true) : List UInt8 × Int × Bool)] : List (List UInt8 × Int × Bool))).length) c2 33 3 ((r1 ++ ([(([], 0, true) : List UInt8 × Int × Bool)] : List (List UInt8 × Int × Bool))).flatMap gRule), .blk g1 66 [.slice Acs ((cs.take 2000).length) ccs, I ((q4'' : Nat) : Int)], .own Aq2 aq2.length cq2 3 1 (aq2.map I), .blk b4 26 [I ak2, .slice Aq2 aq2.length cq2, Str an2, I apt2]]) mixed ?_ ?_
   · refine dag (fuel' := 1) (listed' := lbits 10 511) (fun f w' => ∃ (r4'' : Int) (q4'' : Nat), Has f [(2, .slice A2 (((r1 ++ ([(([], 0, true) : List UInt8 × Int × Bool)] : List (List UInt8 × Int × Bool))).take (((((r1 ++ ([(([], 0, true) : List UInt8 × Int × Bool)] : List (List UInt8 × Int × Bool))).length : Nat) : Int) - r4'').toNat)).length) c2), (3, pB b1), (28, .agg #[I ak2, .slice Aq2 aq2.length cq2, Str an2, I apt2])] ∧ (0 ≤ r4'' ∧ (r4'' < 2 ∨ r4'' = 0)) ∧ (q4'' ≤ q3 + 1) ∧ SH w w' [] [.blk b1 26 [I 0, ns, Str [], I 0], .own (some ⟨b2, 0, none⟩) (([(([], 0, true) : List UInt8 × Int × Bool)] : List (List UInt8 × Int × Bool)).length) 1 33 3 (([(([], 0, true) : List UInt8 × Int × Bool)] : List (List UInt8 × Int × Bool)).flatMap gRule), .own A2 ((r1 ++ ([(([], 0, true) : List UInt8 × Int × Bool)] : List (List UInt8 × Int × Bool))).length) c2 33 3 ((r1 ++ ([(([], 0, true) : List UInt8 × Int × Bool)] : List (List UInt8 × Int × Bool))).flatMap gRule), .blk g1 66 [.slice Acs ((cs.take 2000).length) ccs, I ((q4'' : Nat) : Int)], .own Aq2 aq2.length cq2 3 1 (aq2.map I), .blk b4 26 [I ak2, .slice Aq2 aq2.length cq2, Str an2, I apt2]]) ?_ (fun D_6_0 => ?_)
     · rintro f w17 ⟨r4'', q4'', hf, p16, p17, hs23⟩
       obtain ⟨g5, rfl⟩ := has_upd hf
       clear hf
       refine aaL [9] (fa_one ?_)
       refine one_ rfl ?_
       refine stg (vs := [I ak2, .slice Aq2 aq2.length cq2, Str an2, I apt2]) hs23 0 rfl rfl rfl rfl rfl rfl rfl ag26 trivial (fun w18 hs24 => ?_)
       refine nl (kq ⟨_, hs24, memi 4 rfl, trivial⟩ ?_)
       refine ad (by kernel_rfl) ?_
       exact ⟨r4'', q4'', ⟨rfl, rfl, trivial⟩, p16, p17, (hs24.pick [5, 0, 1, 2, 3, 4] rfl (by decide))⟩
     refine dag (fuel' := 5) (listed' := lbits 10 143) (fun f w' => Has f [(2, ns), (3, pB b1), (21, .slice A2 ((r1 ++ ([(([], 0, true) : List UInt8 × Int × Bool)] : List (List UInt8 × Int × Bool))).length) c2), (23, I (((r1 ++ ([(([], 0, true) : List UInt8 × Int × Bool)] : List (List UInt8 × Int × Bool))).length : Nat) : Int)), (24, pB g1), (28, .agg #[I ak2, .slice Aq2 aq2.length cq2, Str an2, I apt2])] ∧ SH w w' [] [.blk b1 26 [I 0, ns, Str [], I 0], .own (some ⟨b2, 0, none⟩) (([(([], 0, true) : List UInt8 × Int × Bool)] : List (List UInt8 × Int × Bool)).length) 1 33 3 (([(([], 0, true) : List UInt8 × Int × Bool)] : List (List UInt8 × Int × Bool)).flatMap gRule), .own A2 ((r1 ++ ([(([], 0, true) : List UInt8 × Int × Bool)] : List (List UInt8 × Int × Bool))).length) c2 33 3 ((r1 ++ ([(([], 0, true) : List UInt8 × Int × Bool)] : List (List UInt8 × Int × Bool))).flatMap gRule), .blk g1 66 [.slice Acs ((cs.take 2000).length) ccs, I ((q3 : Nat) : Int)], .own Aq2 aq2.length cq2 3 1 (aq2.map I), .blk b4 26 [I ak2, .slice Aq2 aq2.length cq2, Str an2, I apt2]]) ?_ (fun D_6_1 => ?_)
     · rintro f w19 ⟨hf, hs25⟩
       obtain ⟨g6, rfl⟩ := has_upd hf
       clear hf
       refine aaL [4] (fa_one ?_)
       refine one_ rfl ?_
       refine cl trivial rfl (pick (rb := g1) (Ab := Acs) (cb := ccs) (bs := cs.take 2000) (p := q3) (n := 2) (w := _) (hr := (blk_heap hs25 3 rfl)) (hb := (Sl.take_ (hcs.up hs25 (by simp) (fun k h => .inr (hs25.lo1 3 rfl k h))) 2000)) (hbn := (by first | assumption | (simp; omega))) (hp := (by omega))) ?_
       rintro _ w20 ⟨r4'', q4'', rfl, p18, p19, hs26'⟩
       have hs26 := hs25.callM 3 rfl hs26' (by intro k hk; simp at hk; exact hk.symm)
       clear hs26'
       refine nl (kq ⟨_, hs26, memi 4 rfl, trivial⟩ ?_)
       refine tk (fuel := 1) (is := [5, 6, 8]) (.cons rfl (.cons rfl (.cons rfl (.nil)))) (by kernel_rfl) (by kernel_rfl) ⟨_, hs26, memi 4 rfl, trivial⟩ ?_
       refine .op trivial rfl rfl (fun wq _ => sub (a := (((r1 ++ ([(([], 0, true) : List UInt8 × Int × Bool)] : List (List UInt8 × Int × Bool))).length : Nat) : Int)) (b := r4'') rfl rfl (by exact ⟨by omega, by omega⟩)) ?_
       refine .op trivial rfl rfl (fun wq _ => cuhf (zs := r1 ++ ([(([], 0, true) : List UInt8 × Int × Bool)] : List (List UInt8 × Int × Bool))) (((((r1 ++ ([(([], 0, true) : List UInt8 × Int × Bool)] : List (List UInt8 × Int × Bool))).length : Nat) : Int) - r4'').toNat) sl23 rfl (ieq (x := (((r1 ++ ([(([], 0, true) : List UInt8 × Int × Bool)] : List (List UInt8 × Int × Bool))).length : Nat) : Int) - r4'') (by first | omega | (simp; omega) | (simp at *; omega))) (by first | omega | (simp; done) | (simp; omega) | (simp at *; omega)) (own_cap hs26 2 rfl).1) ?_
       refine .op trivial rfl rfl (fun wq _ => asg (v := .slice A2 (((r1 ++ ([(([], 0, true) : List UInt8 × Int × Bool)] : List (List UInt8 × Int × Bool))).take (((((r1 ++ ([(([], 0, true) : List UInt8 × Int × Bool)] : List (List UInt8 × Int × Bool))).length : Nat) : Int) - r4'').toNat)).length) c2) rfl) ?_
       refine .nil ?_
       exact alc D_6_0 ⟨r4'', q4'', ⟨rfl, rfl, rfl, trivial⟩, p18, p19, (hs26.pick [0, 1, 2, 5, 3, 4] rfl (by decide))⟩
     have hs27 := hs22.drew
     refine tk (fuel := 5) (is := [0, 1, 2, 3, 7]) (.cons rfl (.cons rfl (.cons rfl (.cons rfl (.cons rfl (.nil)))))) (by kernel_rfl) (by kernel_rfl) ⟨_, hs27, memi 5 rfl, trivial⟩ ?_
     refine .op trivial rfl rfl (fun wq _ => mv (v := .slice A2 ((r1 ++ ([(([], 0, true) : List UInt8 × Int × Bool)] : List (List UInt8 × Int × Bool))).length) c2) rfl) ?_
     refine .op trivial rfl rfl (fun wq _ => mv (v := .slice A2 ((r1 ++ ([(([], 0, true) : List UInt8 × Int × Bool)] : List (List UInt8 × Int × Bool))).length) c2) rfl) ?_
     refine .op trivial rfl rfl (fun wq _ => lnA (n := (r1 ++ ([(([], 0, true) : List UInt8 × Int × Bool)] : List (List UInt8 × Int × Bool))).length) sl23 rfl) ?_
     refine .op trivial rfl rfl (fun wq _ => mv (v := pB g1) rfl) ?_
     refine .op trivial rfl rfl (fun wq ⟨Lq, hsq, mh0, _⟩ => ldgm (vs := [I ak2, .slice Aq2 aq2.length cq2, Str an2, I apt2]) hsq mh0 rfl rfl rfl ag26) ?_
     refine .nil ?_
     exact alc D_6_1 ⟨⟨rfl, rfl, rfl, rfl, rfl, rfl, trivial⟩, hs27⟩
   rintro f w21 ⟨r4'', q4'', hf, p20, p21, hs28⟩
   obtain ⟨g7, rfl⟩ := has_upd hf
   clear hf
   refine nN ?_
   have hs29 : SH w w21 [] [.blk b1 26 [I ak2, .slice Aq2 aq2.length cq2, Str an2, I apt2], .own A2 ((r1 ++ ([(([], 0, true) : List UInt8 × Int × Bool)] : List (List UInt8 × Int × Bool))).length) c2 33 3 ((r1 ++ ([(([], 0, true) : List UInt8 × Int × Bool)] : List (List UInt8 × Int × Bool))).flatMap gRule), .own Aq2 aq2.length cq2 3 1 (aq2.map I)] := hs28.pick [0, 2, 4] rfl (by decide)
   refine rt ?_
   refine fret (v := .tuple #[.slice A2 (((r1 ++ ([(([], 0, true) : List UInt8 × Int × Bool)] : List (List UInt8 × Int × Bool))).take (((((r1 ++ ([(([], 0, true) : List UInt8 × Int × Bool)] : List (List UInt8 × Int × Bool))).length : Nat) : Int) - r4'').toNat)).length) c2, .agg #[I ak2, .slice Aq2 aq2.length cq2, Str an2, I apt2]]) (.tmp (resC hs29 0 rfl rfl ag26 rfl .nil)) rfl ?_
   have hs30 : SH w w21 [] [.blk b1 26 [I ak2, .slice Aq2 aq2.length cq2, Str an2, I apt2], .own Aq2 aq2.length cq2 3 1 (aq2.map I), .own A2 (((((r1 ++ ([(([], 0, true) : List UInt8 × Int × Bool)] : List (List UInt8 × Int × Bool))).length : Nat) : Int) - r4'').toNat) c2 33 3 (((r1 ++ ([(([], 0, true) : List UInt8 × Int × Bool)] : List (List UInt8 × Int × Bool))).take (((((r1 ++ ([(([], 0, true) : List UInt8 × Int × Bool)] : List (List UInt8 × Int × Bool))).length : Nat) : Int) - r4'').toNat)).flatMap gRule)] := SH.truncf (g := gRule) (fun _ => rfl) hs29 1 (((((r1 ++ ([(([], 0, true) : List UInt8 × Int × Bool)] : List (List UInt8 × Int × Bool))).length : Nat) : Int) - r4'').toNat) rfl (by first | omega | (simp; done) | (simp; omega) | (simp at *; omega))
   have e3 : ((((r1 ++ ([(([], 0, true) : List UInt8 × Int × Bool)] : List (List UInt8 × Int × Bool))).length : Nat) : Int) - r4'').toNat = ((r1 ++ ([(([], 0, true) : List UInt8 × Int × Bool)] : List (List UInt8 × Int × Bool))).take (((((r1 ++ ([(([], 0, true) : List UInt8 × Int × Bool)] : List (List UInt8 × Int × Bool))).length : Nat) : Int) - r4'').toNat)).length := by first | (simp; omega) | (simp at *; omega)
   have hs31 : SH w w21 [] [.blk b1 26 [I ak2, .slice Aq2 aq2.length cq2, Str an2, I apt2], .own Aq2 aq2.length cq2 3 1 (aq2.map I), .own A2 (((r1 ++ ([(([], 0, true) : List UInt8 × Int × Bool)] : List (List UInt8 × Int × Bool))).take (((((r1 ++ ([(([], 0, true) : List UInt8 × Int × Bool)] : List (List UInt8 × Int × Bool))).length : Nat) : Int) - r4'').toNat)).length) c2 33 3 (((r1 ++ ([(([], 0, true) : List UInt8 × Int × Bool)] : List (List UInt8 × Int × Bool))).take (((((r1 ++ ([(([], 0, true) : List UInt8 × Int × Bool)] : List (List UInt8 × Int × Bool))).length : Nat) : Int) - r4'').toNat)).flatMap gRule)] := (hs30.cast (lc rfl (lc rfl (lc (own_eqf (g := gRule) rfl e3 rfl rfl) rfl))))
   exact ⟨A2, c2, Aq2, cq2, (r1 ++ ([(([], 0, true) : List UInt8 × Int × Bool)] : List (List UInt8 × Int × Bool))).take (((((r1 ++ ([(([], 0, true) : List UInt8 × Int × Bool)] : List (List UInt8 × Int × Bool))).length : Nat) : Int) - r4'').toNat), ak2, aq2, an2, apt2, rfl, (by first | omega | (simp; omega)), (by intro u hu; exact draw_rules p2 u (by first | exact hu | exact List.mem_of_mem_take hu | exact List.mem_of_mem_take (List.mem_of_mem_take hu))), (by omega), (by omega), (hs31.pick [2, 1] rfl (by decide))⟩

theorem iAddressText (ak : Int) {Aaq : Option Addr} {caq : Nat} (aq : List Int) (an : List UInt8) (apt : Int) (w : World) (haq : Sl w [] 1 Aaq aq.length caq (aq.map I)) (han_n : an.length ≤ 1099511627776) (hok : addrOk ak aq an apt = true) (hGp : Lib.TabIs Tryd.prog w "internal/strconv.uint64pow10" .u64 Lib.pow10Tab) : Does Tryd.prog 39 [.agg #[I ak, .slice Aaq aq.length caq, Str an, I apt]] w (fun v w' => v = Str (hostT ak aq an ++ [58] ++ Lib.itoa apt) ∧ SH w w' [] []) := by
 refine fn_enter (N := 10) Tryd.func39 rfl (by kernel_rfl) rfl rfl rfl ?_
 have hs0 : SH w w [] [] := SH.refl w []
 have haq_m : aq.length ≤ 9223372036854775807 := Nat.le_trans haq.cap haq.capMax
 refine sq ?_
 refine rg ?_
 refine bx (v := .agg #[I ak, .slice Aaq aq.length caq, Str an, I apt]) (cs := [I ak, .slice Aaq aq.length caq, Str an, I apt]) hs0 rfl rfl trivial rfl (fun b1 w1 (hs1 : SH w w1 [] [.blk b1 26 [I ak, .slice Aaq aq.length caq, Str an, I apt]]) => ?_)
 refine q trivial rfl rfl (asg (v := Str []) rfl) ?_
 refine nl ?_
 refine nN ?_
 refine sq ?_
 refine rq (fun w' => SH w w' [] [.blk b1 26 [I ak, .slice Aaq aq.length caq, Str an, I apt]]) mixed (by kernel_rfl) hs1.drew ?_
 refine qq trivial rfl rfl (fun wq hsq => ldg (vs := [I ak, .slice Aaq aq.length caq, Str an, I apt]) hsq 0 rfl rfl rfl rfl ag26) ?_
 refine qc (Str (hostT ak aq an)) trivial rfl (fun wq hsq => (iHostText (ak := ak) (Aaq := Aaq) (caq := caq) (aq := aq) (an := an) (apt := apt) (w := _) (haq := (haq.up0 hsq)) (han_n := (by first | (first | omega | (simp; done) | (simp; omega)) | (have haf := addrOk_fit hok; have hhl := hostT_len hok; have hil := Lib.itoa_length_le apt (by omega) (by omega); first | omega | (simp; done) | (simp; omega)))) (hok := (by first | (first | omega | assumption | (simp; done) | (simp; omega)) | (have haf := addrOk_fit hok; have hhl := hostT_len hok; have hil := Lib.itoa_length_le apt (by omega) (by omega); first | omega | assumption | (simp; done) | (simp; omega)))) (hGp := (tab_up hGp hsq))).mono (fun v w' h => ⟨h.1, by simpa using hsq.call0 h.2⟩)) ?_
 refine qq trivial rfl rfl (fun wq hsq => cat (l := hostT ak aq an) (m := [58]) rfl rfl (by have haf := addrOk_fit hok; have hhl := hostT_len hok; have hil := Lib.itoa_length_le apt (by omega) (by omega); simp only [List.length_append, List.length_cons, List.length_nil]; omega)) ?_
 refine qq trivial rfl rfl (fun wq hsq => fa 3 fo26_3 rfl) ?_
 refine qq trivial rfl rfl (fun wq hsq => ld (v := I apt) hsq 0 rfl rfl rfl one3) ?_
 refine qc (Str (Lib.itoa apt)) trivial rfl (fun wq hsq => (stItoa (n := apt) (w := _) (hn := (by first | (first | omega | assumption | (simp; done) | (simp; omega)) | (have haf := addrOk_fit hok; have hhl := hostT_len hok; have hil := Lib.itoa_length_le apt (by omega) (by omega); first | omega | assumption | (simp; done) | (simp; omega)))) (hGp := (tab_up hGp hsq))).mono (fun v w' h => ⟨h.1, by simpa using hsq.call0 h.2⟩)) ?_
 refine qq trivial rfl rfl (fun wq hsq => cat (l := (hostT ak aq an) ++ [58]) (m := Lib.itoa apt) rfl rfl (by have haf := addrOk_fit hok; have hhl := hostT_len hok; have hil := Lib.itoa_length_le apt (by omega) (by omega); simp only [List.length_append, List.length_cons, List.length_nil]; omega)) ?_
 refine qq trivial rfl rfl (fun wq hsq => asg (v := Str (((hostT ak aq an) ++ [58]) ++ (Lib.itoa apt))) rfl) ?_
 refine qn (fun w2 hs2 => ?_)
 refine nN ?_
 refine rt ?_
 refine fret (v := Str (((hostT ak aq an) ++ [58]) ++ (Lib.itoa apt))) (.tmp .nil) rfl ?_
 have e1 : ((hostT ak aq an) ++ [58]) ++ (Lib.itoa apt) = hostT ak aq an ++ [58] ++ Lib.itoa apt := by first | rfl | (simp; done) | (simp_all; done) | omega
 exact ⟨(congrArg (Str) e1), (hs2.pick [] rfl (by decide))⟩

theorem iAddressTextQ (ak : Int) {Aaq : Option Addr} {caq : Nat} (aq : List Int) (an : List UInt8) (apt : Int) (w : World) (haq : Sl w [] 1 Aaq aq.length caq (aq.map I)) (han_n : an.length ≤ 1099511627776) (hGp : Lib.TabIs Tryd.prog w "internal/strconv.uint64pow10" .u64 Lib.pow10Tab) : Does Tryd.prog 16 [.agg #[I ak, .slice Aaq aq.length caq, Str an, I apt]] w (fun v w' => v = Str (addrT ak aq an apt) ∧ SH w w' [] []) := by
 refine fn_enter (N := 8) Tryd.func16 rfl (by kernel_rfl) rfl rfl rfl ?_
 have hs0 : SH w w [] [] := SH.refl w []
 have haq_m : aq.length ≤ 9223372036854775807 := Nat.le_trans haq.cap haq.capMax
 refine sq ?_
 refine rg ?_
 refine bx (v := .agg #[I ak, .slice Aaq aq.length caq, Str an, I apt]) (cs := [I ak, .slice Aaq aq.length caq, Str an, I apt]) hs0 rfl rfl trivial rfl (fun b1 w1 (hs1 : SH w w1 [] [.blk b1 26 [I ak, .slice Aaq aq.length caq, Str an, I apt]]) => ?_)
 refine q trivial rfl rfl (asg (v := Str []) rfl) ?_
 refine nl ?_
 refine nN ?_
 refine sq ?_
 refine sq ?_
 refine rg ?_
 refine q trivial rfl rfl (ldg (vs := [I ak, .slice Aaq aq.length caq, Str an, I apt]) hs1 0 rfl rfl rfl rfl ag26) ?_
 refine cl trivial rfl (iAddressValid (ak := ak) (Aaq := Aaq) (caq := caq) (aq := aq) (an := an) (apt := apt) (w := _) (haq := (haq.up0 hs1)) (han_n := (by first | omega | (simp; done) | (simp; omega)))) ?_
 rintro _ w2 ⟨rfl, hs2'⟩
 have hs2 : SH w w2 [] [.blk b1 26 [I ak, .slice Aaq aq.length caq, Str an, I apt]] := hs1.call0 hs2'
 clear hs2'
 refine q trivial rfl rfl (nt (b := addrOk ak aq an apt) rfl) ?_
 refine nl ?_
 refine nN ?_
 refine cd (b := !(addrOk ak aq an apt)) rfl (fun h1 => ?_) (fun h1 => ?_)
 · have h2 : (addrOk ak aq an apt) = false := by simpa using h1
   refine sq ?_
   refine rg ?_
   refine q trivial rfl rfl (asg (v := Str []) rfl) ?_
   refine nl ?_
   refine nN ?_
   refine rt (tR ?_)
   refine fret (v := Str []) (.tmp .nil) rfl ?_
   have e1 : [] = addrT ak aq an apt := by simp [addrT, h2]
   exact ⟨(congrArg (Str) e1), (hs2.pick [] rfl (by decide))⟩
 · have h3 : (addrOk ak aq an apt) = true := by simpa using h1
   refine sk ?_
   refine nN ?_
   refine sq ?_
   refine rg ?_
   refine q trivial rfl rfl (ldg (vs := [I ak, .slice Aaq aq.length caq, Str an, I apt]) hs2 0 rfl rfl rfl rfl ag26) ?_
   refine cl trivial rfl (iAddressText (ak := ak) (Aaq := Aaq) (caq := caq) (aq := aq) (an := an) (apt := apt) (w := _) (haq := (haq.up0 hs2)) (han_n := (by first | omega | (simp; done) | (simp; omega))) (hok := (by first | omega | assumption | (simp; done) | (simp; omega))) (hGp := (tab_up hGp hs2))) ?_
   rintro _ w3 ⟨rfl, hs3'⟩
   have hs3 : SH w w3 [] [.blk b1 26 [I ak, .slice Aaq aq.length caq, Str an, I apt]] := hs2.call0 hs3'
   clear hs3'
   refine q trivial rfl rfl (asg (v := Str (hostT ak aq an ++ [58] ++ Lib.itoa apt)) rfl) ?_
   refine nl ?_
   refine nN ?_
   refine rt ?_
   refine fret (v := Str (hostT ak aq an ++ [58] ++ Lib.itoa apt)) (.tmp .nil) rfl ?_
   have e2 : hostT ak aq an ++ [58] ++ Lib.itoa apt = addrT ak aq an apt := by simp [addrT, h3]
   exact ⟨(congrArg (Str) e2), (hs3.pick [] rfl (by decide))⟩


end Go.Proofs.YtogejeniggngjaaDoor
