/-
  Part of the proofs over this seat: what each function of the program computes, function by function (the text is written by a program of this hand-in's own).
  Conditions: each theorem states its own.
-/
import Derived.Test.YtcgdccfofinheaaDoorPfWalks2
namespace Go.Proofs.YtcgdccfofinheaaDoor
open Go.PF
set_option maxRecDepth 100000
set_option linter.unusedSimpArgs false
set_option linter.unusedVariables false

theorem iAddressValid (ak : Int) {Aaq : Option Addr} {caq : Nat} (aq : List Int) (an : List UInt8) (apt : Int) (w : World) (haq : Sl w [] 1 Aaq aq.length caq (aq.map I)) (han_n : an.length ≤ 1099511627776) : Does Tryd.prog 40 [.agg #[I ak, .slice Aaq aq.length caq, Str an, I apt]] w (fun v w' => v = .bool (addrOk ak aq an apt) ∧ SH w w' [] []) := by
 refine fn_enter (N := 36) Tryd.func40 rfl (by kernel_rfl) rfl rfl rfl ?_
 have hs0 : SH w w [] [] := SH.refl w []
 have haq_m : aq.length ≤ 9223372036854775807 := Nat.le_trans haq.cap haq.capMax
 refine sq ?_
 refine rg ?_
 refine bx (v := .agg #[I ak, .slice Aaq aq.length caq, Str an, I apt]) (cs := [I ak, .slice Aaq aq.length caq, Str an, I apt]) hs0 rfl rfl trivial rfl (fun b1 w1 (hs1 : SH w w1 [] [.blk b1 25 [I ak, .slice Aaq aq.length caq, Str an, I apt]]) => ?_)
 refine q trivial rfl rfl (asg (v := .bool false) rfl) ?_
 refine nl ?_
 refine nN ?_
 refine sq ?_
 refine sq ?_
 refine rg ?_
 refine q trivial rfl rfl (fa 0 fo25_0 rfl) ?_
 refine q trivial rfl rfl (ld (v := I ak) hs1 0 rfl rfl rfl one3) ?_
 refine nl ?_
 refine nN ?_
 refine bl ?_
 refine sq ?_
 refine rg ?_
 refine q trivial rfl rfl (eqi (k := .i64) (a := ak) (b := 1) rfl rfl) ?_
 refine q trivial rfl rfl (asg (v := .bool (decide (ak = 1))) rfl) ?_
 refine nl ?_
 refine nN ?_
 refine cdd (p := ak = 1) rfl (fun h1 => ?_) (fun h1 => ?_)
 · refine sq ?_
   refine rg ?_
   refine q trivial rfl rfl (fa 1 fo25_1 rfl) ?_
   refine q trivial rfl rfl (ld (v := .slice Aaq aq.length caq) hs1 0 rfl rfl rfl one23) ?_
   refine cl trivial rfl (iQuadValid (Aqs := Aaq) (cqs := caq) (qs := aq) (w := _) (hqs := (haq.up0 hs1))) ?_
   rintro _ w2 ⟨rfl, hs2'⟩
   have hs2 : SH w w2 [] [.blk b1 25 [I ak, .slice Aaq aq.length caq, Str an, I apt]] := hs1.call0 hs2'
   clear hs2'
   refine q trivial rfl rfl (mv (v := .bool (quadOk aq)) rfl) ?_
   refine spl (b := quadOk aq) 10 rfl (fun h2 => ?_) (fun h2 => ?_)
   · refine q ⟨_, rfl, rfl⟩ rfl rfl (fa 2 fo25_2 rfl) ?_
     refine q ⟨_, rfl, rfl⟩ rfl rfl (ld (v := Str an) hs2 0 rfl rfl rfl one9) ?_
     refine q ⟨_, rfl, rfl⟩ rfl rfl (eqs (l := an) (m := []) rfl rfl) ?_
     refine q trivial rfl rfl (pt (v := .bool (decide (an = []))) rfl rfl) ?_
     refine q trivial rfl rfl (mv (v := .bool (decide (an = []))) rfl) ?_
     refine spd (p := an = []) 15 rfl (fun h3 => ?_) (fun h3 => ?_)
     · refine q ⟨_, rfl, rfl⟩ rfl rfl (fa 3 fo25_3 rfl) ?_
       refine q ⟨_, rfl, rfl⟩ rfl rfl (ld (v := I apt) hs2 0 rfl rfl rfl one3) ?_
       refine cl ⟨_, rfl, rfl⟩ rfl (isPort (x := apt) (w := _)) ?_
       rintro _ w3 ⟨rfl, hs3'⟩
       have hs3 : SH w w3 [] [.blk b1 25 [I ak, .slice Aaq aq.length caq, Str an, I apt]] := hs2.call0 hs3'
       clear hs3'
       refine q trivial rfl rfl (pt (v := .bool (decide (0 ≤ apt ∧ apt ≤ 65535))) rfl rfl) ?_
       refine q trivial rfl rfl (asg (v := .bool (decide (0 ≤ apt ∧ apt ≤ 65535))) rfl) ?_
       refine nl ?_
       refine nN ?_
       refine rt (bR (tR ?_))
       refine fret (v := .bool (decide (0 ≤ apt ∧ apt ≤ 65535))) (.tmp .nil) rfl ?_
       have e1 : (decide (0 ≤ apt ∧ apt ≤ 65535)) = addrOk ak aq an apt := by first | (rw [addr_is1 (by assumption)]; simp [h1, h2, h3]; done) | (rw [addr_is3 (by assumption)]; simp [h1, h2, h3]; done) | (rw [addr_is3 (by assumption)]; have hq0 : aq = [] := List.eq_nil_of_length_eq_zero (by omega); simp [hq0, h1, h2, h3]; done) | (rw [addr_is3 (by assumption)]; have hq0 : ¬ aq = [] := fun he => absurd (by rw [he]; rfl : ((aq.length : Nat) : Int) = 0) (by assumption); simp [hq0, h1, h2, h3]; done) | (rw [addr_is1 (by assumption)]; have hp0 : 0 ≤ apt ∧ apt ≤ 65535 := Decidable.not_not.1 (by assumption); simp [hp0.1, hp0.2, h1, h2, h3]; done) | (rw [addr_is3 (by assumption)]; have hp0 : 0 ≤ apt ∧ apt ≤ 65535 := Decidable.not_not.1 (by assumption); simp [hp0.1, hp0.2, h1, h2, h3]; done) | exact (addr_port _ _ (by assumption)).symm | exact (addr_no _ _ _ (by assumption) (by assumption)).symm
       exact ⟨(congrArg (Value.bool) e1), (hs3.pick [] rfl (by decide))⟩
     · refine gk false rfl rfl rfl rfl rfl ?_
       refine gk false rfl rfl rfl rfl rfl ?_
       refine gk false rfl rfl rfl rfl rfl ?_
       refine q trivial rfl rfl (pf (v := .bool false) rfl rfl) ?_
       refine q trivial rfl rfl (asg (v := .bool false) rfl) ?_
       refine nl ?_
       refine nN ?_
       refine rt (bR (tR ?_))
       refine fret (v := .bool false) (.tmp .nil) rfl ?_
       have e2 : false = addrOk ak aq an apt := by first | (rw [addr_is1 (by assumption)]; simp [h1, h2, h3]; done) | (rw [addr_is3 (by assumption)]; simp [h1, h2, h3]; done) | (rw [addr_is3 (by assumption)]; have hq0 : aq = [] := List.eq_nil_of_length_eq_zero (by omega); simp [hq0, h1, h2, h3]; done) | (rw [addr_is3 (by assumption)]; have hq0 : ¬ aq = [] := fun he => absurd (by rw [he]; rfl : ((aq.length : Nat) : Int) = 0) (by assumption); simp [hq0, h1, h2, h3]; done) | (rw [addr_is1 (by assumption)]; have hp0 : 0 ≤ apt ∧ apt ≤ 65535 := Decidable.not_not.1 (by assumption); simp [hp0.1, hp0.2, h1, h2, h3]; done) | (rw [addr_is3 (by assumption)]; have hp0 : 0 ≤ apt ∧ apt ≤ 65535 := Decidable.not_not.1 (by assumption); simp [hp0.1, hp0.2, h1, h2, h3]; done) | exact (addr_port _ _ (by assumption)).symm | exact (addr_no _ _ _ (by assumption) (by assumption)).symm
       exact ⟨(congrArg (Value.bool) e2), (hs2.pick [] rfl (by decide))⟩
   · refine gk false rfl rfl rfl rfl rfl ?_
     refine gk false rfl rfl rfl rfl rfl ?_
     refine gk false rfl rfl rfl rfl rfl ?_
     refine q trivial rfl rfl (pf (v := .bool false) rfl rfl) ?_
     refine q trivial rfl rfl (mv (v := .bool false) rfl) ?_
     refine gk false rfl rfl rfl rfl rfl ?_
     refine gk false rfl rfl rfl rfl rfl ?_
     refine gk false rfl rfl rfl rfl rfl ?_
     refine q trivial rfl rfl (pf (v := .bool false) rfl rfl) ?_
     refine q trivial rfl rfl (asg (v := .bool false) rfl) ?_
     refine nl ?_
     refine nN ?_
     refine rt (bR (tR ?_))
     refine fret (v := .bool false) (.tmp .nil) rfl ?_
     have e3 : false = addrOk ak aq an apt := by first | (rw [addr_is1 (by assumption)]; simp [h1, h2]; done) | (rw [addr_is3 (by assumption)]; simp [h1, h2]; done) | (rw [addr_is3 (by assumption)]; have hq0 : aq = [] := List.eq_nil_of_length_eq_zero (by omega); simp [hq0, h1, h2]; done) | (rw [addr_is3 (by assumption)]; have hq0 : ¬ aq = [] := fun he => absurd (by rw [he]; rfl : ((aq.length : Nat) : Int) = 0) (by assumption); simp [hq0, h1, h2]; done) | (rw [addr_is1 (by assumption)]; have hp0 : 0 ≤ apt ∧ apt ≤ 65535 := Decidable.not_not.1 (by assumption); simp [hp0.1, hp0.2, h1, h2]; done) | (rw [addr_is3 (by assumption)]; have hp0 : 0 ≤ apt ∧ apt ≤ 65535 := Decidable.not_not.1 (by assumption); simp [hp0.1, hp0.2, h1, h2]; done) | exact (addr_port _ _ (by assumption)).symm | exact (addr_no _ _ _ (by assumption) (by assumption)).symm
     exact ⟨(congrArg (Value.bool) e3), (hs2.pick [] rfl (by decide))⟩
 · refine sq ?_
   refine rg ?_
   refine q trivial rfl rfl (eqi (k := .i64) (a := ak) (b := 3) rfl rfl) ?_
   refine q trivial rfl rfl (asg (v := .bool (decide (ak = 3))) rfl) ?_
   refine nl ?_
   refine nN ?_
   refine cdd (p := ak = 3) rfl (fun h4 => ?_) (fun h4 => ?_)
   · refine sq ?_
     refine rg ?_
     refine q trivial rfl rfl (fa 2 fo25_2 rfl) ?_
     refine q trivial rfl rfl (ld (v := Str an) hs1 0 rfl rfl rfl one9) ?_
     refine cl trivial rfl (iNameValid (l := an) (w := _) (hl_n := (by first | omega | (simp; done) | (simp; omega)))) ?_
     rintro _ w4 ⟨rfl, hs4'⟩
     have hs4 : SH w w4 [] [.blk b1 25 [I ak, .slice Aaq aq.length caq, Str an, I apt]] := hs1.call0 hs4'
     clear hs4'
     refine q trivial rfl rfl (mv (v := .bool (nameOk an)) rfl) ?_
     refine spl (b := nameOk an) 25 rfl (fun h5 => ?_) (fun h5 => ?_)
     · refine q ⟨_, rfl, rfl⟩ rfl rfl (fa 1 fo25_1 rfl) ?_
       refine q ⟨_, rfl, rfl⟩ rfl rfl (ld (v := .slice Aaq aq.length caq) hs4 0 rfl rfl rfl one23) ?_
       refine q ⟨_, rfl, rfl⟩ rfl rfl (lnA (n := aq.length) sl23 rfl) ?_
       refine q ⟨_, rfl, rfl⟩ rfl rfl (eqi (k := .i64) (a := ((aq.length : Nat) : Int)) (b := 0) rfl rfl) ?_
       refine q trivial rfl rfl (pt (v := .bool (decide (((aq.length : Nat) : Int) = 0))) rfl rfl) ?_
       refine q trivial rfl rfl (mv (v := .bool (decide (((aq.length : Nat) : Int) = 0))) rfl) ?_
       refine spd (p := ((aq.length : Nat) : Int) = 0) 31 rfl (fun h6 => ?_) (fun h6 => ?_)
       · refine q ⟨_, rfl, rfl⟩ rfl rfl (fa 3 fo25_3 rfl) ?_
         refine q ⟨_, rfl, rfl⟩ rfl rfl (ld (v := I apt) hs4 0 rfl rfl rfl one3) ?_
         refine cl ⟨_, rfl, rfl⟩ rfl (isPort (x := apt) (w := _)) ?_
         rintro _ w5 ⟨rfl, hs5'⟩
         have hs5 : SH w w5 [] [.blk b1 25 [I ak, .slice Aaq aq.length caq, Str an, I apt]] := hs4.call0 hs5'
         clear hs5'
         refine q trivial rfl rfl (pt (v := .bool (decide (0 ≤ apt ∧ apt ≤ 65535))) rfl rfl) ?_
         refine q trivial rfl rfl (asg (v := .bool (decide (0 ≤ apt ∧ apt ≤ 65535))) rfl) ?_
         refine nl ?_
         refine nN ?_
         refine rt (bR (tR ?_))
         refine fret (v := .bool (decide (0 ≤ apt ∧ apt ≤ 65535))) (.tmp .nil) rfl ?_
         have e4 : (decide (0 ≤ apt ∧ apt ≤ 65535)) = addrOk ak aq an apt := by first | (rw [addr_is1 (by assumption)]; simp [h1, h4, h5, h6]; done) | (rw [addr_is3 (by assumption)]; simp [h1, h4, h5, h6]; done) | (rw [addr_is3 (by assumption)]; have hq0 : aq = [] := List.eq_nil_of_length_eq_zero (by omega); simp [hq0, h1, h4, h5, h6]; done) | (rw [addr_is3 (by assumption)]; have hq0 : ¬ aq = [] := fun he => absurd (by rw [he]; rfl : ((aq.length : Nat) : Int) = 0) (by assumption); simp [hq0, h1, h4, h5, h6]; done) | (rw [addr_is1 (by assumption)]; have hp0 : 0 ≤ apt ∧ apt ≤ 65535 := Decidable.not_not.1 (by assumption); simp [hp0.1, hp0.2, h1, h4, h5, h6]; done) | (rw [addr_is3 (by assumption)]; have hp0 : 0 ≤ apt ∧ apt ≤ 65535 := Decidable.not_not.1 (by assumption); simp [hp0.1, hp0.2, h1, h4, h5, h6]; done) | exact (addr_port _ _ (by assumption)).symm | exact (addr_no _ _ _ (by assumption) (by assumption)).symm
         exact ⟨(congrArg (Value.bool) e4), (hs5.pick [] rfl (by decide))⟩
       · refine gk false rfl rfl rfl rfl rfl ?_
         refine gk false rfl rfl rfl rfl rfl ?_
         refine gk false rfl rfl rfl rfl rfl ?_
         refine q trivial rfl rfl (pf (v := .bool false) rfl rfl) ?_
         refine q trivial rfl rfl (asg (v := .bool false) rfl) ?_
         refine nl ?_
         refine nN ?_
         refine rt (bR (tR ?_))
         refine fret (v := .bool false) (.tmp .nil) rfl ?_
         have e5 : false = addrOk ak aq an apt := by first | (rw [addr_is1 (by assumption)]; simp [h1, h4, h5, h6]; done) | (rw [addr_is3 (by assumption)]; simp [h1, h4, h5, h6]; done) | (rw [addr_is3 (by assumption)]; have hq0 : aq = [] := List.eq_nil_of_length_eq_zero (by omega); simp [hq0, h1, h4, h5, h6]; done) | (rw [addr_is3 (by assumption)]; have hq0 : ¬ aq = [] := fun he => absurd (by rw [he]; rfl : ((aq.length : Nat) : Int) = 0) (by assumption); simp [hq0, h1, h4, h5, h6]; done) | (rw [addr_is1 (by assumption)]; have hp0 : 0 ≤ apt ∧ apt ≤ 65535 := Decidable.not_not.1 (by assumption); simp [hp0.1, hp0.2, h1, h4, h5, h6]; done) | (rw [addr_is3 (by assumption)]; have hp0 : 0 ≤ apt ∧ apt ≤ 65535 := Decidable.not_not.1 (by assumption); simp [hp0.1, hp0.2, h1, h4, h5, h6]; done) | exact (addr_port _ _ (by assumption)).symm | exact (addr_no _ _ _ (by assumption) (by assumption)).symm
         exact ⟨(congrArg (Value.bool) e5), (hs4.pick [] rfl (by decide))⟩
     · refine gk false rfl rfl rfl rfl rfl ?_
       refine gk false rfl rfl rfl rfl rfl ?_
       refine gk false rfl rfl rfl rfl rfl ?_
       refine gk false rfl rfl rfl rfl rfl ?_
       refine q trivial rfl rfl (pf (v := .bool false) rfl rfl) ?_
       refine q trivial rfl rfl (mv (v := .bool false) rfl) ?_
       refine gk false rfl rfl rfl rfl rfl ?_
       refine gk false rfl rfl rfl rfl rfl ?_
       refine gk false rfl rfl rfl rfl rfl ?_
       refine q trivial rfl rfl (pf (v := .bool false) rfl rfl) ?_
       refine q trivial rfl rfl (asg (v := .bool false) rfl) ?_
       refine nl ?_
       refine nN ?_
       refine rt (bR (tR ?_))
       refine fret (v := .bool false) (.tmp .nil) rfl ?_
       have e6 : false = addrOk ak aq an apt := by first | (rw [addr_is1 (by assumption)]; simp [h1, h4, h5]; done) | (rw [addr_is3 (by assumption)]; simp [h1, h4, h5]; done) | (rw [addr_is3 (by assumption)]; have hq0 : aq = [] := List.eq_nil_of_length_eq_zero (by omega); simp [hq0, h1, h4, h5]; done) | (rw [addr_is3 (by assumption)]; have hq0 : ¬ aq = [] := fun he => absurd (by rw [he]; rfl : ((aq.length : Nat) : Int) = 0) (by assumption); simp [hq0, h1, h4, h5]; done) | (rw [addr_is1 (by assumption)]; have hp0 : 0 ≤ apt ∧ apt ≤ 65535 := Decidable.not_not.1 (by assumption); simp [hp0.1, hp0.2, h1, h4, h5]; done) | (rw [addr_is3 (by assumption)]; have hp0 : 0 ≤ apt ∧ apt ≤ 65535 := Decidable.not_not.1 (by assumption); simp [hp0.1, hp0.2, h1, h4, h5]; done) | exact (addr_port _ _ (by assumption)).symm | exact (addr_no _ _ _ (by assumption) (by assumption)).symm
       exact ⟨(congrArg (Value.bool) e6), (hs4.pick [] rfl (by decide))⟩
   · refine sk ?_
     refine bN ?_
     refine nN ?_
     refine sq ?_
     refine rg ?_
     refine q trivial rfl rfl (asg (v := .bool false) rfl) ?_
     refine nl ?_
     refine nN ?_
     refine rt ?_
     refine fret (v := .bool false) (.tmp .nil) rfl ?_
     have e7 : false = addrOk ak aq an apt := by first | (rw [addr_is1 (by assumption)]; simp [h1, h4]; done) | (rw [addr_is3 (by assumption)]; simp [h1, h4]; done) | (rw [addr_is3 (by assumption)]; have hq0 : aq = [] := List.eq_nil_of_length_eq_zero (by omega); simp [hq0, h1, h4]; done) | (rw [addr_is3 (by assumption)]; have hq0 : ¬ aq = [] := fun he => absurd (by rw [he]; rfl : ((aq.length : Nat) : Int) = 0) (by assumption); simp [hq0, h1, h4]; done) | (rw [addr_is1 (by assumption)]; have hp0 : 0 ≤ apt ∧ apt ≤ 65535 := Decidable.not_not.1 (by assumption); simp [hp0.1, hp0.2, h1, h4]; done) | (rw [addr_is3 (by assumption)]; have hp0 : 0 ≤ apt ∧ apt ≤ 65535 := Decidable.not_not.1 (by assumption); simp [hp0.1, hp0.2, h1, h4]; done) | exact (addr_port _ _ (by assumption)).symm | exact (addr_no _ _ _ (by assumption) (by assumption)).symm
     exact ⟨(congrArg (Value.bool) e7), (hs1.pick [] rfl (by decide))⟩

theorem sAddressValid (ak : Int) {Aaq : Option Addr} {caq : Nat} (aq : List Int) (an : List UInt8) (apt : Int) (w : World) (haq : Sl w [] 1 Aaq aq.length caq (aq.map I)) (han_n : an.length ≤ 1099511627776) : Does Tryd.prog 12 [.agg #[I ak, .slice Aaq aq.length caq, Str an, I apt]] w (fun v w' => v = .bool (addrOk ak aq an apt) ∧ SH w w' [] []) := by
 refine fn_enter (N := 30) Tryd.func12 rfl (by kernel_rfl) rfl rfl rfl ?_
 have hs0 : SH w w [] [] := SH.refl w []
 have haq_m : aq.length ≤ 9223372036854775807 := Nat.le_trans haq.cap haq.capMax
 refine sq ?_
 refine rg ?_
 refine bx (v := .agg #[I ak, .slice Aaq aq.length caq, Str an, I apt]) (cs := [I ak, .slice Aaq aq.length caq, Str an, I apt]) hs0 rfl rfl trivial rfl (fun b1 w1 (hs1 : SH w w1 [] [.blk b1 25 [I ak, .slice Aaq aq.length caq, Str an, I apt]]) => ?_)
 refine q trivial rfl rfl (asg (v := .bool false) rfl) ?_
 refine nl ?_
 refine nN ?_
 refine sq ?_
 refine sq ?_
 refine rg ?_
 refine q trivial rfl rfl (fa 3 fo25_3 rfl) ?_
 refine q trivial rfl rfl (ld (v := I apt) hs1 0 rfl rfl rfl one3) ?_
 refine cl trivial rfl (sIn (x := apt) (lo := 0) (hi := 65535) (w := _)) ?_
 rintro _ w2 ⟨rfl, hs2'⟩
 have hs2 : SH w w2 [] [.blk b1 25 [I ak, .slice Aaq aq.length caq, Str an, I apt]] := hs1.call0 hs2'
 clear hs2'
 refine q trivial rfl rfl (nd (p := 0 ≤ apt ∧ apt ≤ 65535) rfl) ?_
 refine nl ?_
 refine nN ?_
 refine cdd (p := ¬ (0 ≤ apt ∧ apt ≤ 65535)) rfl (fun h1 => ?_) (fun h1 => ?_)
 · refine sq ?_
   refine rg ?_
   refine q trivial rfl rfl (asg (v := .bool false) rfl) ?_
   refine nl ?_
   refine nN ?_
   refine rt (tR ?_)
   refine fret (v := .bool false) (.tmp .nil) rfl ?_
   have e1 : false = addrOk ak aq an apt := by first | (rw [addr_is1 (by assumption)]; simp [h1]; done) | (rw [addr_is3 (by assumption)]; simp [h1]; done) | (rw [addr_is3 (by assumption)]; have hq0 : aq = [] := List.eq_nil_of_length_eq_zero (by omega); simp [hq0, h1]; done) | (rw [addr_is3 (by assumption)]; have hq0 : ¬ aq = [] := fun he => absurd (by rw [he]; rfl : ((aq.length : Nat) : Int) = 0) (by assumption); simp [hq0, h1]; done) | (rw [addr_is1 (by assumption)]; have hp0 : 0 ≤ apt ∧ apt ≤ 65535 := Decidable.not_not.1 (by assumption); simp [hp0.1, hp0.2, h1]; done) | (rw [addr_is3 (by assumption)]; have hp0 : 0 ≤ apt ∧ apt ≤ 65535 := Decidable.not_not.1 (by assumption); simp [hp0.1, hp0.2, h1]; done) | exact (addr_port _ _ (by assumption)).symm | exact (addr_no _ _ _ (by assumption) (by assumption)).symm
   exact ⟨(congrArg (Value.bool) e1), (hs2.pick [] rfl (by decide))⟩
 · refine sk ?_
   refine nN ?_
   refine sq ?_
   refine sq ?_
   refine rg ?_
   refine q trivial rfl rfl (fa 0 fo25_0 rfl) ?_
   refine q trivial rfl rfl (ld (v := I ak) hs2 0 rfl rfl rfl one3) ?_
   refine nl ?_
   refine nN ?_
   refine bl ?_
   refine sq ?_
   refine rg ?_
   refine q trivial rfl rfl (eqi (k := .i64) (a := ak) (b := 1) rfl rfl) ?_
   refine q trivial rfl rfl (asg (v := .bool (decide (ak = 1))) rfl) ?_
   refine nl ?_
   refine nN ?_
   refine cdd (p := ak = 1) rfl (fun h2 => ?_) (fun h2 => ?_)
   · refine sq ?_
     refine rg ?_
     refine q trivial rfl rfl (fa 1 fo25_1 rfl) ?_
     refine q trivial rfl rfl (ld (v := .slice Aaq aq.length caq) hs2 0 rfl rfl rfl one23) ?_
     refine cl trivial rfl (sQuadValid (Aqs := Aaq) (cqs := caq) (qs := aq) (w := _) (hqs := (haq.up0 hs2))) ?_
     rintro _ w3 ⟨rfl, hs3'⟩
     have hs3 : SH w w3 [] [.blk b1 25 [I ak, .slice Aaq aq.length caq, Str an, I apt]] := hs2.call0 hs3'
     clear hs3'
     refine q trivial rfl rfl (mv (v := .bool (quadOk aq)) rfl) ?_
     refine spl (b := quadOk aq) 14 rfl (fun h3 => ?_) (fun h3 => ?_)
     · refine q ⟨_, rfl, rfl⟩ rfl rfl (fa 2 fo25_2 rfl) ?_
       refine q ⟨_, rfl, rfl⟩ rfl rfl (ld (v := Str an) hs3 0 rfl rfl rfl one9) ?_
       refine q ⟨_, rfl, rfl⟩ rfl rfl (eqs (l := an) (m := []) rfl rfl) ?_
       refine q trivial rfl rfl (pt (v := .bool (decide (an = []))) rfl rfl) ?_
       refine q trivial rfl rfl (asg (v := .bool (decide (an = []))) rfl) ?_
       refine nl ?_
       refine nN ?_
       refine rt (bR (tR ?_))
       refine fret (v := .bool (decide (an = []))) (.tmp .nil) rfl ?_
       have e2 : (decide (an = [])) = addrOk ak aq an apt := by first | (rw [addr_is1 (by assumption)]; simp [h1, h2, h3]; done) | (rw [addr_is3 (by assumption)]; simp [h1, h2, h3]; done) | (rw [addr_is3 (by assumption)]; have hq0 : aq = [] := List.eq_nil_of_length_eq_zero (by omega); simp [hq0, h1, h2, h3]; done) | (rw [addr_is3 (by assumption)]; have hq0 : ¬ aq = [] := fun he => absurd (by rw [he]; rfl : ((aq.length : Nat) : Int) = 0) (by assumption); simp [hq0, h1, h2, h3]; done) | (rw [addr_is1 (by assumption)]; have hp0 : 0 ≤ apt ∧ apt ≤ 65535 := Decidable.not_not.1 (by assumption); simp [hp0.1, hp0.2, h1, h2, h3]; done) | (rw [addr_is3 (by assumption)]; have hp0 : 0 ≤ apt ∧ apt ≤ 65535 := Decidable.not_not.1 (by assumption); simp [hp0.1, hp0.2, h1, h2, h3]; done) | exact (addr_port _ _ (by assumption)).symm | exact (addr_no _ _ _ (by assumption) (by assumption)).symm
       exact ⟨(congrArg (Value.bool) e2), (hs3.pick [] rfl (by decide))⟩
     · refine gk false rfl rfl rfl rfl rfl ?_
       refine gk false rfl rfl rfl rfl rfl ?_
       refine gk false rfl rfl rfl rfl rfl ?_
       refine q trivial rfl rfl (pf (v := .bool false) rfl rfl) ?_
       refine q trivial rfl rfl (asg (v := .bool false) rfl) ?_
       refine nl ?_
       refine nN ?_
       refine rt (bR (tR ?_))
       refine fret (v := .bool false) (.tmp .nil) rfl ?_
       have e3 : false = addrOk ak aq an apt := by first | (rw [addr_is1 (by assumption)]; simp [h1, h2, h3]; done) | (rw [addr_is3 (by assumption)]; simp [h1, h2, h3]; done) | (rw [addr_is3 (by assumption)]; have hq0 : aq = [] := List.eq_nil_of_length_eq_zero (by omega); simp [hq0, h1, h2, h3]; done) | (rw [addr_is3 (by assumption)]; have hq0 : ¬ aq = [] := fun he => absurd (by rw [he]; rfl : ((aq.length : Nat) : Int) = 0) (by assumption); simp [hq0, h1, h2, h3]; done) | (rw [addr_is1 (by assumption)]; have hp0 : 0 ≤ apt ∧ apt ≤ 65535 := Decidable.not_not.1 (by assumption); simp [hp0.1, hp0.2, h1, h2, h3]; done) | (rw [addr_is3 (by assumption)]; have hp0 : 0 ≤ apt ∧ apt ≤ 65535 := Decidable.not_not.1 (by assumption); simp [hp0.1, hp0.2, h1, h2, h3]; done) | exact (addr_port _ _ (by assumption)).symm | exact (addr_no _ _ _ (by assumption) (by assumption)).symm
       exact ⟨(congrArg (Value.bool) e3), (hs3.pick [] rfl (by decide))⟩
   · refine sq ?_
     refine rg ?_
     refine q trivial rfl rfl (eqi (k := .i64) (a := ak) (b := 3) rfl rfl) ?_
     refine q trivial rfl rfl (asg (v := .bool (decide (ak = 3))) rfl) ?_
     refine nl ?_
     refine nN ?_
     refine cdd (p := ak = 3) rfl (fun h4 => ?_) (fun h4 => ?_)
     · refine sq ?_
       refine rg ?_
       refine q trivial rfl rfl (fa 2 fo25_2 rfl) ?_
       refine q trivial rfl rfl (ld (v := Str an) hs2 0 rfl rfl rfl one9) ?_
       refine cl trivial rfl (sNameValid (l := an) (w := _) (hl_n := (by first | omega | (simp; done) | (simp; omega)))) ?_
       rintro _ w4 ⟨rfl, hs4'⟩
       have hs4 : SH w w4 [] [.blk b1 25 [I ak, .slice Aaq aq.length caq, Str an, I apt]] := hs2.call0 hs4'
       clear hs4'
       refine q trivial rfl rfl (mv (v := .bool (nameOk an)) rfl) ?_
       refine spl (b := nameOk an) 24 rfl (fun h5 => ?_) (fun h5 => ?_)
       · refine q ⟨_, rfl, rfl⟩ rfl rfl (fa 1 fo25_1 rfl) ?_
         refine q ⟨_, rfl, rfl⟩ rfl rfl (ld (v := .slice Aaq aq.length caq) hs4 0 rfl rfl rfl one23) ?_
         refine q ⟨_, rfl, rfl⟩ rfl rfl (lnA (n := aq.length) sl23 rfl) ?_
         refine q ⟨_, rfl, rfl⟩ rfl rfl (eqi (k := .i64) (a := ((aq.length : Nat) : Int)) (b := 0) rfl rfl) ?_
         refine q trivial rfl rfl (pt (v := .bool (decide (((aq.length : Nat) : Int) = 0))) rfl rfl) ?_
         refine q trivial rfl rfl (asg (v := .bool (decide (((aq.length : Nat) : Int) = 0))) rfl) ?_
         refine nl ?_
         refine nN ?_
         refine rt (bR (tR ?_))
         refine fret (v := .bool (decide (((aq.length : Nat) : Int) = 0))) (.tmp .nil) rfl ?_
         have e4 : (decide (((aq.length : Nat) : Int) = 0)) = addrOk ak aq an apt := by first | (rw [addr_is1 (by assumption)]; simp [h1, h2, h4, h5]; done) | (rw [addr_is3 (by assumption)]; simp [h1, h2, h4, h5]; done) | (rw [addr_is3 (by assumption)]; have hq0 : aq = [] := List.eq_nil_of_length_eq_zero (by omega); simp [hq0, h1, h2, h4, h5]; done) | (rw [addr_is3 (by assumption)]; have hq0 : ¬ aq = [] := fun he => absurd (by rw [he]; rfl : ((aq.length : Nat) : Int) = 0) (by assumption); simp [hq0, h1, h2, h4, h5]; done) | (rw [addr_is1 (by assumption)]; have hp0 : 0 ≤ apt ∧ apt ≤ 65535 := Decidable.not_not.1 (by assumption); simp [hp0.1, hp0.2, h1, h2, h4, h5]; done) | (rw [addr_is3 (by assumption)]; have hp0 : 0 ≤ apt ∧ apt ≤ 65535 := Decidable.not_not.1 (by assumption); simp [hp0.1, hp0.2, h1, h2, h4, h5]; done) | exact (addr_port _ _ (by assumption)).symm | exact (addr_no _ _ _ (by assumption) (by assumption)).symm
         exact ⟨(congrArg (Value.bool) e4), (hs4.pick [] rfl (by decide))⟩
       · refine gk false rfl rfl rfl rfl rfl ?_
         refine gk false rfl rfl rfl rfl rfl ?_
         refine gk false rfl rfl rfl rfl rfl ?_
         refine gk false rfl rfl rfl rfl rfl ?_
         refine q trivial rfl rfl (pf (v := .bool false) rfl rfl) ?_
         refine q trivial rfl rfl (asg (v := .bool false) rfl) ?_
         refine nl ?_
         refine nN ?_
         refine rt (bR (tR ?_))
         refine fret (v := .bool false) (.tmp .nil) rfl ?_
         have e5 : false = addrOk ak aq an apt := by first | (rw [addr_is1 (by assumption)]; simp [h1, h2, h4, h5]; done) | (rw [addr_is3 (by assumption)]; simp [h1, h2, h4, h5]; done) | (rw [addr_is3 (by assumption)]; have hq0 : aq = [] := List.eq_nil_of_length_eq_zero (by omega); simp [hq0, h1, h2, h4, h5]; done) | (rw [addr_is3 (by assumption)]; have hq0 : ¬ aq = [] := fun he => absurd (by rw [he]; rfl : ((aq.length : Nat) : Int) = 0) (by assumption); simp [hq0, h1, h2, h4, h5]; done) | (rw [addr_is1 (by assumption)]; have hp0 : 0 ≤ apt ∧ apt ≤ 65535 := Decidable.not_not.1 (by assumption); simp [hp0.1, hp0.2, h1, h2, h4, h5]; done) | (rw [addr_is3 (by assumption)]; have hp0 : 0 ≤ apt ∧ apt ≤ 65535 := Decidable.not_not.1 (by assumption); simp [hp0.1, hp0.2, h1, h2, h4, h5]; done) | exact (addr_port _ _ (by assumption)).symm | exact (addr_no _ _ _ (by assumption) (by assumption)).symm
         exact ⟨(congrArg (Value.bool) e5), (hs4.pick [] rfl (by decide))⟩
     · refine sk ?_
       refine bN ?_
       refine nN ?_
       refine sq ?_
       refine rg ?_
       refine q trivial rfl rfl (asg (v := .bool false) rfl) ?_
       refine nl ?_
       refine nN ?_
       refine rt ?_
       refine fret (v := .bool false) (.tmp .nil) rfl ?_
       have e6 : false = addrOk ak aq an apt := by first | (rw [addr_is1 (by assumption)]; simp [h1, h2, h4]; done) | (rw [addr_is3 (by assumption)]; simp [h1, h2, h4]; done) | (rw [addr_is3 (by assumption)]; have hq0 : aq = [] := List.eq_nil_of_length_eq_zero (by omega); simp [hq0, h1, h2, h4]; done) | (rw [addr_is3 (by assumption)]; have hq0 : ¬ aq = [] := fun he => absurd (by rw [he]; rfl : ((aq.length : Nat) : Int) = 0) (by assumption); simp [hq0, h1, h2, h4]; done) | (rw [addr_is1 (by assumption)]; have hp0 : 0 ≤ apt ∧ apt ≤ 65535 := Decidable.not_not.1 (by assumption); simp [hp0.1, hp0.2, h1, h2, h4]; done) | (rw [addr_is3 (by assumption)]; have hp0 : 0 ≤ apt ∧ apt ≤ 65535 := Decidable.not_not.1 (by assumption); simp [hp0.1, hp0.2, h1, h2, h4]; done) | exact (addr_port _ _ (by assumption)).symm | exact (addr_no _ _ _ (by assumption) (by assumption)).symm
       exact ⟨(congrArg (Value.bool) e6), (hs2.pick [] rfl (by decide))⟩

theorem szAddress (ak : Int) {Aaq : Option Addr} {caq : Nat} (aq : List Int) (an : List UInt8) (apt : Int) (z : Int) (w : World) (haq : Sl w [] 1 Aaq aq.length caq (aq.map I)) (han_n : an.length ≤ 9223372036854775807) (hz : 0 ≤ z ∧ z ≤ 1099511627776) : Does Tryd.prog 14 [.agg #[I ak, .slice Aaq aq.length caq, Str an, I apt], I z] w (fun v w' => ∃ r : Int, v = .int .i64 r ∧ (-1 ≤ r ∧ r ≤ z) ∧ (r < 0 ∨ ((aq.length : Int) ≤ z ∧ (an.length : Int) ≤ z)) ∧ SH w w' [] []) := by
 refine fn_enter (N := 19) Tryd.func14 rfl (by kernel_rfl) rfl rfl rfl ?_
 have hs0 : SH w w [] [] := SH.refl w []
 have haq_m : aq.length ≤ 9223372036854775807 := Nat.le_trans haq.cap haq.capMax
 refine sq ?_
 refine rg ?_
 refine bx (v := .agg #[I ak, .slice Aaq aq.length caq, Str an, I apt]) (cs := [I ak, .slice Aaq aq.length caq, Str an, I apt]) hs0 rfl rfl trivial rfl (fun b1 w1 (hs1 : SH w w1 [] [.blk b1 35 [I ak, .slice Aaq aq.length caq, Str an, I apt]]) => ?_)
 refine q trivial rfl rfl (asg (v := I 0) rfl) ?_
 refine nl ?_
 refine nN ?_
 refine sq ?_
 refine rg ?_
 refine q trivial rfl rfl (fa 1 fo35_1 rfl) ?_
 refine q trivial rfl rfl (ld (v := .slice Aaq aq.length caq) hs1 0 rfl rfl rfl one23) ?_
 refine q trivial rfl rfl (mv (v := I z) rfl) ?_
 refine cl trivial rfl (szIntS (Axs := Aaq) (cxs := caq) (xs := aq) (z := z) (w := _) (hxs := (haq.up0 hs1)) (hz := (by first | (first | omega | assumption | (simp; done) | (simp; omega)) | (have hsz1 := szI_bd (n := aq.length) (z := z) (by omega); have hsz2 := szI_nn (n := aq.length) (z := z) (by omega); first | omega | assumption | (simp; done) | (simp; omega))))) ?_
 rintro _ w2 ⟨rfl, hs2'⟩
 have hs2 : SH w w2 [] [.blk b1 35 [I ak, .slice Aaq aq.length caq, Str an, I apt]] := hs1.call0 hs2'
 clear hs2'
 refine q trivial rfl rfl (asg (v := I (szI aq.length z)) rfl) ?_
 refine nl ?_
 refine nN ?_
 refine sq ?_
 refine sq ?_
 refine rg ?_
 refine q trivial rfl rfl (mv (v := I (szI aq.length z)) rfl) ?_
 refine q trivial rfl rfl (lss (k := .i64) (a := szI aq.length z) (b := 0) rfl rfl) ?_
 refine nl ?_
 refine nN ?_
 refine cdd (p := (szI aq.length z) < 0) rfl (fun h1 => ?_) (fun h1 => ?_)
 · refine sq ?_
   refine rg ?_
   refine q trivial rfl rfl (asg (v := I (-1)) rfl) ?_
   refine nl ?_
   refine nN ?_
   refine rt (tR ?_)
   refine fret (v := I (-1)) (.tmp .nil) rfl ?_
   exact ⟨(-1), rfl, (by have hsz1 := szI_bd (n := aq.length) (z := z) (by omega); omega), (by have hsz1 := szI_bd (n := aq.length) (z := z) (by omega); first | omega | (have hsz2 := szI_nn (n := aq.length) (z := z) (by omega); omega)), (hs2.pick [] rfl (by decide))⟩
 · refine sk ?_
   refine nN ?_
   refine sq ?_
   refine rg ?_
   refine q trivial rfl rfl (mv (v := I (szI aq.length z)) rfl) ?_
   refine q trivial rfl rfl (fa 2 fo35_2 rfl) ?_
   refine q trivial rfl rfl (ld (v := Str an) hs2 0 rfl rfl rfl one9) ?_
   refine q trivial rfl rfl (lnS (l := an) st9 rfl) ?_
   refine q trivial rfl rfl (sub (a := szI aq.length z) (b := ((an.length : Nat) : Int)) rfl rfl (by first | (exact ⟨by omega, by omega⟩) | (have hsz1 := szI_bd (n := aq.length) (z := z) (by omega); have hsz2 := szI_nn (n := aq.length) (z := z) (by omega); exact ⟨by omega, by omega⟩))) ?_
   refine q trivial rfl rfl (asg (v := I ((szI aq.length z) - ((an.length : Nat) : Int))) rfl) ?_
   refine nl ?_
   refine nN ?_
   refine sq ?_
   refine sq ?_
   refine rg ?_
   refine q trivial rfl rfl (mv (v := I ((szI aq.length z) - ((an.length : Nat) : Int))) rfl) ?_
   refine q trivial rfl rfl (lss (k := .i64) (a := (szI aq.length z) - ((an.length : Nat) : Int)) (b := 0) rfl rfl) ?_
   refine nl ?_
   refine nN ?_
   refine cdd (p := ((szI aq.length z) - ((an.length : Nat) : Int)) < 0) rfl (fun h2 => ?_) (fun h2 => ?_)
   · refine sq ?_
     refine rg ?_
     refine q trivial rfl rfl (asg (v := I (-1)) rfl) ?_
     refine nl ?_
     refine nN ?_
     refine rt (tR ?_)
     refine fret (v := I (-1)) (.tmp .nil) rfl ?_
     exact ⟨(-1), rfl, (by have hsz1 := szI_bd (n := aq.length) (z := z) (by omega); omega), (by have hsz1 := szI_bd (n := aq.length) (z := z) (by omega); first | omega | (have hsz2 := szI_nn (n := aq.length) (z := z) (by omega); omega)), (hs2.pick [] rfl (by decide))⟩
   · refine sk ?_
     refine nN ?_
     refine sq ?_
     refine rg ?_
     refine q trivial rfl rfl (mv (v := I ((szI aq.length z) - ((an.length : Nat) : Int))) rfl) ?_
     refine q trivial rfl rfl (asg (v := I ((szI aq.length z) - ((an.length : Nat) : Int))) rfl) ?_
     refine nl ?_
     refine nN ?_
     refine rt ?_
     refine fret (v := I ((szI aq.length z) - ((an.length : Nat) : Int))) (.tmp .nil) rfl ?_
     exact ⟨(szI aq.length z) - ((an.length : Nat) : Int), rfl, (by have hsz1 := szI_bd (n := aq.length) (z := z) (by omega); omega), (by have hsz1 := szI_bd (n := aq.length) (z := z) (by omega); first | omega | (have hsz2 := szI_nn (n := aq.length) (z := z) (by omega); omega)), (hs2.pick [] rfl (by decide))⟩

theorem toAddress (ak : Int) {Aaq : Option Addr} {caq : Nat} (aq : List Int) (an : List UInt8) (apt : Int) (w : World) (haq : Sl w [] 1 Aaq aq.length caq (aq.map I)) (haq_n : aq.length ≤ 1099511627776) : Does Tryd.prog 15 [.agg #[I ak, .slice Aaq aq.length caq, Str an, I apt]] w (fun v w' => ∃ Aqr : Option Addr, ∃ cqr : Nat, v = .agg #[.int .i64 ak, .slice Aqr aq.length cqr, Str an, .int .i64 apt] ∧ SH w w' [] [.own Aqr aq.length cqr 3 1 (aq.map I)]) := by
 refine fn_enter (N := 18) Tryd.func15 rfl (by kernel_rfl) rfl rfl rfl ?_
 have hs0 : SH w w [] [] := SH.refl w []
 have haq_m : aq.length ≤ 9223372036854775807 := Nat.le_trans haq.cap haq.capMax
 refine sq ?_
 refine rg ?_
 refine bx (v := .agg #[I ak, .slice Aaq aq.length caq, Str an, I apt]) (cs := [I ak, .slice Aaq aq.length caq, Str an, I apt]) hs0 rfl rfl trivial rfl (fun b1 w1 (hs1 : SH w w1 [] [.blk b1 35 [I ak, .slice Aaq aq.length caq, Str an, I apt]]) => ?_)
 refine al (v := .agg #[I 0, ns, Str [], I 0]) (cs := [I 0, ns, Str [], I 0]) hs1 tz25 rfl trivial rfl (fun b2 w2 (hs2 : SH w w2 [] [.blk b1 35 [I ak, .slice Aaq aq.length caq, Str an, I apt], .blk b2 25 [I 0, ns, Str [], I 0]]) => ?_)
 refine nl ?_
 refine nN ?_
 refine sq ?_
 refine rg ?_
 refine al (v := .agg #[I 0, ns, Str [], I 0]) (cs := [I 0, ns, Str [], I 0]) hs2 tz25 rfl trivial rfl (fun b3 w3 (hs3 : SH w w3 [] [.blk b1 35 [I ak, .slice Aaq aq.length caq, Str an, I apt], .blk b2 25 [I 0, ns, Str [], I 0], .blk b3 25 [I 0, ns, Str [], I 0]]) => ?_)
 refine nl ?_
 refine nN ?_
 refine sq ?_
 refine rg ?_
 refine q trivial rfl rfl (fa 0 fo35_0 rfl) ?_
 refine q trivial rfl rfl (ld (v := I ak) hs3 0 rfl rfl rfl one3) ?_
 refine q trivial rfl rfl (fa 0 fo25_0 rfl) ?_
 refine st (v := I ak) hs3 2 rfl rfl rfl rfl rfl one3 trivial (fun w4 (hs4 : SH w w4 [] [.blk b1 35 [I ak, .slice Aaq aq.length caq, Str an, I apt], .blk b2 25 [I 0, ns, Str [], I 0], .blk b3 25 [I ak, ns, Str [], I 0]]) => ?_)
 refine nl ?_
 refine nN ?_
 refine sq ?_
 refine rg ?_
 refine q trivial rfl rfl (fa 1 fo35_1 rfl) ?_
 refine q trivial rfl rfl (ld (v := .slice Aaq aq.length caq) hs4 0 rfl rfl rfl one23) ?_
 refine cl trivial rfl (toIntS (Axs := Aaq) (cxs := caq) (xs := aq) (w := _) (hxs := (haq.up0 hs4)) (hxs_n := (by first | omega | (simp; done) | (simp; omega)))) ?_
 rintro _ w5 ⟨A1, c1, rfl, hs5'⟩
 have hs5 : SH w w5 [] [.blk b1 35 [I ak, .slice Aaq aq.length caq, Str an, I apt], .blk b2 25 [I 0, ns, Str [], I 0], .blk b3 25 [I ak, ns, Str [], I 0], .own A1 aq.length c1 3 1 (aq.map I)] := hs4.call0 hs5'
 clear hs5'
 refine q trivial rfl rfl (fa 1 fo25_1 rfl) ?_
 refine st (v := .slice A1 aq.length c1) hs5 2 rfl rfl rfl rfl rfl one23 trivial (fun w6 (hs6 : SH w w6 [] [.blk b1 35 [I ak, .slice Aaq aq.length caq, Str an, I apt], .blk b2 25 [I 0, ns, Str [], I 0], .own A1 aq.length c1 3 1 (aq.map I), .blk b3 25 [I ak, .slice A1 aq.length c1, Str [], I 0]]) => ?_)
 refine nl ?_
 refine nN ?_
 refine sq ?_
 refine rg ?_
 refine q trivial rfl rfl (fa 2 fo35_2 rfl) ?_
 refine q trivial rfl rfl (ld (v := Str an) hs6 0 rfl rfl rfl one9) ?_
 refine q trivial rfl rfl (fa 2 fo25_2 rfl) ?_
 refine st (v := Str an) hs6 3 rfl rfl rfl rfl rfl one9 trivial (fun w7 (hs7 : SH w w7 [] [.blk b1 35 [I ak, .slice Aaq aq.length caq, Str an, I apt], .blk b2 25 [I 0, ns, Str [], I 0], .own A1 aq.length c1 3 1 (aq.map I), .blk b3 25 [I ak, .slice A1 aq.length c1, Str an, I 0]]) => ?_)
 refine nl ?_
 refine nN ?_
 refine sq ?_
 refine rg ?_
 refine q trivial rfl rfl (fa 3 fo35_3 rfl) ?_
 refine q trivial rfl rfl (ld (v := I apt) hs7 0 rfl rfl rfl one3) ?_
 refine q trivial rfl rfl (fa 3 fo25_3 rfl) ?_
 refine st (v := I apt) hs7 3 rfl rfl rfl rfl rfl one3 trivial (fun w8 (hs8 : SH w w8 [] [.blk b1 35 [I ak, .slice Aaq aq.length caq, Str an, I apt], .blk b2 25 [I 0, ns, Str [], I 0], .own A1 aq.length c1 3 1 (aq.map I), .blk b3 25 [I ak, .slice A1 aq.length c1, Str an, I apt]]) => ?_)
 refine nl ?_
 refine nN ?_
 refine sq ?_
 refine rg ?_
 refine q trivial rfl rfl (ldg (vs := [I ak, .slice A1 aq.length c1, Str an, I apt]) hs8 3 rfl rfl rfl rfl ag25) ?_
 refine stg (vs := [I ak, .slice A1 aq.length c1, Str an, I apt]) hs8 1 rfl rfl rfl rfl rfl rfl rfl ag25 trivial (fun w9 (hs9 : SH w w9 [] [.blk b1 35 [I ak, .slice Aaq aq.length caq, Str an, I apt], .own A1 aq.length c1 3 1 (aq.map I), .blk b3 25 [I ak, .slice A1 aq.length c1, Str an, I apt], .blk b2 25 [I ak, .slice A1 aq.length c1, Str an, I apt]]) => ?_)
 refine nl ?_
 refine nN ?_
 have hs10 : SH w w9 [] [.own A1 aq.length c1 3 1 (aq.map I), .blk b2 25 [I ak, .slice A1 aq.length c1, Str an, I apt]] := hs9.pick [1, 3] rfl (by decide)
 refine rt ?_
 refine fret (v := .agg #[I ak, .slice A1 aq.length c1, Str an, I apt]) (resC hs10 1 rfl rfl ag25 rfl .nil) rfl ?_
 exact ⟨A1, c1, rfl, (hs10.pick [0] rfl (by decide))⟩

theorem eqAddress (ka : Int) {Aqa : Option Addr} {cqa : Nat} (qa : List Int) (na : List UInt8) (pa : Int) (kb : Int) {Aqb : Option Addr} {cqb : Nat} (qb : List Int) (nb : List UInt8) (pb : Int) (w : World) (hqa : Sl w [] 1 Aqa qa.length cqa (qa.map I)) (hqb : Sl w [] 1 Aqb qb.length cqb (qb.map I)) : Does Tryd.prog 16 [.agg #[I ka, .slice Aqa qa.length cqa, Str na, I pa], .agg #[I kb, .slice Aqb qb.length cqb, Str nb, I pb]] w (fun v w' => v = .bool (decide (ka = kb ∧ qa = qb ∧ na = nb ∧ pa = pb)) ∧ SH w w' [] []) := by
 refine fn_enter (N := 26) Tryd.func16 rfl (by kernel_rfl) rfl rfl rfl ?_
 have hs0 : SH w w [] [] := SH.refl w []
 have hqa_m : qa.length ≤ 9223372036854775807 := Nat.le_trans hqa.cap hqa.capMax
 have hqb_m : qb.length ≤ 9223372036854775807 := Nat.le_trans hqb.cap hqb.capMax
 refine sq ?_
 refine rg ?_
 refine bx (v := .agg #[I ka, .slice Aqa qa.length cqa, Str na, I pa]) (cs := [I ka, .slice Aqa qa.length cqa, Str na, I pa]) hs0 rfl rfl trivial rfl (fun b1 w1 (hs1 : SH w w1 [] [.blk b1 25 [I ka, .slice Aqa qa.length cqa, Str na, I pa]]) => ?_)
 refine bx (v := .agg #[I kb, .slice Aqb qb.length cqb, Str nb, I pb]) (cs := [I kb, .slice Aqb qb.length cqb, Str nb, I pb]) hs1 rfl rfl trivial rfl (fun b2 w2 (hs2 : SH w w2 [] [.blk b1 25 [I ka, .slice Aqa qa.length cqa, Str na, I pa], .blk b2 25 [I kb, .slice Aqb qb.length cqb, Str nb, I pb]]) => ?_)
 refine q trivial rfl rfl (asg (v := .bool false) rfl) ?_
 refine nl ?_
 refine nN ?_
 refine sq ?_
 refine sq ?_
 refine rg ?_
 refine q trivial rfl rfl (fa 0 fo25_0 rfl) ?_
 refine q trivial rfl rfl (ld (v := I ka) hs2 0 rfl rfl rfl one3) ?_
 refine q trivial rfl rfl (fa 0 fo25_0 rfl) ?_
 refine q trivial rfl rfl (ld (v := I kb) hs2 1 rfl rfl rfl one3) ?_
 refine q trivial rfl rfl (nei (k := .i64) (a := ka) (b := kb) rfl rfl) ?_
 refine nl ?_
 refine nN ?_
 refine cdd (p := ka ≠ kb) rfl (fun h1 => ?_) (fun h1 => ?_)
 · refine sq ?_
   refine rg ?_
   refine q trivial rfl rfl (asg (v := .bool false) rfl) ?_
   refine nl ?_
   refine nN ?_
   refine rt (tR ?_)
   refine fret (v := .bool false) (.tmp .nil) rfl ?_
   have e1 : false = (decide (ka = kb ∧ qa = qb ∧ na = nb ∧ pa = pb)) := by simp [h1] <;> simp_all
   exact ⟨(congrArg (Value.bool) e1), (hs2.pick [] rfl (by decide))⟩
 · refine sk ?_
   refine nN ?_
   refine sq ?_
   refine sq ?_
   refine rg ?_
   refine q trivial rfl rfl (fa 1 fo25_1 rfl) ?_
   refine q trivial rfl rfl (ld (v := .slice Aqa qa.length cqa) hs2 0 rfl rfl rfl one23) ?_
   refine q trivial rfl rfl (fa 1 fo25_1 rfl) ?_
   refine q trivial rfl rfl (ld (v := .slice Aqb qb.length cqb) hs2 1 rfl rfl rfl one23) ?_
   refine cl trivial rfl (eqIntS (Axs := Aqa) (cxs := cqa) (xs := qa) (Abs := Aqb) (cbs := cqb) (bs := qb) (w := _) (hxs := (hqa.up0 hs2)) (hbs := (hqb.up0 hs2))) ?_
   rintro _ w3 ⟨rfl, hs3'⟩
   have hs3 : SH w w3 [] [.blk b1 25 [I ka, .slice Aqa qa.length cqa, Str na, I pa], .blk b2 25 [I kb, .slice Aqb qb.length cqb, Str nb, I pb]] := hs2.call0 hs3'
   clear hs3'
   refine q trivial rfl rfl (nd (p := qa = qb) rfl) ?_
   refine nl ?_
   refine nN ?_
   refine cdd (p := ¬ (qa = qb)) rfl (fun h2 => ?_) (fun h2 => ?_)
   · refine sq ?_
     refine rg ?_
     refine q trivial rfl rfl (asg (v := .bool false) rfl) ?_
     refine nl ?_
     refine nN ?_
     refine rt (tR ?_)
     refine fret (v := .bool false) (.tmp .nil) rfl ?_
     have e2 : false = (decide (ka = kb ∧ qa = qb ∧ na = nb ∧ pa = pb)) := by simp [h1, h2] <;> simp_all
     exact ⟨(congrArg (Value.bool) e2), (hs3.pick [] rfl (by decide))⟩
   · refine sk ?_
     refine nN ?_
     refine sq ?_
     refine sq ?_
     refine rg ?_
     refine q trivial rfl rfl (fa 2 fo25_2 rfl) ?_
     refine q trivial rfl rfl (ld (v := Str na) hs3 0 rfl rfl rfl one9) ?_
     refine q trivial rfl rfl (fa 2 fo25_2 rfl) ?_
     refine q trivial rfl rfl (ld (v := Str nb) hs3 1 rfl rfl rfl one9) ?_
     refine q trivial rfl rfl (nes (l := na) (m := nb) rfl rfl) ?_
     refine nl ?_
     refine nN ?_
     refine cdd (p := na ≠ nb) rfl (fun h3 => ?_) (fun h3 => ?_)
     · refine sq ?_
       refine rg ?_
       refine q trivial rfl rfl (asg (v := .bool false) rfl) ?_
       refine nl ?_
       refine nN ?_
       refine rt (tR ?_)
       refine fret (v := .bool false) (.tmp .nil) rfl ?_
       have e3 : false = (decide (ka = kb ∧ qa = qb ∧ na = nb ∧ pa = pb)) := by simp [h1, h2, h3] <;> simp_all
       exact ⟨(congrArg (Value.bool) e3), (hs3.pick [] rfl (by decide))⟩
     · refine sk ?_
       refine nN ?_
       refine sq ?_
       refine sq ?_
       refine rg ?_
       refine q trivial rfl rfl (fa 3 fo25_3 rfl) ?_
       refine q trivial rfl rfl (ld (v := I pa) hs3 0 rfl rfl rfl one3) ?_
       refine q trivial rfl rfl (fa 3 fo25_3 rfl) ?_
       refine q trivial rfl rfl (ld (v := I pb) hs3 1 rfl rfl rfl one3) ?_
       refine q trivial rfl rfl (nei (k := .i64) (a := pa) (b := pb) rfl rfl) ?_
       refine nl ?_
       refine nN ?_
       refine cdd (p := pa ≠ pb) rfl (fun h4 => ?_) (fun h4 => ?_)
       · refine sq ?_
         refine rg ?_
         refine q trivial rfl rfl (asg (v := .bool false) rfl) ?_
         refine nl ?_
         refine nN ?_
         refine rt (tR ?_)
         refine fret (v := .bool false) (.tmp .nil) rfl ?_
         have e4 : false = (decide (ka = kb ∧ qa = qb ∧ na = nb ∧ pa = pb)) := by simp [h1, h2, h3, h4] <;> simp_all
         exact ⟨(congrArg (Value.bool) e4), (hs3.pick [] rfl (by decide))⟩
       · refine sk ?_
         refine nN ?_
         refine sq ?_
         refine rg ?_
         refine q trivial rfl rfl (asg (v := .bool true) rfl) ?_
         refine nl ?_
         refine nN ?_
         refine rt ?_
         refine fret (v := .bool true) (.tmp .nil) rfl ?_
         have e5 : true = (decide (ka = kb ∧ qa = qb ∧ na = nb ∧ pa = pb)) := by simp [h1, h2, h3, h4] <;> simp_all
         exact ⟨(congrArg (Value.bool) e5), (hs3.pick [] rfl (by decide))⟩

set_option maxHeartbeats 8000000 in
theorem l91Quad {rb : Nat} {Ab : Option Addr} {cb : Nat} {bs : List UInt8} {p : Nat} (w : World) (hr : w.heap[rb]? = some (.cells [.slice Ab bs.length cb, .int .i64 ((p : Nat) : Int)].toArray 74 (0, 0))) (hb : Sl w [rb] 1 Ab bs.length cb (bs.map U)) (hbn : bs.length ≤ 2000) (hp : p ≤ 549755813888) : Does Tryd.prog 54 [pB rb] w (fun v w' => ∃ Ar : Option Addr, ∃ cr : Nat, ∃ r : List Int, ∃ q : Nat, v = .slice Ar r.length cr ∧ (r.length ≤ 4) ∧ (q ≤ p + 10) ∧ SH w w' [rb] [.blk rb 74 [.slice Ab bs.length cb, I ((q : Nat) : Int)], .own Ar r.length cr 3 1 (r.map I)]) := by
 refine fn_enter (N := 31) Tryd.func54 rfl (by kernel_rfl) rfl rfl rfl ?_
 have hs0 : SH w w [rb] [.blk rb 74 [.slice Ab bs.length cb, I ((p : Nat) : Int)]] := SH.entry1 hr
 refine sq ?_
 refine rg ?_
 refine q trivial rfl rfl (asg (v := ns) rfl) ?_
 refine nl ?_
 refine nN ?_
 refine sq ?_
 refine raJ (fun w' => ∃ L, SH w w' [rb] L ∧ True) (fun f w' => ∃ (r1' : Int) (q1' b2' : Nat) (r4' : Int) (q4' : Nat) (r8' : Int) (q8' : Nat) (r10' : Int) (q10' : Nat) (r12' : Int) (q12' b13' : Nat), Has f [(0, pB rb), (3, sb b13' (([([0, 1, 10, 255, r1'] : List Int).getD r4'.toNat 0, r8', r10', r12'] : List Int).length) 4)] ∧ (0 ≤ r1' ∧ (r1' < 256 ∨ r1' = 0)) ∧ (q1' ≤ p + 1) ∧ (0 ≤ r4' ∧ (r4' < 5 ∨ r4' = 0)) ∧ (q4' ≤ q1' + 1) ∧ (0 ≤ r8' ∧ (r8' < 2 ∨ r8' = 0)) ∧ (q8' ≤ q4' + 1) ∧ (0 ≤ r10' ∧ (r10' < 2 ∨ r10' = 0)) ∧ (q10' ≤ q8' + 1) ∧ (0 ≤ r12' ∧ (r12' < 256 ∨ r12' = 0)) ∧ (q12' ≤ q10' + 1) ∧ SH w w' [rb] [.blk rb 74 [.slice Ab bs.length cb, I ((q12' : Nat) : Int)], oI b13' ([([0, 1, 10, 255, r1'] : List Int).getD r4'.toNat 0, r8', r10', r12'] : List Int) 4 3, oI b2' ([0, 1, 10, 255, r1'] : List Int) 5 3]) mixed ?_ ?_
 · refine dag (fuel' := 2) (listed' := lbits 15 8191) (fun f w' => ∃ (r1' : Int) (q1' b2' : Nat) (r4' : Int) (q4' : Nat) (r8' : Int) (q8' : Nat) (r10' : Int) (q10' : Nat) (r12' : Int) (q12' : Nat), Has f [(0, pB rb), (10, I (([0, 1, 10, 255, r1'] : List Int).getD r4'.toNat 0)), (12, I r8'), (14, I r10'), (16, I r12')] ∧ (0 ≤ r1' ∧ (r1' < 256 ∨ r1' = 0)) ∧ (q1' ≤ p + 1) ∧ (0 ≤ r4' ∧ (r4' < 5 ∨ r4' = 0)) ∧ (q4' ≤ q1' + 1) ∧ (0 ≤ r8' ∧ (r8' < 2 ∨ r8' = 0)) ∧ (q8' ≤ q4' + 1) ∧ (0 ≤ r10' ∧ (r10' < 2 ∨ r10' = 0)) ∧ (q10' ≤ q8' + 1) ∧ (0 ≤ r12' ∧ (r12' < 256 ∨ r12' = 0)) ∧ (q12' ≤ q10' + 1) ∧ SH w w' [rb] [.blk rb 74 [.slice Ab bs.length cb, I ((q12' : Nat) : Int)], oI b2' ([0, 1, 10, 255, r1'] : List Int) 5 3]) ?_ (fun D_1_0 => ?_)
   · rintro f w1 ⟨r1', q1', b2', r4', q4', r8', q8', r10', q10', r12', q12', hf, p1, p2, p3, p4, p5, p6, p7, p8, p9, p10, hs1⟩
     obtain ⟨g1, rfl⟩ := has_upd hf
     clear hf
     refine aaL [13] (fa_one ?_)
     refine one_ rfl ?_
     refine bsk hs1 sl23 [I (([0, 1, 10, 255, r1'] : List Int).getD r4'.toNat 0), I r8', I r10', I r12'] [I (([0, 1, 10, 255, r1'] : List Int).getD r4'.toNat 0), I r8', I r10', I r12'] trivial rfl (fun b13' w2 hs2 => ?_)
     refine nl (kq ⟨_, hs2, trivial⟩ ?_)
     refine tk (fuel := 0) (is := [14]) (.cons rfl (.nil)) (by kernel_rfl) (by kernel_rfl) ⟨_, hs2, trivial⟩ ?_
     refine .op trivial rfl rfl (fun wq _ => asg (v := sb b13' (([([0, 1, 10, 255, r1'] : List Int).getD r4'.toNat 0, r8', r10', r12'] : List Int).length) 4) rfl) ?_
     refine .nil ?_
     refine ad (by kernel_rfl) ?_
     exact ⟨r1', q1', b2', r4', q4', r8', q8', r10', q10', r12', q12', b13', ⟨rfl, rfl, trivial⟩, p1, p2, p3, p4, p5, p6, p7, p8, p9, p10, (hs2.pick [0, 2, 1] rfl (by decide))⟩
   refine dag (fuel' := 3) (listed' := lbits 15 4095) (fun f w' => ∃ (r1' : Int) (q1' b2' : Nat) (r4' : Int) (q4' : Nat) (r8' : Int) (q8' : Nat) (r10' : Int) (q10' : Nat), Has f [(0, pB rb), (10, I (([0, 1, 10, 255, r1'] : List Int).getD r4'.toNat 0)), (12, I r8'), (14, I r10'), (15, pB rb)] ∧ (0 ≤ r1' ∧ (r1' < 256 ∨ r1' = 0)) ∧ (q1' ≤ p + 1) ∧ (0 ≤ r4' ∧ (r4' < 5 ∨ r4' = 0)) ∧ (q4' ≤ q1' + 1) ∧ (0 ≤ r8' ∧ (r8' < 2 ∨ r8' = 0)) ∧ (q8' ≤ q4' + 1) ∧ (0 ≤ r10' ∧ (r10' < 2 ∨ r10' = 0)) ∧ (q10' ≤ q8' + 1) ∧ SH w w' [rb] [.blk rb 74 [.slice Ab bs.length cb, I ((q10' : Nat) : Int)], oI b2' ([0, 1, 10, 255, r1'] : List Int) 5 3]) ?_ (fun D_1_1 => ?_)
   · rintro f w3 ⟨r1', q1', b2', r4', q4', r8', q8', r10', q10', hf, p11, p12, p13, p14, p15, p16, p17, p18, hs3⟩
     obtain ⟨g2, rfl⟩ := has_upd hf
     clear hf
     refine aaL [12] (fa_one ?_)
     refine one_ rfl ?_
     refine cl trivial rfl (pick (rb := rb) (Ab := Ab) (cb := cb) (bs := bs) (p := q10') (n := 256) (w := _) (hr := (blk_heap hs3 0 rfl)) (hb := (hb.up hs3 (fun _ h => h) (fun _ h => .inl h))) (hbn := (by first | assumption | (simp; omega))) (hp := (by omega))) ?_
     rintro _ w4 ⟨r12', q12', rfl, p19, p20, hs4'⟩
     have hs4 := hs3.callM 0 rfl hs4' (by intro k hk; simp at hk; exact hk.symm)
     clear hs4'
     exact nl (kq ⟨_, hs4, trivial⟩ (alc D_1_0 ⟨r1', q1', b2', r4', q4', r8', q8', r10', q10', r12', q12', ⟨rfl, rfl, rfl, rfl, rfl, trivial⟩, p11, p12, p13, p14, p15, p16, p17, p18, p19, p20, (hs4.pick [1, 0] rfl (by decide))⟩))
   refine dag (fuel' := 3) (listed' := lbits 15 8127) (fun f w' => ∃ (r1' : Int) (q1' b2' : Nat) (r4' : Int) (q4' : Nat) (r8' : Int) (q8' : Nat) (r10' : Int) (q10' : Nat) (r12' : Int) (q12' : Nat), Has f [(0, pB rb), (9, .pointer (some ⟨b2', r4'.toNat * 1, none⟩)), (12, I r8'), (14, I r10'), (16, I r12')] ∧ (0 ≤ r1' ∧ (r1' < 256 ∨ r1' = 0)) ∧ (q1' ≤ p + 1) ∧ (0 ≤ r4' ∧ (r4' < 5 ∨ r4' = 0)) ∧ (q4' ≤ q1' + 1) ∧ (0 ≤ r8' ∧ (r8' < 2 ∨ r8' = 0)) ∧ (q8' ≤ q4' + 1) ∧ (0 ≤ r10' ∧ (r10' < 2 ∨ r10' = 0)) ∧ (q10' ≤ q8' + 1) ∧ (0 ≤ r12' ∧ (r12' < 256 ∨ r12' = 0)) ∧ (q12' ≤ q10' + 1) ∧ SH w w' [rb] [.blk rb 74 [.slice Ab bs.length cb, I ((q12' : Nat) : Int)], oI b2' ([0, 1, 10, 255, r1'] : List Int) 5 3]) ?_ (fun D_1_2 => ?_)
   · rintro f w5 ⟨r1', q1', b2', r4', q4', r8', q8', r10', q10', r12', q12', hf, p21, p22, p23, p24, p25, p26, p27, p28, p29, p30, hs5⟩
     obtain ⟨g3, rfl⟩ := has_upd hf
     clear hf
     refine aaL [6] (fa_one ?_)
     refine one_ rfl ?_
     refine q trivial rfl rfl (ldo1n (g := I) (ys := ([0, 1, 10, 255, r1'] : List Int)) (o := r4'.toNat) 0 hs5 1 rfl rfl (by first | omega | (simp; done) | (simp; omega)) one3) ?_
     exact nl (kq ⟨_, hs5, trivial⟩ (alc D_1_0 ⟨r1', q1', b2', r4', q4', r8', q8', r10', q10', r12', q12', ⟨rfl, rfl, rfl, rfl, rfl, trivial⟩, p21, p22, p23, p24, p25, p26, p27, p28, p29, p30, hs5⟩))
   refine dag (fuel' := 4) (listed' := lbits 15 3071) (fun f w' => ∃ (r1' : Int) (q1' b2' : Nat) (r4' : Int) (q4' : Nat) (r8' : Int) (q8' : Nat), Has f [(0, pB rb), (10, I (([0, 1, 10, 255, r1'] : List Int).getD r4'.toNat 0)), (12, I r8'), (13, pB rb), (15, pB rb)] ∧ (0 ≤ r1' ∧ (r1' < 256 ∨ r1' = 0)) ∧ (q1' ≤ p + 1) ∧ (0 ≤ r4' ∧ (r4' < 5 ∨ r4' = 0)) ∧ (q4' ≤ q1' + 1) ∧ (0 ≤ r8' ∧ (r8' < 2 ∨ r8' = 0)) ∧ (q8' ≤ q4' + 1) ∧ SH w w' [rb] [.blk rb 74 [.slice Ab bs.length cb, I ((q8' : Nat) : Int)], oI b2' ([0, 1, 10, 255, r1'] : List Int) 5 3]) ?_ (fun D_1_3 => ?_)
   · rintro f w6 ⟨r1', q1', b2', r4', q4', r8', q8', hf, p31, p32, p33, p34, p35, p36, hs6⟩
     obtain ⟨g4, rfl⟩ := has_upd hf
     clear hf
     refine aaL [10] (fa_one ?_)
     refine one_ rfl ?_
     refine cl trivial rfl (pick (rb := rb) (Ab := Ab) (cb := cb) (bs := bs) (p := q8') (n := 2) (w := _) (hr := (blk_heap hs6 0 rfl)) (hb := (hb.up hs6 (fun _ h => h) (fun _ h => .inl h))) (hbn := (by first | assumption | (simp; omega))) (hp := (by omega))) ?_
     rintro _ w7 ⟨r10', q10', rfl, p37, p38, hs7'⟩
     have hs7 := hs6.callM 0 rfl hs7' (by intro k hk; simp at hk; exact hk.symm)
     clear hs7'
     exact nl (kq ⟨_, hs7, trivial⟩ (alc D_1_1 ⟨r1', q1', b2', r4', q4', r8', q8', r10', q10', ⟨rfl, rfl, rfl, rfl, rfl, trivial⟩, p31, p32, p33, p34, p35, p36, p37, p38, (hs7.pick [1, 0] rfl (by decide))⟩))
   refine dag (fuel' := 4) (listed' := lbits 15 4031) (fun f w' => ∃ (r1' : Int) (q1' b2' : Nat) (r4' : Int) (q4' : Nat) (r8' : Int) (q8' : Nat) (r10' : Int) (q10' : Nat), Has f [(0, pB rb), (9, .pointer (some ⟨b2', r4'.toNat * 1, none⟩)), (12, I r8'), (14, I r10'), (15, pB rb)] ∧ (0 ≤ r1' ∧ (r1' < 256 ∨ r1' = 0)) ∧ (q1' ≤ p + 1) ∧ (0 ≤ r4' ∧ (r4' < 5 ∨ r4' = 0)) ∧ (q4' ≤ q1' + 1) ∧ (0 ≤ r8' ∧ (r8' < 2 ∨ r8' = 0)) ∧ (q8' ≤ q4' + 1) ∧ (0 ≤ r10' ∧ (r10' < 2 ∨ r10' = 0)) ∧ (q10' ≤ q8' + 1) ∧ SH w w' [rb] [.blk rb 74 [.slice Ab bs.length cb, I ((q10' : Nat) : Int)], oI b2' ([0, 1, 10, 255, r1'] : List Int) 5 3]) ?_ (fun D_1_4 => ?_)
   · rintro f w8 ⟨r1', q1', b2', r4', q4', r8', q8', r10', q10', hf, p39, p40, p41, p42, p43, p44, p45, p46, hs8⟩
     obtain ⟨g5, rfl⟩ := has_upd hf
     clear hf
     refine aaL [6, 12] (fa_cons ?_ (fa_one ?_))
     · refine one_ rfl ?_
       refine q trivial rfl rfl (ldo1n (g := I) (ys := ([0, 1, 10, 255, r1'] : List Int)) (o := r4'.toNat) 0 hs8 1 rfl rfl (by first | omega | (simp; done) | (simp; omega)) one3) ?_
       exact nl (kq ⟨_, hs8, trivial⟩ (alc D_1_1 ⟨r1', q1', b2', r4', q4', r8', q8', r10', q10', ⟨rfl, rfl, rfl, rfl, rfl, trivial⟩, p39, p40, p41, p42, p43, p44, p45, p46, hs8⟩))
     · refine one_ rfl ?_
       refine cl trivial rfl (pick (rb := rb) (Ab := Ab) (cb := cb) (bs := bs) (p := q10') (n := 256) (w := _) (hr := (blk_heap hs8 0 rfl)) (hb := (hb.up hs8 (fun _ h => h) (fun _ h => .inl h))) (hbn := (by first | assumption | (simp; omega))) (hp := (by omega))) ?_
       rintro _ w9 ⟨r12', q12', rfl, p47, p48, hs9'⟩
       have hs9 := hs8.callM 0 rfl hs9' (by intro k hk; simp at hk; exact hk.symm)
       clear hs9'
       exact nl (kq ⟨_, hs9, trivial⟩ (alc D_1_2 ⟨r1', q1', b2', r4', q4', r8', q8', r10', q10', r12', q12', ⟨rfl, rfl, rfl, rfl, rfl, trivial⟩, p39, p40, p41, p42, p43, p44, p45, p46, p47, p48, (hs9.pick [1, 0] rfl (by decide))⟩))
   refine dag (fuel' := 5) (listed' := lbits 15 2815) (fun f w' => ∃ (r1' : Int) (q1' b2' : Nat) (r4' : Int) (q4' : Nat), Has f [(0, pB rb), (10, I (([0, 1, 10, 255, r1'] : List Int).getD r4'.toNat 0)), (11, pB rb), (13, pB rb), (15, pB rb)] ∧ (0 ≤ r1' ∧ (r1' < 256 ∨ r1' = 0)) ∧ (q1' ≤ p + 1) ∧ (0 ≤ r4' ∧ (r4' < 5 ∨ r4' = 0)) ∧ (q4' ≤ q1' + 1) ∧ SH w w' [rb] [.blk rb 74 [.slice Ab bs.length cb, I ((q4' : Nat) : Int)], oI b2' ([0, 1, 10, 255, r1'] : List Int) 5 3]) ?_ (fun D_1_5 => ?_)
   · rintro f w10 ⟨r1', q1', b2', r4', q4', hf, p49, p50, p51, p52, hs10⟩
     obtain ⟨g6, rfl⟩ := has_upd hf
     clear hf
     refine aaL [8] (fa_one ?_)
     refine one_ rfl ?_
     refine cl trivial rfl (pick (rb := rb) (Ab := Ab) (cb := cb) (bs := bs) (p := q4') (n := 2) (w := _) (hr := (blk_heap hs10 0 rfl)) (hb := (hb.up hs10 (fun _ h => h) (fun _ h => .inl h))) (hbn := (by first | assumption | (simp; omega))) (hp := (by omega))) ?_
     rintro _ w11 ⟨r8', q8', rfl, p53, p54, hs11'⟩
     have hs11 := hs10.callM 0 rfl hs11' (by intro k hk; simp at hk; exact hk.symm)
     clear hs11'
     exact nl (kq ⟨_, hs11, trivial⟩ (alc D_1_3 ⟨r1', q1', b2', r4', q4', r8', q8', ⟨rfl, rfl, rfl, rfl, rfl, trivial⟩, p49, p50, p51, p52, p53, p54, (hs11.pick [1, 0] rfl (by decide))⟩))
   refine dag (fuel' := 5) (listed' := lbits 15 3007) (fun f w' => ∃ (r1' : Int) (q1' b2' : Nat) (r4' : Int) (q4' : Nat) (r8' : Int) (q8' : Nat), Has f [(0, pB rb), (9, .pointer (some ⟨b2', r4'.toNat * 1, none⟩)), (12, I r8'), (13, pB rb), (15, pB rb)] ∧ (0 ≤ r1' ∧ (r1' < 256 ∨ r1' = 0)) ∧ (q1' ≤ p + 1) ∧ (0 ≤ r4' ∧ (r4' < 5 ∨ r4' = 0)) ∧ (q4' ≤ q1' + 1) ∧ (0 ≤ r8' ∧ (r8' < 2 ∨ r8' = 0)) ∧ (q8' ≤ q4' + 1) ∧ SH w w' [rb] [.blk rb 74 [.slice Ab bs.length cb, I ((q8' : Nat) : Int)], oI b2' ([0, 1, 10, 255, r1'] : List Int) 5 3]) ?_ (fun D_1_6 => ?_)
   · rintro f w12 ⟨r1', q1', b2', r4', q4', r8', q8', hf, p55, p56, p57, p58, p59, p60, hs12⟩
     obtain ⟨g7, rfl⟩ := has_upd hf
     clear hf
     refine aaL [6, 10] (fa_cons ?_ (fa_one ?_))
     · refine one_ rfl ?_
       refine q trivial rfl rfl (ldo1n (g := I) (ys := ([0, 1, 10, 255, r1'] : List Int)) (o := r4'.toNat) 0 hs12 1 rfl rfl (by first | omega | (simp; done) | (simp; omega)) one3) ?_
       exact nl (kq ⟨_, hs12, trivial⟩ (alc D_1_3 ⟨r1', q1', b2', r4', q4', r8', q8', ⟨rfl, rfl, rfl, rfl, rfl, trivial⟩, p55, p56, p57, p58, p59, p60, hs12⟩))
     · refine one_ rfl ?_
       refine cl trivial rfl (pick (rb := rb) (Ab := Ab) (cb := cb) (bs := bs) (p := q8') (n := 2) (w := _) (hr := (blk_heap hs12 0 rfl)) (hb := (hb.up hs12 (fun _ h => h) (fun _ h => .inl h))) (hbn := (by first | assumption | (simp; omega))) (hp := (by omega))) ?_
       rintro _ w13 ⟨r10', q10', rfl, p61, p62, hs13'⟩
       have hs13 := hs12.callM 0 rfl hs13' (by intro k hk; simp at hk; exact hk.symm)
       clear hs13'
       exact nl (kq ⟨_, hs13, trivial⟩ (alc D_1_4 ⟨r1', q1', b2', r4', q4', r8', q8', r10', q10', ⟨rfl, rfl, rfl, rfl, rfl, trivial⟩, p55, p56, p57, p58, p59, p60, p61, p62, (hs13.pick [1, 0] rfl (by decide))⟩))
   refine dag (fuel' := 5) (listed' := lbits 15 8091) (fun f w' => ∃ (r1' : Int) (q1' : Nat) (r4' : Int) (q4' : Nat) (r8' : Int) (q8' : Nat) (r10' : Int) (q10' : Nat) (r12' : Int) (q12' : Nat), Has f [(0, pB rb), (5, I r1'), (8, I r4'), (12, I r8'), (14, I r10'), (16, I r12')] ∧ (0 ≤ r1' ∧ (r1' < 256 ∨ r1' = 0)) ∧ (q1' ≤ p + 1) ∧ (0 ≤ r4' ∧ (r4' < 5 ∨ r4' = 0)) ∧ (q4' ≤ q1' + 1) ∧ (0 ≤ r8' ∧ (r8' < 2 ∨ r8' = 0)) ∧ (q8' ≤ q4' + 1) ∧ (0 ≤ r10' ∧ (r10' < 2 ∨ r10' = 0)) ∧ (q10' ≤ q8' + 1) ∧ (0 ≤ r12' ∧ (r12' < 256 ∨ r12' = 0)) ∧ (q12' ≤ q10' + 1) ∧ SH w w' [rb] [.blk rb 74 [.slice Ab bs.length cb, I ((q12' : Nat) : Int)]]) ?_ (fun D_1_7 => ?_)
   · rintro f w14 ⟨r1', q1', r4', q4', r8', q8', r10', q10', r12', q12', hf, p63, p64, p65, p66, p67, p68, p69, p70, p71, p72, hs14⟩
     obtain ⟨g8, rfl⟩ := has_upd hf
     clear hf
     refine aaL [2] (fa_one ?_)
     refine one_ rfl ?_
     refine bsk hs14 sl23 [I 0, I 1, I 10, I 255, I r1'] [I 0, I 1, I 10, I 255, I r1'] trivial rfl (fun b2' w15 hs15 => ?_)
     refine nl (kq ⟨_, hs15, trivial⟩ ?_)
     refine tk (fuel := 3) (is := [5]) (.cons rfl (.nil)) (by kernel_rfl) (by kernel_rfl) ⟨_, hs15, trivial⟩ ?_
     refine .op trivial rfl rfl (fun wq _ => ixo r4'.toNat sl23 rfl (ieq (x := r4') (by omega)) (by first | omega | (simp; done) | (simp; omega))) ?_
     refine .nil ?_
     exact alc D_1_2 ⟨r1', q1', b2', r4', q4', r8', q8', r10', q10', r12', q12', ⟨rfl, rfl, rfl, rfl, rfl, trivial⟩, p63, p64, p65, p66, p67, p68, p69, p70, p71, p72, hs15⟩
   refine dag (fuel' := 6) (listed' := lbits 15 2751) (fun f w' => ∃ (r1' : Int) (q1' b2' : Nat) (r4' : Int) (q4' : Nat), Has f [(0, pB rb), (9, .pointer (some ⟨b2', r4'.toNat * 1, none⟩)), (11, pB rb), (13, pB rb), (15, pB rb)] ∧ (0 ≤ r1' ∧ (r1' < 256 ∨ r1' = 0)) ∧ (q1' ≤ p + 1) ∧ (0 ≤ r4' ∧ (r4' < 5 ∨ r4' = 0)) ∧ (q4' ≤ q1' + 1) ∧ SH w w' [rb] [.blk rb 74 [.slice Ab bs.length cb, I ((q4' : Nat) : Int)], oI b2' ([0, 1, 10, 255, r1'] : List Int) 5 3]) ?_ (fun D_1_8 => ?_)
   · rintro f w16 ⟨r1', q1', b2', r4', q4', hf, p73, p74, p75, p76, hs16⟩
     obtain ⟨g9, rfl⟩ := has_upd hf
     clear hf
     refine aaL [6, 8] (fa_cons ?_ (fa_one ?_))
     · refine one_ rfl ?_
       refine q trivial rfl rfl (ldo1n (g := I) (ys := ([0, 1, 10, 255, r1'] : List Int)) (o := r4'.toNat) 0 hs16 1 rfl rfl (by first | omega | (simp; done) | (simp; omega)) one3) ?_
       exact nl (kq ⟨_, hs16, trivial⟩ (alc D_1_5 ⟨r1', q1', b2', r4', q4', ⟨rfl, rfl, rfl, rfl, rfl, trivial⟩, p73, p74, p75, p76, hs16⟩))
     · refine one_ rfl ?_
       refine cl trivial rfl (pick (rb := rb) (Ab := Ab) (cb := cb) (bs := bs) (p := q4') (n := 2) (w := _) (hr := (blk_heap hs16 0 rfl)) (hb := (hb.up hs16 (fun _ h => h) (fun _ h => .inl h))) (hbn := (by first | assumption | (simp; omega))) (hp := (by omega))) ?_
       rintro _ w17 ⟨r8', q8', rfl, p77, p78, hs17'⟩
       have hs17 := hs16.callM 0 rfl hs17' (by intro k hk; simp at hk; exact hk.symm)
       clear hs17'
       exact nl (kq ⟨_, hs17, trivial⟩ (alc D_1_6 ⟨r1', q1', b2', r4', q4', r8', q8', ⟨rfl, rfl, rfl, rfl, rfl, trivial⟩, p73, p74, p75, p76, p77, p78, (hs17.pick [1, 0] rfl (by decide))⟩))
   refine dag (fuel' := 6) (listed' := lbits 15 3995) (fun f w' => ∃ (r1' : Int) (q1' : Nat) (r4' : Int) (q4' : Nat) (r8' : Int) (q8' : Nat) (r10' : Int) (q10' : Nat), Has f [(0, pB rb), (5, I r1'), (8, I r4'), (12, I r8'), (14, I r10'), (15, pB rb)] ∧ (0 ≤ r1' ∧ (r1' < 256 ∨ r1' = 0)) ∧ (q1' ≤ p + 1) ∧ (0 ≤ r4' ∧ (r4' < 5 ∨ r4' = 0)) ∧ (q4' ≤ q1' + 1) ∧ (0 ≤ r8' ∧ (r8' < 2 ∨ r8' = 0)) ∧ (q8' ≤ q4' + 1) ∧ (0 ≤ r10' ∧ (r10' < 2 ∨ r10' = 0)) ∧ (q10' ≤ q8' + 1) ∧ SH w w' [rb] [.blk rb 74 [.slice Ab bs.length cb, I ((q10' : Nat) : Int)]]) ?_ (fun D_1_9 => ?_)
   · rintro f w18 ⟨r1', q1', r4', q4', r8', q8', r10', q10', hf, p79, p80, p81, p82, p83, p84, p85, p86, hs18⟩
     obtain ⟨g10, rfl⟩ := has_upd hf
     clear hf
     refine aaL [2, 12] (fa_cons ?_ (fa_one ?_))
     · refine one_ rfl ?_
       refine bsk hs18 sl23 [I 0, I 1, I 10, I 255, I r1'] [I 0, I 1, I 10, I 255, I r1'] trivial rfl (fun b2' w19 hs19 => ?_)
       refine nl (kq ⟨_, hs19, trivial⟩ ?_)
       refine tk (fuel := 4) (is := [5]) (.cons rfl (.nil)) (by kernel_rfl) (by kernel_rfl) ⟨_, hs19, trivial⟩ ?_
       refine .op trivial rfl rfl (fun wq _ => ixo r4'.toNat sl23 rfl (ieq (x := r4') (by omega)) (by first | omega | (simp; done) | (simp; omega))) ?_
       refine .nil ?_
       exact alc D_1_4 ⟨r1', q1', b2', r4', q4', r8', q8', r10', q10', ⟨rfl, rfl, rfl, rfl, rfl, trivial⟩, p79, p80, p81, p82, p83, p84, p85, p86, hs19⟩
     · refine one_ rfl ?_
       refine cl trivial rfl (pick (rb := rb) (Ab := Ab) (cb := cb) (bs := bs) (p := q10') (n := 256) (w := _) (hr := (blk_heap hs18 0 rfl)) (hb := (hb.up hs18 (fun _ h => h) (fun _ h => .inl h))) (hbn := (by first | assumption | (simp; omega))) (hp := (by omega))) ?_
       rintro _ w20 ⟨r12', q12', rfl, p87, p88, hs20'⟩
       have hs20 := hs18.callM 0 rfl hs20' (by intro k hk; simp at hk; exact hk.symm)
       clear hs20'
       exact nl (kq ⟨_, hs20, trivial⟩ (alc D_1_7 ⟨r1', q1', r4', q4', r8', q8', r10', q10', r12', q12', ⟨rfl, rfl, rfl, rfl, rfl, rfl, trivial⟩, p79, p80, p81, p82, p83, p84, p85, p86, p87, p88, hs20⟩))
   refine dag (fuel' := 7) (listed' := lbits 15 2971) (fun f w' => ∃ (r1' : Int) (q1' : Nat) (r4' : Int) (q4' : Nat) (r8' : Int) (q8' : Nat), Has f [(0, pB rb), (5, I r1'), (8, I r4'), (12, I r8'), (13, pB rb), (15, pB rb)] ∧ (0 ≤ r1' ∧ (r1' < 256 ∨ r1' = 0)) ∧ (q1' ≤ p + 1) ∧ (0 ≤ r4' ∧ (r4' < 5 ∨ r4' = 0)) ∧ (q4' ≤ q1' + 1) ∧ (0 ≤ r8' ∧ (r8' < 2 ∨ r8' = 0)) ∧ (q8' ≤ q4' + 1) ∧ SH w w' [rb] [.blk rb 74 [.slice Ab bs.length cb, I ((q8' : Nat) : Int)]]) ?_ (fun D_1_10 => ?_)
   · rintro f w21 ⟨r1', q1', r4', q4', r8', q8', hf, p89, p90, p91, p92, p93, p94, hs21⟩
     obtain ⟨g11, rfl⟩ := has_upd hf
     clear hf
     refine aaL [2, 10] (fa_cons ?_ (fa_one ?_))
     · refine one_ rfl ?_
       refine bsk hs21 sl23 [I 0, I 1, I 10, I 255, I r1'] [I 0, I 1, I 10, I 255, I r1'] trivial rfl (fun b2' w22 hs22 => ?_)
       refine nl (kq ⟨_, hs22, trivial⟩ ?_)
       refine tk (fuel := 5) (is := [5]) (.cons rfl (.nil)) (by kernel_rfl) (by kernel_rfl) ⟨_, hs22, trivial⟩ ?_
       refine .op trivial rfl rfl (fun wq _ => ixo r4'.toNat sl23 rfl (ieq (x := r4') (by omega)) (by first | omega | (simp; done) | (simp; omega))) ?_
       refine .nil ?_
       exact alc D_1_6 ⟨r1', q1', b2', r4', q4', r8', q8', ⟨rfl, rfl, rfl, rfl, rfl, trivial⟩, p89, p90, p91, p92, p93, p94, hs22⟩
     · refine one_ rfl ?_
       refine cl trivial rfl (pick (rb := rb) (Ab := Ab) (cb := cb) (bs := bs) (p := q8') (n := 2) (w := _) (hr := (blk_heap hs21 0 rfl)) (hb := (hb.up hs21 (fun _ h => h) (fun _ h => .inl h))) (hbn := (by first | assumption | (simp; omega))) (hp := (by omega))) ?_
       rintro _ w23 ⟨r10', q10', rfl, p95, p96, hs23'⟩
       have hs23 := hs21.callM 0 rfl hs23' (by intro k hk; simp at hk; exact hk.symm)
       clear hs23'
       exact nl (kq ⟨_, hs23, trivial⟩ (alc D_1_9 ⟨r1', q1', r4', q4', r8', q8', r10', q10', ⟨rfl, rfl, rfl, rfl, rfl, rfl, trivial⟩, p89, p90, p91, p92, p93, p94, p95, p96, hs23⟩))
   refine dag (fuel' := 8) (listed' := lbits 15 2703) (fun f w' => ∃ (r1' : Int) (q1' b2' : Nat), Has f [(0, pB rb), (6, sb b2' (([0, 1, 10, 255, r1'] : List Int).length) 5), (7, pB rb), (11, pB rb), (13, pB rb), (15, pB rb)] ∧ (0 ≤ r1' ∧ (r1' < 256 ∨ r1' = 0)) ∧ (q1' ≤ p + 1) ∧ SH w w' [rb] [.blk rb 74 [.slice Ab bs.length cb, I ((q1' : Nat) : Int)], oI b2' ([0, 1, 10, 255, r1'] : List Int) 5 3]) ?_ (fun D_1_11 => ?_)
   · rintro f w24 ⟨r1', q1', b2', hf, p97, p98, hs24⟩
     obtain ⟨g12, rfl⟩ := has_upd hf
     clear hf
     refine aaL [4] (fa_one ?_)
     refine one_ rfl ?_
     refine cl trivial rfl (pick (rb := rb) (Ab := Ab) (cb := cb) (bs := bs) (p := q1') (n := 5) (w := _) (hr := (blk_heap hs24 0 rfl)) (hb := (hb.up hs24 (fun _ h => h) (fun _ h => .inl h))) (hbn := (by first | assumption | (simp; omega))) (hp := (by omega))) ?_
     rintro _ w25 ⟨r4', q4', rfl, p99, p100, hs25'⟩
     have hs25 := hs24.callM 0 rfl hs25' (by intro k hk; simp at hk; exact hk.symm)
     clear hs25'
     refine nl (kq ⟨_, hs25, trivial⟩ ?_)
     refine tk (fuel := 6) (is := [5]) (.cons rfl (.nil)) (by kernel_rfl) (by kernel_rfl) ⟨_, hs25, trivial⟩ ?_
     refine .op trivial rfl rfl (fun wq _ => ixo r4'.toNat sl23 rfl (ieq (x := r4') (by omega)) (by first | omega | (simp; done) | (simp; omega))) ?_
     refine .nil ?_
     exact alc D_1_8 ⟨r1', q1', b2', r4', q4', ⟨rfl, rfl, rfl, rfl, rfl, trivial⟩, p97, p98, p99, p100, (hs25.pick [1, 0] rfl (by decide))⟩
   refine dag (fuel' := 8) (listed' := lbits 15 2715) (fun f w' => ∃ (r1' : Int) (q1' : Nat) (r4' : Int) (q4' : Nat), Has f [(0, pB rb), (5, I r1'), (8, I r4'), (11, pB rb), (13, pB rb), (15, pB rb)] ∧ (0 ≤ r1' ∧ (r1' < 256 ∨ r1' = 0)) ∧ (q1' ≤ p + 1) ∧ (0 ≤ r4' ∧ (r4' < 5 ∨ r4' = 0)) ∧ (q4' ≤ q1' + 1) ∧ SH w w' [rb] [.blk rb 74 [.slice Ab bs.length cb, I ((q4' : Nat) : Int)]]) ?_ (fun D_1_12 => ?_)
   · rintro f w26 ⟨r1', q1', r4', q4', hf, p101, p102, p103, p104, hs26⟩
     obtain ⟨g13, rfl⟩ := has_upd hf
     clear hf
     refine aaL [2, 8] (fa_cons ?_ (fa_one ?_))
     · refine one_ rfl ?_
       refine bsk hs26 sl23 [I 0, I 1, I 10, I 255, I r1'] [I 0, I 1, I 10, I 255, I r1'] trivial rfl (fun b2' w27 hs27 => ?_)
       refine nl (kq ⟨_, hs27, trivial⟩ ?_)
       refine tk (fuel := 6) (is := [5]) (.cons rfl (.nil)) (by kernel_rfl) (by kernel_rfl) ⟨_, hs27, trivial⟩ ?_
       refine .op trivial rfl rfl (fun wq _ => ixo r4'.toNat sl23 rfl (ieq (x := r4') (by omega)) (by first | omega | (simp; done) | (simp; omega))) ?_
       refine .nil ?_
       exact alc D_1_8 ⟨r1', q1', b2', r4', q4', ⟨rfl, rfl, rfl, rfl, rfl, trivial⟩, p101, p102, p103, p104, hs27⟩
     · refine one_ rfl ?_
       refine cl trivial rfl (pick (rb := rb) (Ab := Ab) (cb := cb) (bs := bs) (p := q4') (n := 2) (w := _) (hr := (blk_heap hs26 0 rfl)) (hb := (hb.up hs26 (fun _ h => h) (fun _ h => .inl h))) (hbn := (by first | assumption | (simp; omega))) (hp := (by omega))) ?_
       rintro _ w28 ⟨r8', q8', rfl, p105, p106, hs28'⟩
       have hs28 := hs26.callM 0 rfl hs28' (by intro k hk; simp at hk; exact hk.symm)
       clear hs28'
       exact nl (kq ⟨_, hs28, trivial⟩ (alc D_1_10 ⟨r1', q1', r4', q4', r8', q8', ⟨rfl, rfl, rfl, rfl, rfl, rfl, trivial⟩, p101, p102, p103, p104, p105, p106, hs28⟩))
   refine dag (fuel' := 9) (listed' := lbits 15 2699) (fun f w' => ∃ (r1' : Int) (q1' : Nat), Has f [(0, pB rb), (5, I r1'), (7, pB rb), (11, pB rb), (13, pB rb), (15, pB rb)] ∧ (0 ≤ r1' ∧ (r1' < 256 ∨ r1' = 0)) ∧ (q1' ≤ p + 1) ∧ SH w w' [rb] [.blk rb 74 [.slice Ab bs.length cb, I ((q1' : Nat) : Int)]]) ?_ (fun D_1_13 => ?_)
   · rintro f w29 ⟨r1', q1', hf, p107, p108, hs29⟩
     obtain ⟨g14, rfl⟩ := has_upd hf
     clear hf
     refine aaL [2, 4] (fa_cons ?_ (fa_one ?_))
     · refine one_ rfl ?_
       refine bsk hs29 sl23 [I 0, I 1, I 10, I 255, I r1'] [I 0, I 1, I 10, I 255, I r1'] trivial rfl (fun b2' w30 hs30 => ?_)
       exact nl (kq ⟨_, hs30, trivial⟩ (alc D_1_11 ⟨r1', q1', b2', ⟨rfl, rfl, rfl, rfl, rfl, rfl, trivial⟩, p107, p108, hs30⟩))
     · refine one_ rfl ?_
       refine cl trivial rfl (pick (rb := rb) (Ab := Ab) (cb := cb) (bs := bs) (p := q1') (n := 5) (w := _) (hr := (blk_heap hs29 0 rfl)) (hb := (hb.up hs29 (fun _ h => h) (fun _ h => .inl h))) (hbn := (by first | assumption | (simp; omega))) (hp := (by omega))) ?_
       rintro _ w31 ⟨r4', q4', rfl, p109, p110, hs31'⟩
       have hs31 := hs29.callM 0 rfl hs31' (by intro k hk; simp at hk; exact hk.symm)
       clear hs31'
       exact nl (kq ⟨_, hs31, trivial⟩ (alc D_1_12 ⟨r1', q1', r4', q4', ⟨rfl, rfl, rfl, rfl, rfl, rfl, trivial⟩, p107, p108, p109, p110, hs31⟩))
   refine dag (fuel' := 10) (listed' := lbits 15 2697) (fun f w' => Has f [(0, pB rb), (4, pB rb), (7, pB rb), (11, pB rb), (13, pB rb), (15, pB rb)] ∧ SH w w' [rb] [.blk rb 74 [.slice Ab bs.length cb, I ((p : Nat) : Int)]]) ?_ (fun D_1_14 => ?_)
   · rintro f w32 ⟨hf, hs32⟩
     obtain ⟨g15, rfl⟩ := has_upd hf
     clear hf
     refine aaL [1] (fa_one ?_)
     refine one_ rfl ?_
     refine cl trivial rfl (pick (rb := rb) (Ab := Ab) (cb := cb) (bs := bs) (p := p) (n := 256) (w := _) (hr := (blk_heap hs32 0 rfl)) (hb := (hb.up hs32 (fun _ h => h) (fun _ h => .inl h))) (hbn := (by first | assumption | (simp; omega))) (hp := (by omega))) ?_
     rintro _ w33 ⟨r1', q1', rfl, p111, p112, hs33'⟩
     have hs33 := hs32.callM 0 rfl hs33' (by intro k hk; simp at hk; exact hk.symm)
     clear hs33'
     exact nl (kq ⟨_, hs33, trivial⟩ (alc D_1_13 ⟨r1', q1', ⟨rfl, rfl, rfl, rfl, rfl, rfl, trivial⟩, p111, p112, hs33⟩))
   have hs34 := hs0.drew
   refine tk (fuel := 10) (is := [0, 3, 7, 9, 11]) (.cons rfl (.cons rfl (.cons rfl (.cons rfl (.cons rfl (.nil)))))) (by kernel_rfl) (by kernel_rfl) ⟨_, hs34, trivial⟩ ?_
   refine .op trivial rfl rfl (fun wq _ => mv (v := pB rb) rfl) ?_
   refine .op trivial rfl rfl (fun wq _ => mv (v := pB rb) rfl) ?_
   refine .op trivial rfl rfl (fun wq _ => mv (v := pB rb) rfl) ?_
   refine .op trivial rfl rfl (fun wq _ => mv (v := pB rb) rfl) ?_
   refine .op trivial rfl rfl (fun wq _ => mv (v := pB rb) rfl) ?_
   refine .nil ?_
   exact alc D_1_14 ⟨⟨rfl, rfl, rfl, rfl, rfl, rfl, trivial⟩, hs34⟩
 rintro f w34 ⟨r1', q1', b2', r4', q4', r8', q8', r10', q10', r12', q12', b13', hf, p113, p114, p115, p116, p117, p118, p119, p120, p121, p122, hs35⟩
 obtain ⟨g16, rfl⟩ := has_upd hf
 clear hf
 refine nN ?_
 refine sq ?_
 refine sq ?_
 refine rg ?_
 refine q trivial rfl rfl (mv (v := pB rb) rfl) ?_
 refine cl trivial rfl (pick (rb := rb) (Ab := Ab) (cb := cb) (bs := bs) (p := q12') (n := 40) (w := _) (hr := (blk_heap hs35 0 rfl)) (hb := (hb.up hs35 (fun _ h => h) (fun _ h => .inl h))) (hbn := (by first | assumption | (simp; omega))) (hp := (by omega))) ?_
 rintro _ w35 ⟨r1, q1, rfl, p123, p124, hs36'⟩
 have hs36 : SH w w35 [rb] [oI b13' ([([0, 1, 10, 255, r1'] : List Int).getD r4'.toNat 0, r8', r10', r12'] : List Int) 4 3, oI b2' ([0, 1, 10, 255, r1'] : List Int) 5 3, .blk rb 74 [.slice Ab bs.length cb, I ((q1 : Nat) : Int)]] := hs35.callM 0 rfl hs36' (by intro k hk; simp at hk; exact hk.symm)
 clear hs36'
 refine nl ?_
 refine nN ?_
 refine bl ?_
 refine sq ?_
 refine rg ?_
 refine q trivial rfl rfl (eqi (k := .i64) (a := r1) (b := 0) rfl rfl) ?_
 refine q trivial rfl rfl (asg (v := .bool (decide (r1 = 0))) rfl) ?_
 refine nl ?_
 refine nN ?_
 refine cdd (p := r1 = 0) rfl (fun h1 => ?_) (fun h1 => ?_)
 · refine rg ?_
   refine q trivial rfl rfl (mv (v := sb b13' (([([0, 1, 10, 255, r1'] : List Int).getD r4'.toNat 0, r8', r10', r12'] : List Int).length) 4) rfl) ?_
   refine q trivial rfl rfl (mv (v := pB rb) rfl) ?_
   refine cl trivial rfl (pick (rb := rb) (Ab := Ab) (cb := cb) (bs := bs) (p := q1) (n := 4) (w := _) (hr := (blk_heap hs36 2 rfl)) (hb := (hb.up hs36 (fun _ h => h) (fun _ h => .inl h))) (hbn := (by first | assumption | (simp; omega))) (hp := (by omega))) ?_
   rintro _ w36 ⟨r2, q2, rfl, p125, p126, hs37'⟩
   have hs37 : SH w w36 [rb] [oI b13' ([([0, 1, 10, 255, r1'] : List Int).getD r4'.toNat 0, r8', r10', r12'] : List Int) 4 3, oI b2' ([0, 1, 10, 255, r1'] : List Int) 5 3, .blk rb 74 [.slice Ab bs.length cb, I ((q2 : Nat) : Int)]] := hs36.callM 2 rfl hs37' (by intro k hk; simp at hk; exact hk.symm)
   clear hs37'
   refine q trivial rfl rfl (ixo r2.toNat sl23 rfl (ieq (x := r2) (by omega)) (by first | omega | (simp; done) | (simp; omega))) ?_
   refine stomn (g := I) (ys := ([([0, 1, 10, 255, r1'] : List Int).getD r4'.toNat 0, r8', r10', r12'] : List Int)) (o := r2.toNat) (u := 256) hs37 0 rfl rfl rfl rfl (by first | omega | (simp; done) | (simp; omega)) rfl one3 trivial (fun w37 (hs38 : SH w w37 [rb] [oI b2' ([0, 1, 10, 255, r1'] : List Int) 5 3, .blk rb 74 [.slice Ab bs.length cb, I ((q2 : Nat) : Int)], .own (some ⟨b13', 0, none⟩) (([([0, 1, 10, 255, r1'] : List Int).getD r4'.toNat 0, r8', r10', r12'] : List Int).length) 4 3 1 ((([([0, 1, 10, 255, r1'] : List Int).getD r4'.toNat 0, r8', r10', r12'] : List Int).set r2.toNat 256).map I)]) => ?_)
   refine nl ?_
   refine bN ?_
   refine nN ?_
   refine sq ?_
   refine rg ?_
   refine q trivial rfl rfl (mv (v := sb b13' (([([0, 1, 10, 255, r1'] : List Int).getD r4'.toNat 0, r8', r10', r12'] : List Int).length) 4) rfl) ?_
   refine q trivial rfl rfl (asg (v := sb b13' (([([0, 1, 10, 255, r1'] : List Int).getD r4'.toNat 0, r8', r10', r12'] : List Int).length) 4) rfl) ?_
   have e1 : ([([0, 1, 10, 255, r1'] : List Int).getD r4'.toNat 0, r8', r10', r12'] : List Int).length = (([([0, 1, 10, 255, r1'] : List Int).getD r4'.toNat 0, r8', r10', r12'] : List Int).set r2.toNat 256).length := by first | rfl | (simp; done) | (simp; omega) | (simp at *; omega)
   have hs39 : SH w w37 [rb] [oI b2' ([0, 1, 10, 255, r1'] : List Int) 5 3, .blk rb 74 [.slice Ab bs.length cb, I ((q2 : Nat) : Int)], oI b13' (([([0, 1, 10, 255, r1'] : List Int).getD r4'.toNat 0, r8', r10', r12'] : List Int).set r2.toNat 256) 4 3] := (hs38.cast (lc rfl (lc rfl (lc (own_eq (g := I) rfl e1 rfl rfl) rfl))))
   refine re 2 (v := sb b13' ((([([0, 1, 10, 255, r1'] : List Int).getD r4'.toNat 0, r8', r10', r12'] : List Int).set r2.toNat 256).length) 4) (show (sb b13' (([([0, 1, 10, 255, r1'] : List Int).getD r4'.toNat 0, r8', r10', r12'] : List Int).length) 4 : Value) = sb b13' ((([([0, 1, 10, 255, r1'] : List Int).getD r4'.toNat 0, r8', r10', r12'] : List Int).set r2.toNat 256).length) 4 from slv rfl e1 rfl) ?_
   refine nl ?_
   refine nN ?_
   refine rt ?_
   refine fret (v := sb b13' ((([([0, 1, 10, 255, r1'] : List Int).getD r4'.toNat 0, r8', r10', r12'] : List Int).set r2.toNat 256).length) 4) (.tmp .nil) rfl ?_
   exact ⟨(some ⟨b13', 0, none⟩), 4, ([([0, 1, 10, 255, r1'] : List Int).getD r4'.toNat 0, r8', r10', r12'] : List Int).set r2.toNat 256, q2, rfl, (by first | omega | (simp; omega) | simp), (by omega), (hs39.pick [1, 2] rfl (by decide))⟩
 · refine sq ?_
   refine rg ?_
   refine q trivial rfl rfl (eqi (k := .i64) (a := r1) (b := 1) rfl rfl) ?_
   refine q trivial rfl rfl (asg (v := .bool (decide (r1 = 1))) rfl) ?_
   refine nl ?_
   refine nN ?_
   refine cdd (p := r1 = 1) rfl (fun h2 => ?_) (fun h2 => ?_)
   · refine sq ?_
     refine rg ?_
     refine q trivial rfl rfl (mv (v := sb b13' (([([0, 1, 10, 255, r1'] : List Int).getD r4'.toNat 0, r8', r10', r12'] : List Int).length) 4) rfl) ?_
     have e2 : (([([0, 1, 10, 255, r1'] : List Int).getD r4'.toNat 0, r8', r10', r12'] : List Int).map I).take (3 * 1) = (([([0, 1, 10, 255, r1'] : List Int).getD r4'.toNat 0, r8', r10', r12'] : List Int).take 3).map I := by first | rfl | simp [List.map_take]
     have hs40 : SH w w35 [rb] [oI b2' ([0, 1, 10, 255, r1'] : List Int) 5 3, .blk rb 74 [.slice Ab bs.length cb, I ((q1 : Nat) : Int)], .own (some ⟨b13', 0, none⟩) 3 4 3 1 ((([([0, 1, 10, 255, r1'] : List Int).getD r4'.toNat 0, r8', r10', r12'] : List Int).take 3).map I)] := e2 ▸ SH.trunc hs36 0 (3) rfl (by first | omega | (simp; done) | (simp; omega))
     refine q trivial rfl rfl (cuh 3 sl23 rfl rfl (Nat.le_trans (by first | omega | (simp; done) | (simp; omega)) (own_cap hs36 0 rfl).1)) ?_
     refine q trivial rfl rfl (asg (v := sb b13' 3 4) rfl) ?_
     have e3 : 3 = (([([0, 1, 10, 255, r1'] : List Int).getD r4'.toNat 0, r8', r10', r12'] : List Int).take 3).length := by first | rfl | (simp; done) | (simp; omega) | (simp at *; omega)
     have hs41 : SH w w35 [rb] [oI b2' ([0, 1, 10, 255, r1'] : List Int) 5 3, .blk rb 74 [.slice Ab bs.length cb, I ((q1 : Nat) : Int)], oI b13' (([([0, 1, 10, 255, r1'] : List Int).getD r4'.toNat 0, r8', r10', r12'] : List Int).take 3) 4 3] := (hs40.cast (lc rfl (lc rfl (lc (own_eq (g := I) rfl e3 rfl rfl) rfl))))
     refine re 2 (v := sb b13' ((([([0, 1, 10, 255, r1'] : List Int).getD r4'.toNat 0, r8', r10', r12'] : List Int).take 3).length) 4) (show (sb b13' 3 4 : Value) = sb b13' ((([([0, 1, 10, 255, r1'] : List Int).getD r4'.toNat 0, r8', r10', r12'] : List Int).take 3).length) 4 from slv rfl e3 rfl) ?_
     refine nl ?_
     refine nN ?_
     refine rt (bR (tR ?_))
     refine fret (v := sb b13' ((([([0, 1, 10, 255, r1'] : List Int).getD r4'.toNat 0, r8', r10', r12'] : List Int).take 3).length) 4) (.tmp .nil) rfl ?_
     exact ⟨(some ⟨b13', 0, none⟩), 4, ([([0, 1, 10, 255, r1'] : List Int).getD r4'.toNat 0, r8', r10', r12'] : List Int).take 3, q1, rfl, (by first | omega | (simp; omega) | simp), (by omega), (hs41.pick [1, 2] rfl (by decide))⟩
   · refine sk ?_
     refine bN ?_
     refine nN ?_
     refine sq ?_
     refine rg ?_
     refine q trivial rfl rfl (mv (v := sb b13' (([([0, 1, 10, 255, r1'] : List Int).getD r4'.toNat 0, r8', r10', r12'] : List Int).length) 4) rfl) ?_
     refine q trivial rfl rfl (asg (v := sb b13' (([([0, 1, 10, 255, r1'] : List Int).getD r4'.toNat 0, r8', r10', r12'] : List Int).length) 4) rfl) ?_
     refine nl ?_
     refine nN ?_
     refine rt ?_
     refine fret (v := sb b13' (([([0, 1, 10, 255, r1'] : List Int).getD r4'.toNat 0, r8', r10', r12'] : List Int).length) 4) (.tmp .nil) rfl ?_
     exact ⟨(some ⟨b13', 0, none⟩), 4, ([([0, 1, 10, 255, r1'] : List Int).getD r4'.toNat 0, r8', r10', r12'] : List Int), q1, rfl, (by first | omega | (simp; omega) | simp), (by omega), (hs36.pick [2, 0] rfl (by decide))⟩

set_option maxHeartbeats 8000000 in
theorem l91Port {rb : Nat} {Ab : Option Addr} {cb : Nat} {bs : List UInt8} {p : Nat} (w : World) (hr : w.heap[rb]? = some (.cells [.slice Ab bs.length cb, .int .i64 ((p : Nat) : Int)].toArray 74 (0, 0))) (hb : Sl w [rb] 1 Ab bs.length cb (bs.map U)) (hbn : bs.length ≤ 2000) (hp : p ≤ 549755813888) : Does Tryd.prog 55 [pB rb] w (fun v w' => ∃ r : Int, ∃ q : Nat, v = .int .i64 r ∧ (q ≤ p + 10) ∧ SH w w' [rb] [.blk rb 74 [.slice Ab bs.length cb, I ((q : Nat) : Int)]]) := by
 refine fn_enter (N := 18) Tryd.func55 rfl (by kernel_rfl) rfl rfl rfl ?_
 have hs0 : SH w w [rb] [.blk rb 74 [.slice Ab bs.length cb, I ((p : Nat) : Int)]] := SH.entry1 hr
 refine sq ?_
 refine rg ?_
 refine q trivial rfl rfl (asg (v := I 0) rfl) ?_
 refine nl ?_
 refine nN ?_
 refine sq ?_
 refine sq ?_
 refine rg ?_
 refine q trivial rfl rfl (mv (v := pB rb) rfl) ?_
 refine cl trivial rfl (pick (rb := rb) (Ab := Ab) (cb := cb) (bs := bs) (p := p) (n := 40) (w := _) (hr := (blk_heap hs0 0 rfl)) (hb := (hb.up hs0 (fun _ h => h) (fun _ h => .inl h))) (hbn := (by first | assumption | (simp; omega))) (hp := (by omega))) ?_
 rintro _ w1 ⟨r1, q1, rfl, p1, p2, hs1'⟩
 have hs1 : SH w w1 [rb] [.blk rb 74 [.slice Ab bs.length cb, I ((q1 : Nat) : Int)]] := hs0.callM 0 rfl hs1' (by intro k hk; simp at hk; exact hk.symm)
 clear hs1'
 refine q trivial rfl rfl (eqi (k := .i64) (a := r1) (b := 0) rfl rfl) ?_
 refine nl ?_
 refine nN ?_
 refine cdd (p := r1 = 0) rfl (fun h1 => ?_) (fun h1 => ?_)
 · refine sq ?_
   refine rg ?_
   refine bsk hs1 sl23 [I (-1), I 65536] [I (-1), I 65536] trivial rfl (fun b1 w2 (hs2 : SH w w2 [rb] [.blk rb 74 [.slice Ab bs.length cb, I ((q1 : Nat) : Int)], oI b1 ([(-1), 65536] : List Int) 2 3]) => ?_)
   refine q trivial rfl rfl (mv (v := pB rb) rfl) ?_
   refine cl trivial rfl (pick (rb := rb) (Ab := Ab) (cb := cb) (bs := bs) (p := q1) (n := 2) (w := _) (hr := (blk_heap hs2 0 rfl)) (hb := (hb.up hs2 (fun _ h => h) (fun _ h => .inl h))) (hbn := (by first | assumption | (simp; omega))) (hp := (by omega))) ?_
   rintro _ w3 ⟨r2, q2, rfl, p3, p4, hs3'⟩
   have hs3 : SH w w3 [rb] [oI b1 ([(-1), 65536] : List Int) 2 3, .blk rb 74 [.slice Ab bs.length cb, I ((q2 : Nat) : Int)]] := hs2.callM 0 rfl hs3' (by intro k hk; simp at hk; exact hk.symm)
   clear hs3'
   refine q trivial rfl rfl (ixo r2.toNat sl23 rfl (ieq (x := r2) (by omega)) (by first | omega | (simp; done) | (simp; omega))) ?_
   refine q trivial rfl rfl (ldo1n (g := I) (ys := ([(-1), 65536] : List Int)) (o := r2.toNat) 0 hs3 0 rfl rfl (by first | omega | (simp; done) | (simp; omega)) one3) ?_
   refine q trivial rfl rfl (asg (v := I (([(-1), 65536] : List Int).getD r2.toNat 0)) rfl) ?_
   refine nl ?_
   refine nN ?_
   refine rt (tR ?_)
   refine fret (v := I (([(-1), 65536] : List Int).getD r2.toNat 0)) (.tmp .nil) rfl ?_
   exact ⟨([(-1), 65536] : List Int).getD r2.toNat 0, q2, rfl, (by omega), (hs3.pick [1] rfl (by decide))⟩
 · refine sk ?_
   refine nN ?_
   refine sq ?_
   refine rg ?_
   refine q trivial rfl rfl (mv (v := pB rb) rfl) ?_
   refine cl trivial rfl (pick (rb := rb) (Ab := Ab) (cb := cb) (bs := bs) (p := q1) (n := 65536) (w := _) (hr := (blk_heap hs1 0 rfl)) (hb := (hb.up hs1 (fun _ h => h) (fun _ h => .inl h))) (hbn := (by first | assumption | (simp; omega))) (hp := (by omega))) ?_
   rintro _ w4 ⟨r3, q3, rfl, p5, p6, hs4'⟩
   have hs4 : SH w w4 [rb] [.blk rb 74 [.slice Ab bs.length cb, I ((q3 : Nat) : Int)]] := hs1.callM 0 rfl hs4' (by intro k hk; simp at hk; exact hk.symm)
   clear hs4'
   refine bsk hs4 sl23 [I 0, I 80, I 443, I 65535, I r3] [I 0, I 80, I 443, I 65535, I r3] trivial rfl (fun b2 w5 (hs5 : SH w w5 [rb] [.blk rb 74 [.slice Ab bs.length cb, I ((q3 : Nat) : Int)], oI b2 ([0, 80, 443, 65535, r3] : List Int) 5 3]) => ?_)
   refine q trivial rfl rfl (mv (v := pB rb) rfl) ?_
   refine cl trivial rfl (pick (rb := rb) (Ab := Ab) (cb := cb) (bs := bs) (p := q3) (n := 5) (w := _) (hr := (blk_heap hs5 0 rfl)) (hb := (hb.up hs5 (fun _ h => h) (fun _ h => .inl h))) (hbn := (by first | assumption | (simp; omega))) (hp := (by omega))) ?_
   rintro _ w6 ⟨r4, q4, rfl, p7, p8, hs6'⟩
   have hs6 : SH w w6 [rb] [oI b2 ([0, 80, 443, 65535, r3] : List Int) 5 3, .blk rb 74 [.slice Ab bs.length cb, I ((q4 : Nat) : Int)]] := hs5.callM 0 rfl hs6' (by intro k hk; simp at hk; exact hk.symm)
   clear hs6'
   refine q trivial rfl rfl (ixo r4.toNat sl23 rfl (ieq (x := r4) (by omega)) (by first | omega | (simp; done) | (simp; omega))) ?_
   refine q trivial rfl rfl (ldo1n (g := I) (ys := ([0, 80, 443, 65535, r3] : List Int)) (o := r4.toNat) 0 hs6 0 rfl rfl (by first | omega | (simp; done) | (simp; omega)) one3) ?_
   refine q trivial rfl rfl (asg (v := I (([0, 80, 443, 65535, r3] : List Int).getD r4.toNat 0)) rfl) ?_
   refine nl ?_
   refine nN ?_
   refine rt ?_
   refine fret (v := I (([0, 80, 443, 65535, r3] : List Int).getD r4.toNat 0)) (.tmp .nil) rfl ?_
   exact ⟨([0, 80, 443, 65535, r3] : List Int).getD r4.toNat 0, q4, rfl, (by omega), (hs6.pick [1] rfl (by decide))⟩

theorem l91Name {rb : Nat} {Ab : Option Addr} {cb : Nat} {bs : List UInt8} {p : Nat} (w : World) (hr : w.heap[rb]? = some (.cells [.slice Ab bs.length cb, .int .i64 ((p : Nat) : Int)].toArray 74 (0, 0))) (hb : Sl w [rb] 1 Ab bs.length cb (bs.map U)) (hbn : bs.length ≤ 2000) (hp : p ≤ 274877906944) : Does Tryd.prog 56 [pB rb] w (fun v w' => ∃ s : List UInt8, ∃ q : Nat, v = Str s ∧ (s.length ≤ 21) ∧ (q ≤ p + 10) ∧ SH w w' [rb] [.blk rb 74 [.slice Ab bs.length cb, I ((q : Nat) : Int)]]) := by
 refine fn_enter (N := 12) Tryd.func56 rfl (by kernel_rfl) rfl rfl rfl ?_
 have hs0 : SH w w [rb] [.blk rb 74 [.slice Ab bs.length cb, I ((p : Nat) : Int)]] := SH.entry1 hr
 refine sq ?_
 refine rg ?_
 refine q trivial rfl rfl (asg (v := Str []) rfl) ?_
 refine nl ?_
 refine nN ?_
 refine sq ?_
 refine sq ?_
 refine rg ?_
 refine q trivial rfl rfl (mv (v := pB rb) rfl) ?_
 refine cl trivial rfl (pick (rb := rb) (Ab := Ab) (cb := cb) (bs := bs) (p := p) (n := 20) (w := _) (hr := (blk_heap hs0 0 rfl)) (hb := (hb.up hs0 (fun _ h => h) (fun _ h => .inl h))) (hbn := (by first | assumption | (simp; omega))) (hp := (by omega))) ?_
 rintro _ w1 ⟨r1, q1, rfl, p1, p2, hs1'⟩
 have hs1 : SH w w1 [rb] [.blk rb 74 [.slice Ab bs.length cb, I ((q1 : Nat) : Int)]] := hs0.callM 0 rfl hs1' (by intro k hk; simp at hk; exact hk.symm)
 clear hs1'
 refine q trivial rfl rfl (eqi (k := .i64) (a := r1) (b := 0) rfl rfl) ?_
 refine nl ?_
 refine nN ?_
 refine cdd (p := r1 = 0) rfl (fun h1 => ?_) (fun h1 => ?_)
 · refine sq ?_
   refine rg ?_
   refine q trivial rfl rfl (mv (v := pB rb) rfl) ?_
   refine bsk hs1 sl77 [Str [], Str [97, 46, 46, 98], Str [46, 97], Str [97, 46], Str [65], Str [97, 95, 98], Str [97, 98, 99, 100, 101, 102, 103, 104, 105, 106, 107, 108, 109, 110, 111, 112, 113, 114, 115, 116], Str [97, 98, 99, 100, 101, 102, 103, 104, 105, 106, 107, 108, 109, 110, 111, 112, 113, 114, 115, 116, 117], Str [97, 46, 57]] [Str [], Str [97, 46, 46, 98], Str [46, 97], Str [97, 46], Str [65], Str [97, 95, 98], Str [97, 98, 99, 100, 101, 102, 103, 104, 105, 106, 107, 108, 109, 110, 111, 112, 113, 114, 115, 116], Str [97, 98, 99, 100, 101, 102, 103, 104, 105, 106, 107, 108, 109, 110, 111, 112, 113, 114, 115, 116, 117], Str [97, 46, 57]] trivial rfl (fun b1 w2 (hs2 : SH w w2 [rb] [.blk rb 74 [.slice Ab bs.length cb, I ((q1 : Nat) : Int)], .own (some ⟨b1, 0, none⟩) (([[], [97, 46, 46, 98], [46, 97], [97, 46], [65], [97, 95, 98], [97, 98, 99, 100, 101, 102, 103, 104, 105, 106, 107, 108, 109, 110, 111, 112, 113, 114, 115, 116], [97, 98, 99, 100, 101, 102, 103, 104, 105, 106, 107, 108, 109, 110, 111, 112, 113, 114, 115, 116, 117], [97, 46, 57]] : List (List UInt8)).length) 9 9 1 (([[], [97, 46, 46, 98], [46, 97], [97, 46], [65], [97, 95, 98], [97, 98, 99, 100, 101, 102, 103, 104, 105, 106, 107, 108, 109, 110, 111, 112, 113, 114, 115, 116], [97, 98, 99, 100, 101, 102, 103, 104, 105, 106, 107, 108, 109, 110, 111, 112, 113, 114, 115, 116, 117], [97, 46, 57]] : List (List UInt8)).map Str)]) => ?_)
   refine cl trivial rfl (rdOf (rb := rb) (Ab := Ab) (cb := cb) (bs := bs) (p := q1) (Ass := (some ⟨b1, 0, none⟩)) (css := 9) (ss := ([[], [97, 46, 46, 98], [46, 97], [97, 46], [65], [97, 95, 98], [97, 98, 99, 100, 101, 102, 103, 104, 105, 106, 107, 108, 109, 110, 111, 112, 113, 114, 115, 116], [97, 98, 99, 100, 101, 102, 103, 104, 105, 106, 107, 108, 109, 110, 111, 112, 113, 114, 115, 116, 117], [97, 46, 57]] : List (List UInt8))) (w := _) (hr := (blk_heap hs2 0 rfl)) (hb := (hb.up hs2 (fun _ h => h) (fun _ h => .inl h))) (hbn := (by first | assumption | (simp; omega))) (hp := (by omega)) (hss := (hs2.sl 1 rfl (by intro k hk; simp at hk; subst hk; exact ⟨_, memi 0 rfl, rfl⟩))) (hne := (by first | omega | assumption | (simp; done) | (simp; omega)))) ?_
   rintro _ w3 ⟨s1, q2, rfl, p3, p4, hs3'⟩
   have hs3 : SH w w3 [rb] [.own (some ⟨b1, 0, none⟩) (([[], [97, 46, 46, 98], [46, 97], [97, 46], [65], [97, 95, 98], [97, 98, 99, 100, 101, 102, 103, 104, 105, 106, 107, 108, 109, 110, 111, 112, 113, 114, 115, 116], [97, 98, 99, 100, 101, 102, 103, 104, 105, 106, 107, 108, 109, 110, 111, 112, 113, 114, 115, 116, 117], [97, 46, 57]] : List (List UInt8)).length) 9 9 1 (([[], [97, 46, 46, 98], [46, 97], [97, 46], [65], [97, 95, 98], [97, 98, 99, 100, 101, 102, 103, 104, 105, 106, 107, 108, 109, 110, 111, 112, 113, 114, 115, 116], [97, 98, 99, 100, 101, 102, 103, 104, 105, 106, 107, 108, 109, 110, 111, 112, 113, 114, 115, 116, 117], [97, 46, 57]] : List (List UInt8)).map Str), .blk rb 74 [.slice Ab bs.length cb, I ((q2 : Nat) : Int)]] := hs2.callM 0 rfl hs3' (by intro k hk; simp at hk; exact hk.symm)
   clear hs3'
   refine q trivial rfl rfl (asg (v := Str s1) rfl) ?_
   refine nl ?_
   refine nN ?_
   refine rt (tR ?_)
   refine fret (v := Str s1) (.tmp .nil) rfl ?_
   exact ⟨s1, q2, rfl, (by first | exact names9 (by assumption) | exact names6 (by assumption)), (by omega), (hs3.pick [1] rfl (by decide))⟩
 · refine sk ?_
   refine nN ?_
   refine sq ?_
   refine rg ?_
   refine q trivial rfl rfl (mv (v := pB rb) rfl) ?_
   refine bsk hs1 sl77 [Str [120, 46, 111, 114, 103], Str [119, 119, 119, 46, 120, 46, 111, 114, 103], Str [97], Str [98, 45, 99, 46, 110, 101, 116], Str [57, 97, 46, 98], Str [121]] [Str [120, 46, 111, 114, 103], Str [119, 119, 119, 46, 120, 46, 111, 114, 103], Str [97], Str [98, 45, 99, 46, 110, 101, 116], Str [57, 97, 46, 98], Str [121]] trivial rfl (fun b2 w4 (hs4 : SH w w4 [rb] [.blk rb 74 [.slice Ab bs.length cb, I ((q1 : Nat) : Int)], .own (some ⟨b2, 0, none⟩) (([[120, 46, 111, 114, 103], [119, 119, 119, 46, 120, 46, 111, 114, 103], [97], [98, 45, 99, 46, 110, 101, 116], [57, 97, 46, 98], [121]] : List (List UInt8)).length) 6 9 1 (([[120, 46, 111, 114, 103], [119, 119, 119, 46, 120, 46, 111, 114, 103], [97], [98, 45, 99, 46, 110, 101, 116], [57, 97, 46, 98], [121]] : List (List UInt8)).map Str)]) => ?_)
   refine cl trivial rfl (rdOf (rb := rb) (Ab := Ab) (cb := cb) (bs := bs) (p := q1) (Ass := (some ⟨b2, 0, none⟩)) (css := 6) (ss := ([[120, 46, 111, 114, 103], [119, 119, 119, 46, 120, 46, 111, 114, 103], [97], [98, 45, 99, 46, 110, 101, 116], [57, 97, 46, 98], [121]] : List (List UInt8))) (w := _) (hr := (blk_heap hs4 0 rfl)) (hb := (hb.up hs4 (fun _ h => h) (fun _ h => .inl h))) (hbn := (by first | assumption | (simp; omega))) (hp := (by omega)) (hss := (hs4.sl 1 rfl (by intro k hk; simp at hk; subst hk; exact ⟨_, memi 0 rfl, rfl⟩))) (hne := (by first | omega | assumption | (simp; done) | (simp; omega)))) ?_
   rintro _ w5 ⟨s2, q3, rfl, p5, p6, hs5'⟩
   have hs5 : SH w w5 [rb] [.own (some ⟨b2, 0, none⟩) (([[120, 46, 111, 114, 103], [119, 119, 119, 46, 120, 46, 111, 114, 103], [97], [98, 45, 99, 46, 110, 101, 116], [57, 97, 46, 98], [121]] : List (List UInt8)).length) 6 9 1 (([[120, 46, 111, 114, 103], [119, 119, 119, 46, 120, 46, 111, 114, 103], [97], [98, 45, 99, 46, 110, 101, 116], [57, 97, 46, 98], [121]] : List (List UInt8)).map Str), .blk rb 74 [.slice Ab bs.length cb, I ((q3 : Nat) : Int)]] := hs4.callM 0 rfl hs5' (by intro k hk; simp at hk; exact hk.symm)
   clear hs5'
   refine q trivial rfl rfl (asg (v := Str s2) rfl) ?_
   refine nl ?_
   refine nN ?_
   refine rt ?_
   refine fret (v := Str s2) (.tmp .nil) rfl ?_
   exact ⟨s2, q3, rfl, (by first | exact names9 (by assumption) | exact names6 (by assumption)), (by omega), (hs5.pick [1] rfl (by decide))⟩

set_option maxHeartbeats 8000000 in
theorem l91Address {rb : Nat} {Ab : Option Addr} {cb : Nat} {bs : List UInt8} {p : Nat} (w : World) (hr : w.heap[rb]? = some (.cells [.slice Ab bs.length cb, .int .i64 ((p : Nat) : Int)].toArray 74 (0, 0))) (hb : Sl w [rb] 1 Ab bs.length cb (bs.map U)) (hbn : bs.length ≤ 2000) (hp : p ≤ 137438953472) : Does Tryd.prog 25 [pB rb] w (fun v w' => ∃ Aqr : Option Addr, ∃ cqr : Nat, ∃ ak : Int, ∃ aq : List Int, ∃ an : List UInt8, ∃ apt : Int, ∃ q : Nat, v = .agg #[.int .i64 ak, .slice Aqr aq.length cqr, Str an, .int .i64 apt] ∧ (aq.length ≤ 4) ∧ (an.length ≤ 21) ∧ (q ≤ p + 40) ∧ SH w w' [rb] [.blk rb 74 [.slice Ab bs.length cb, I ((q : Nat) : Int)], .own Aqr aq.length cqr 3 1 (aq.map I)]) := by
 refine fn_enter (N := 25) Tryd.func25 rfl (by kernel_rfl) rfl rfl rfl ?_
 have hs0 : SH w w [rb] [.blk rb 74 [.slice Ab bs.length cb, I ((p : Nat) : Int)]] := SH.entry1 hr
 refine sq ?_
 refine rg ?_
 refine al (v := .agg #[I 0, ns, Str [], I 0]) (cs := [I 0, ns, Str [], I 0]) hs0 tz25 rfl trivial rfl (fun b1 w1 (hs1 : SH w w1 [rb] [.blk rb 74 [.slice Ab bs.length cb, I ((p : Nat) : Int)], .blk b1 25 [I 0, ns, Str [], I 0]]) => ?_)
 refine nl ?_
 refine nN ?_
 refine sq ?_
 refine sq ?_
 refine rg ?_
 refine q trivial rfl rfl (mv (v := pB rb) rfl) ?_
 refine cl trivial rfl (pick (rb := rb) (Ab := Ab) (cb := cb) (bs := bs) (p := p) (n := 2) (w := _) (hr := (blk_heap hs1 0 rfl)) (hb := (hb.up hs1 (fun _ h => h) (fun _ h => .inl h))) (hbn := (by first | assumption | (simp; omega))) (hp := (by omega))) ?_
 rintro _ w2 ⟨r1, q1, rfl, p1, p2, hs2'⟩
 have hs2 : SH w w2 [rb] [.blk b1 25 [I 0, ns, Str [], I 0], .blk rb 74 [.slice Ab bs.length cb, I ((q1 : Nat) : Int)]] := hs1.callM 0 rfl hs2' (by intro k hk; simp at hk; exact hk.symm)
 clear hs2'
 refine q trivial rfl rfl (eqi (k := .i64) (a := r1) (b := 0) rfl rfl) ?_
 refine nl ?_
 refine nN ?_
 refine cdd (p := r1 = 0) rfl (fun h1 => ?_) (fun h1 => ?_)
 · refine sq ?_
   refine rg ?_
   refine q trivial rfl rfl (mv (v := pB rb) rfl) ?_
   refine cl trivial rfl (l91Quad (rb := rb) (Ab := Ab) (cb := cb) (bs := bs) (p := q1) (w := _) (hr := (blk_heap hs2 1 rfl)) (hb := (hb.up hs2 (fun _ h => h) (fun _ h => .inl h))) (hbn := (by first | assumption | (simp; omega))) (hp := (by omega))) ?_
   rintro _ w3 ⟨A1, c1, r2, q2, rfl, p3, p4, hs3'⟩
   have hs3 : SH w w3 [rb] [.blk b1 25 [I 0, ns, Str [], I 0], .blk rb 74 [.slice Ab bs.length cb, I ((q2 : Nat) : Int)], .own A1 r2.length c1 3 1 (r2.map I)] := hs2.callM 1 rfl hs3' (by intro k hk; simp at hk; exact hk.symm)
   clear hs3'
   refine q trivial rfl rfl (mv (v := pB rb) rfl) ?_
   refine cl trivial rfl (l91Port (rb := rb) (Ab := Ab) (cb := cb) (bs := bs) (p := q2) (w := _) (hr := (blk_heap hs3 1 rfl)) (hb := (hb.up hs3 (fun _ h => h) (fun _ h => .inl h))) (hbn := (by first | assumption | (simp; omega))) (hp := (by omega))) ?_
   rintro _ w4 ⟨r3, q3, rfl, p5, hs4'⟩
   have hs4 : SH w w4 [rb] [.blk b1 25 [I 0, ns, Str [], I 0], .own A1 r2.length c1 3 1 (r2.map I), .blk rb 74 [.slice Ab bs.length cb, I ((q3 : Nat) : Int)]] := hs3.callM 1 rfl hs4' (by intro k hk; simp at hk; exact hk.symm)
   clear hs4'
   refine q trivial rfl rfl (bdv (v := .agg #[I 1, .slice A1 r2.length c1, Str [], I r3]) [(0, I 1), (1, .slice A1 r2.length c1), (3, I r3)] rfl (fun _ => by kernel_rfl)) ?_
   refine stg (vs := [I 1, .slice A1 r2.length c1, Str [], I r3]) hs4 0 rfl rfl rfl rfl rfl rfl rfl ag25 trivial (fun w5 (hs5 : SH w w5 [rb] [.own A1 r2.length c1 3 1 (r2.map I), .blk rb 74 [.slice Ab bs.length cb, I ((q3 : Nat) : Int)], .blk b1 25 [I 1, .slice A1 r2.length c1, Str [], I r3]]) => ?_)
   refine nl ?_
   refine nN ?_
   refine rt (tR ?_)
   refine fret (v := .agg #[I 1, .slice A1 r2.length c1, Str [], I r3]) (resC hs5 2 rfl rfl ag25 rfl .nil) rfl ?_
   exact ⟨A1, c1, 1, r2, [], r3, q3, rfl, (by first | omega | simp), (by first | omega | simp), (by omega), (hs5.pick [1, 0] rfl (by decide))⟩
 · refine sk ?_
   refine nN ?_
   refine sq ?_
   refine rg ?_
   refine bsk hs2 sl23 [] [] trivial rfl (fun b2 w6 (hs6 : SH w w6 [rb] [.blk b1 25 [I 0, ns, Str [], I 0], .blk rb 74 [.slice Ab bs.length cb, I ((q1 : Nat) : Int)], oI b2 ([] : List Int) 0 3]) => ?_)
   refine q trivial rfl rfl (mv (v := pB rb) rfl) ?_
   refine cl trivial rfl (l91Name (rb := rb) (Ab := Ab) (cb := cb) (bs := bs) (p := q1) (w := _) (hr := (blk_heap hs6 1 rfl)) (hb := (hb.up hs6 (fun _ h => h) (fun _ h => .inl h))) (hbn := (by first | assumption | (simp; omega))) (hp := (by omega))) ?_
   rintro _ w7 ⟨s1, q4, rfl, p6, p7, hs7'⟩
   have hs7 : SH w w7 [rb] [.blk b1 25 [I 0, ns, Str [], I 0], oI b2 ([] : List Int) 0 3, .blk rb 74 [.slice Ab bs.length cb, I ((q4 : Nat) : Int)]] := hs6.callM 1 rfl hs7' (by intro k hk; simp at hk; exact hk.symm)
   clear hs7'
   refine q trivial rfl rfl (mv (v := pB rb) rfl) ?_
   refine cl trivial rfl (l91Port (rb := rb) (Ab := Ab) (cb := cb) (bs := bs) (p := q4) (w := _) (hr := (blk_heap hs7 2 rfl)) (hb := (hb.up hs7 (fun _ h => h) (fun _ h => .inl h))) (hbn := (by first | assumption | (simp; omega))) (hp := (by omega))) ?_
   rintro _ w8 ⟨r4, q5, rfl, p8, hs8'⟩
   have hs8 : SH w w8 [rb] [.blk b1 25 [I 0, ns, Str [], I 0], oI b2 ([] : List Int) 0 3, .blk rb 74 [.slice Ab bs.length cb, I ((q5 : Nat) : Int)]] := hs7.callM 2 rfl hs8' (by intro k hk; simp at hk; exact hk.symm)
   clear hs8'
   refine q trivial rfl rfl (bdv (v := .agg #[I 3, sb b2 (([] : List Int).length) 0, Str s1, I r4]) [(0, I 3), (1, sb b2 (([] : List Int).length) 0), (2, Str s1), (3, I r4)] rfl (fun _ => by kernel_rfl)) ?_
   refine al (v := .agg #[I 0, ns, Str [], I 0]) (cs := [I 0, ns, Str [], I 0]) hs8 tz25 rfl trivial rfl (fun b3 w9 (hs9 : SH w w9 [rb] [.blk b1 25 [I 0, ns, Str [], I 0], oI b2 ([] : List Int) 0 3, .blk rb 74 [.slice Ab bs.length cb, I ((q5 : Nat) : Int)], .blk b3 25 [I 0, ns, Str [], I 0]]) => ?_)
   refine stg (vs := [I 3, sb b2 (([] : List Int).length) 0, Str s1, I r4]) hs9 3 rfl rfl rfl rfl rfl rfl rfl ag25 trivial (fun w10 (hs10 : SH w w10 [rb] [.blk b1 25 [I 0, ns, Str [], I 0], oI b2 ([] : List Int) 0 3, .blk rb 74 [.slice Ab bs.length cb, I ((q5 : Nat) : Int)], .blk b3 25 [I 3, sb b2 (([] : List Int).length) 0, Str s1, I r4]]) => ?_)
   refine nl ?_
   refine nN ?_
   refine sq ?_
   refine sq ?_
   refine rg ?_
   refine q trivial rfl rfl (mv (v := pB rb) rfl) ?_
   refine cl trivial rfl (pick (rb := rb) (Ab := Ab) (cb := cb) (bs := bs) (p := q5) (n := 40) (w := _) (hr := (blk_heap hs10 2 rfl)) (hb := (hb.up hs10 (fun _ h => h) (fun _ h => .inl h))) (hbn := (by first | assumption | (simp; omega))) (hp := (by omega))) ?_
   rintro _ w11 ⟨r5, q6, rfl, p9, p10, hs11'⟩
   have hs11 : SH w w11 [rb] [.blk b1 25 [I 0, ns, Str [], I 0], oI b2 ([] : List Int) 0 3, .blk b3 25 [I 3, sb b2 (([] : List Int).length) 0, Str s1, I r4], .blk rb 74 [.slice Ab bs.length cb, I ((q6 : Nat) : Int)]] := hs10.callM 2 rfl hs11' (by intro k hk; simp at hk; exact hk.symm)
   clear hs11'
   refine q trivial rfl rfl (eqi (k := .i64) (a := r5) (b := 0) rfl rfl) ?_
   refine nl ?_
   refine nN ?_
   refine cdd (p := r5 = 0) rfl (fun h2 => ?_) (fun h2 => ?_)
   · refine rg ?_
     refine q trivial rfl rfl (mv (v := pB rb) rfl) ?_
     refine cl trivial rfl (pick (rb := rb) (Ab := Ab) (cb := cb) (bs := bs) (p := q6) (n := 5) (w := _) (hr := (blk_heap hs11 3 rfl)) (hb := (hb.up hs11 (fun _ h => h) (fun _ h => .inl h))) (hbn := (by first | assumption | (simp; omega))) (hp := (by omega))) ?_
     rintro _ w12 ⟨r6, q7, rfl, p11, p12, hs12'⟩
     have hs12 : SH w w12 [rb] [.blk b1 25 [I 0, ns, Str [], I 0], oI b2 ([] : List Int) 0 3, .blk b3 25 [I 3, sb b2 (([] : List Int).length) 0, Str s1, I r4], .blk rb 74 [.slice Ab bs.length cb, I ((q7 : Nat) : Int)]] := hs11.callM 3 rfl hs12' (by intro k hk; simp at hk; exact hk.symm)
     clear hs12'
     refine q trivial rfl rfl (fa 0 fo25_0 rfl) ?_
     refine st (v := I r6) hs12 2 rfl rfl rfl rfl rfl one3 trivial (fun w13 (hs13 : SH w w13 [rb] [.blk b1 25 [I 0, ns, Str [], I 0], oI b2 ([] : List Int) 0 3, .blk rb 74 [.slice Ab bs.length cb, I ((q7 : Nat) : Int)], .blk b3 25 [I r6, sb b2 (([] : List Int).length) 0, Str s1, I r4]]) => ?_)
     refine nl ?_
     refine nN ?_
     refine sq ?_
     refine rg ?_
     refine q trivial rfl rfl (ldg (vs := [I r6, sb b2 (([] : List Int).length) 0, Str s1, I r4]) hs13 3 rfl rfl rfl rfl ag25) ?_
     refine stg (vs := [I r6, sb b2 (([] : List Int).length) 0, Str s1, I r4]) hs13 0 rfl rfl rfl rfl rfl rfl rfl ag25 trivial (fun w14 (hs14 : SH w w14 [rb] [oI b2 ([] : List Int) 0 3, .blk rb 74 [.slice Ab bs.length cb, I ((q7 : Nat) : Int)], .blk b3 25 [I r6, sb b2 (([] : List Int).length) 0, Str s1, I r4], .blk b1 25 [I r6, sb b2 (([] : List Int).length) 0, Str s1, I r4]]) => ?_)
     refine nl ?_
     refine nN ?_
     refine rt ?_
     refine fret (v := .agg #[I r6, sb b2 (([] : List Int).length) 0, Str s1, I r4]) (resC hs14 3 rfl rfl ag25 rfl .nil) rfl ?_
     exact ⟨(some ⟨b2, 0, none⟩), 0, r6, ([] : List Int), s1, r4, q7, rfl, (by first | omega | simp), (by first | omega | simp), (by omega), (hs14.pick [1, 0] rfl (by decide))⟩
   · refine sk ?_
     refine nN ?_
     refine sq ?_
     refine rg ?_
     refine q trivial rfl rfl (ldg (vs := [I 3, sb b2 (([] : List Int).length) 0, Str s1, I r4]) hs11 2 rfl rfl rfl rfl ag25) ?_
     refine stg (vs := [I 3, sb b2 (([] : List Int).length) 0, Str s1, I r4]) hs11 0 rfl rfl rfl rfl rfl rfl rfl ag25 trivial (fun w15 (hs15 : SH w w15 [rb] [oI b2 ([] : List Int) 0 3, .blk b3 25 [I 3, sb b2 (([] : List Int).length) 0, Str s1, I r4], .blk rb 74 [.slice Ab bs.length cb, I ((q6 : Nat) : Int)], .blk b1 25 [I 3, sb b2 (([] : List Int).length) 0, Str s1, I r4]]) => ?_)
     refine nl ?_
     refine nN ?_
     refine rt ?_
     refine fret (v := .agg #[I 3, sb b2 (([] : List Int).length) 0, Str s1, I r4]) (resC hs15 3 rfl rfl ag25 rfl .nil) rfl ?_
     exact ⟨(some ⟨b2, 0, none⟩), 0, 3, ([] : List Int), s1, r4, q6, rfl, (by first | omega | simp), (by first | omega | simp), (by omega), (hs15.pick [2, 0] rfl (by decide))⟩

theorem iTextBytes (s : List UInt8) (w : World) (hs_n : s.length ≤ 2147483648) : Does Tryd.prog 36 [Str s] w (fun v w' => ∃ Ar : Option Addr, ∃ cr : Nat, v = .slice Ar (textI s).length cr ∧ SH w w' [] [.own Ar ((textI s).length) cr 3 1 ((textI s).map I)]) := by
 refine fn_enter (N := 22) Tryd.func36 rfl (by kernel_rfl) rfl rfl rfl ?_
 have hs0 : SH w w [] [] := SH.refl w []
 refine sq ?_
 refine rg ?_
 refine q trivial rfl rfl (asg (v := ns) rfl) ?_
 refine nl ?_
 refine nN ?_
 refine sq ?_
 refine rg ?_
 refine q trivial rfl rfl (mv (v := Str s) rfl) ?_
 refine q trivial rfl rfl (lnS (l := s) st9 rfl) ?_
 refine mkm (g := I) (z := 0) (n := s.length) hs0 sl23 rfl rfl rfl (by omega) (by unfold maxLen; omega) trivial rfl (fun b1 w1 (hs1 : SH w w1 [] [oI b1 (List.replicate s.length (0 : Int)) s.length 3]) => ?_)
 refine q trivial rfl rfl (asg (v := sb b1 ((List.replicate s.length (0 : Int)).length) s.length) rfl) ?_
 refine nl ?_
 refine nN ?_
 refine sq ?_
 refine sq ?_
 refine rg ?_
 refine q trivial rfl rfl (mv (v := sb b1 ((List.replicate s.length (0 : Int)).length) s.length) rfl) ?_
 refine q trivial rfl rfl (lnA (n := (List.replicate s.length (0 : Int)).length) sl23 rfl) ?_
 refine q trivial rfl rfl (mv (v := I 0) rfl) ?_
 refine nl ?_
 refine nN ?_
 refine bl ?_
 have e1 : List.replicate s.length (0 : Int) = (textI s).take 0 ++ List.replicate (s.length - 0) (0 : Int) := by simp
 have e2 : (List.replicate s.length (0 : Int)).length = s.length := by first | rfl | (simp; done) | (simp; omega) | omega
 refine lp (σ := (Option Addr) × Nat × Nat) (fun ⟨Ag3, cg3, k⟩ f w' => Has f [(0, Str s), (3, .slice Ag3 s.length cg3), (9, I (((List.replicate s.length (0 : Int)).length : Nat) : Int)), (10, I ((k : Nat) : Int))] ∧ (k ≤ s.length) ∧ SH w w' [] [.own Ag3 s.length cg3 3 1 (((textI s).take k ++ List.replicate (s.length - k) (0 : Int)).map I)]) (fun ⟨Ag3, cg3, k⟩ => s.length - k) ((some ⟨b1, 0, none⟩), s.length, 0) ⟨⟨rfl, (show (.slice (some ⟨b1, 0, none⟩) ((List.replicate s.length (0 : Int)).length) s.length : Value) = .slice (some ⟨b1, 0, none⟩) s.length s.length from slv rfl e2 rfl), rfl, rfl, trivial⟩, (by simp), (hs1.cast (lc (own_eq (g := I) rfl e2 rfl e1) rfl))⟩ ?_
 rintro ⟨Ag3, cg3, k⟩ f w2 ⟨hf, hk, hs2⟩
 obtain ⟨g1, rfl⟩ := has_upd hf
 clear hf
 refine sq ?_
 refine rg ?_
 refine q trivial rfl rfl (lss (k := .i64) (a := ((k : Nat) : Int)) (b := (((List.replicate s.length (0 : Int)).length : Nat) : Int)) rfl rfl) ?_
 refine nl ?_
 refine nN ?_
 refine sq ?_
 refine cdd (p := ((k : Nat) : Int) < (((List.replicate s.length (0 : Int)).length : Nat) : Int)) rfl (fun h1 => ?_) (fun h1 => ?_)
 · refine sk ?_
   refine nN ?_
   refine sq ?_
   refine bl ?_
   refine sq ?_
   refine rg ?_
   refine q trivial rfl rfl (mv (v := I ((k : Nat) : Int)) rfl) ?_
   refine q trivial rfl rfl (asg (v := I ((k : Nat) : Int)) rfl) ?_
   refine nl ?_
   refine nN ?_
   refine rg ?_
   refine q trivial rfl rfl (mv (v := .slice Ag3 s.length cg3) rfl) ?_
   refine q trivial rfl rfl (mv (v := I ((k : Nat) : Int)) rfl) ?_
   refine q trivial rfl rfl (mv (v := Str s) rfl) ?_
   refine q trivial rfl rfl (mv (v := I ((k : Nat) : Int)) rfl) ?_
   refine q trivial rfl rfl (ixs (l := s) k st9 rfl rfl (by first | omega | (simp; done) | (simp; omega))) ?_
   refine q trivial rfl rfl (cvI (a := (((s.getD k 0).toNat : Nat) : Int)) (s := .u8) ti5 ti3 rfl (by have := u8_bd ((s.getD k 0)); exact ⟨by omega, by omega⟩)) ?_
   obtain ⟨b2, rfl⟩ := own_form hs2 0 rfl (by first | omega | (simp; done) | (simp; omega))
   refine q trivial rfl rfl (ixo k sl23 rfl rfl (by first | omega | (simp; done) | (simp; omega))) ?_
   refine stomn (g := I) (ys := (textI s).take k ++ List.replicate (s.length - k) (0 : Int)) (o := k) (u := (((s.getD k 0).toNat : Nat) : Int)) hs2 0 rfl rfl rfl rfl (by first | omega | (simp; done) | (simp; omega)) rfl one3 trivial (fun w3 (hs3 : SH w w3 [] [.own (some ⟨b2, 0, none⟩) s.length cg3 3 1 ((((textI s).take k ++ List.replicate (s.length - k) (0 : Int)).set k (((s.getD k 0).toNat : Nat) : Int)).map I)]) => ?_)
   refine nl ?_
   refine bN ?_
   refine nN ?_
   refine rg ?_
   refine q trivial rfl rfl (add (a := ((k : Nat) : Int)) (b := 1) rfl rfl (by exact ⟨by omega, by omega⟩)) ?_
   refine q trivial rfl rfl (mv (v := I (((k : Nat) : Int) + 1)) rfl) ?_
   refine nl ?_
   refine nN ?_
   have e3 : ((textI s).take k ++ List.replicate (s.length - k) (0 : Int)).set k (((s.getD k 0).toNat : Nat) : Int) = (textI s).take (k + 1) ++ List.replicate (s.length - (k + 1)) (0 : Int) := by exact textI_set (by omega)
   refine ⟨((some ⟨b2, 0, none⟩), cg3, k + 1), ⟨⟨rfl, rfl, rfl, rfl, trivial⟩, (by omega), (hs3.cast (lc (own_eq (g := I) rfl rfl rfl e3) rfl))⟩, ?_⟩
   show s.length - (k + 1) < s.length - k
   omega
 · refine ex (tE (tE (bE ?_)))
   refine nN ?_
   refine sq ?_
   refine rg ?_
   refine q trivial rfl rfl (mv (v := .slice Ag3 s.length cg3) rfl) ?_
   refine q trivial rfl rfl (asg (v := .slice Ag3 s.length cg3) rfl) ?_
   refine nl ?_
   refine nN ?_
   refine rt ?_
   refine fret (v := .slice Ag3 s.length cg3) (.tmp .nil) rfl ?_
   have e4 : (textI s).take k ++ List.replicate (s.length - k) (0 : Int) = textI s := by have : k = s.length := (by omega); subst this; rw [textI_all (Nat.le_refl _)]; simp
   have e5 : s.length = (textI s).length := by exact (show s.length = ((textI s).take k ++ List.replicate (s.length - k) (0 : Int)).length by (simp [textI_len]; omega)).trans (congrArg List.length e4)
   exact ⟨Ag3, cg3, (slv rfl e5 rfl), (hs2.cast (lc (own_eq (g := I) rfl e5 rfl e4) rfl))⟩

theorem sL1Text (s : List UInt8) (w : World) (hs_n : s.length ≤ 2147483648) : Does Tryd.prog 80 [Str s] w (fun v w' => ∃ Ar : Option Addr, ∃ cr : Nat, v = .slice Ar (textI s).length cr ∧ SH w w' [] [.own Ar ((textI s).length) cr 3 1 ((textI s).map I)]) := by
 refine fn_enter (N := 20) Tryd.func80 rfl (by kernel_rfl) rfl rfl rfl ?_
 have hs0 : SH w w [] [] := SH.refl w []
 refine sq ?_
 refine rg ?_
 refine q trivial rfl rfl (asg (v := ns) rfl) ?_
 refine nl ?_
 refine nN ?_
 refine sq ?_
 refine rg ?_
 refine bsk hs0 sl23 [] [] trivial rfl (fun b1 w1 (hs1 : SH w w1 [] [oI b1 ([] : List Int) 0 3]) => ?_)
 refine q trivial rfl rfl (asg (v := sb b1 (([] : List Int).length) 0) rfl) ?_
 refine nl ?_
 refine nN ?_
 refine sq ?_
 refine sq ?_
 refine rg ?_
 refine q trivial rfl rfl (asg (v := I 0) rfl) ?_
 refine nl ?_
 refine nN ?_
 refine bl ?_
 have e1 : ([] : List Int) = (textI s).take 0 := by simp
 have e2 : ([] : List Int).length = ((textI s).take 0).length := by rw [e1]
 refine lp (σ := (Option Addr) × Nat × Nat) (fun ⟨Ag3, cg3, k⟩ f w' => Has f [(0, Str s), (3, .slice Ag3 (((textI s).take k).length) cg3), (4, I ((k : Nat) : Int))] ∧ (k ≤ s.length) ∧ SH w w' [] [.own Ag3 (((textI s).take k).length) cg3 3 1 (((textI s).take k).map I)]) (fun ⟨Ag3, cg3, k⟩ => s.length - k) ((some ⟨b1, 0, none⟩), 0, 0) ⟨⟨rfl, (show (.slice (some ⟨b1, 0, none⟩) (([] : List Int).length) 0 : Value) = .slice (some ⟨b1, 0, none⟩) (((textI s).take 0).length) 0 from slv rfl e2 rfl), rfl, trivial⟩, (by simp), (hs1.cast (lc (own_eq (g := I) rfl e2 rfl e1) rfl))⟩ ?_
 rintro ⟨Ag3, cg3, k⟩ f w2 ⟨hf, hk, hs2⟩
 obtain ⟨g1, rfl⟩ := has_upd hf
 clear hf
 refine sq ?_
 refine sq ?_
 refine rg ?_
 refine q trivial rfl rfl (mv (v := I ((k : Nat) : Int)) rfl) ?_
 refine q trivial rfl rfl (mv (v := Str s) rfl) ?_
 refine q trivial rfl rfl (lnS (l := s) st9 rfl) ?_
 refine q trivial rfl rfl (lss (k := .i64) (a := ((k : Nat) : Int)) (b := ((s.length : Nat) : Int)) rfl rfl) ?_
 refine nl ?_
 refine nN ?_
 refine cdd (p := ((k : Nat) : Int) < ((s.length : Nat) : Int)) rfl (fun h1 => ?_) (fun h1 => ?_)
 · refine sk ?_
   refine nN ?_
   refine sq ?_
   refine bl ?_
   refine rg ?_
   refine q trivial rfl rfl (mv (v := .slice Ag3 (((textI s).take k).length) cg3) rfl) ?_
   refine q trivial rfl rfl (mv (v := Str s) rfl) ?_
   refine q trivial rfl rfl (mv (v := I ((k : Nat) : Int)) rfl) ?_
   refine q trivial rfl rfl (ixs (l := s) k st9 rfl rfl (by first | (first | omega | (simp; done) | (simp; omega)) | (have htl := textI_len s; first | omega | (simp; done) | (simp; omega)))) ?_
   refine q trivial rfl rfl (cvI (a := (((s.getD k 0).toNat : Nat) : Int)) (s := .u8) ti5 ti3 rfl (by have := u8_bd ((s.getD k 0)); exact ⟨by omega, by omega⟩)) ?_
   refine bsk hs2 sl23 [I (((s.getD k 0).toNat : Nat) : Int)] [I (((s.getD k 0).toNat : Nat) : Int)] trivial rfl (fun b2 w3 (hs3 : SH w w3 [] [.own Ag3 (((textI s).take k).length) cg3 3 1 (((textI s).take k).map I), oI b2 ([(((s.getD k 0).toNat : Nat) : Int)] : List Int) 1 3]) => ?_)
   refine apm (g := I) (ys := (textI s).take k) (zs := ([(((s.getD k 0).toNat : Nat) : Int)] : List Int)) hs3 0 rfl sl23 rfl rfl rfl (hs3.sl0 1 rfl) (fun _ => rfl) (by unfold maxLen; have htl := textI_len s; simp only [List.length_take, List.length_cons, List.length_nil]; omega) (by have htl := textI_len s; simp only [List.length_take, List.length_cons, List.length_nil]; omega) trivial rfl (fun A1 c1 w4 (hs4 : SH w w4 [] [oI b2 ([(((s.getD k 0).toNat : Nat) : Int)] : List Int) 1 3, .own A1 ((((textI s).take k) ++ ([(((s.getD k 0).toNat : Nat) : Int)] : List Int)).length) c1 3 1 ((((textI s).take k) ++ ([(((s.getD k 0).toNat : Nat) : Int)] : List Int)).map I)]) => ?_)
   refine q trivial rfl rfl (asg (v := .slice A1 ((((textI s).take k) ++ ([(((s.getD k 0).toNat : Nat) : Int)] : List Int)).length) c1) rfl) ?_
   refine nl ?_
   refine bN ?_
   refine nN ?_
   refine rg ?_
   refine q trivial rfl rfl (mv (v := I ((k : Nat) : Int)) rfl) ?_
   refine q trivial rfl rfl (add (a := ((k : Nat) : Int)) (b := 1) rfl rfl (by first | (exact ⟨by omega, by omega⟩) | (have htl := textI_len s; exact ⟨by omega, by omega⟩))) ?_
   refine q trivial rfl rfl (asg (v := I (((k : Nat) : Int) + 1)) rfl) ?_
   refine nl ?_
   refine nN ?_
   have e3 : ((textI s).take k) ++ ([(((s.getD k 0).toNat : Nat) : Int)] : List Int) = (textI s).take (k + 1) := by exact textI_app (by omega)
   have e4 : (((textI s).take k) ++ ([(((s.getD k 0).toNat : Nat) : Int)] : List Int)).length = ((textI s).take (k + 1)).length := by rw [e3]
   refine ⟨(A1, c1, k + 1), ⟨⟨rfl, (show (.slice A1 ((((textI s).take k) ++ ([(((s.getD k 0).toNat : Nat) : Int)] : List Int)).length) c1 : Value) = .slice A1 (((textI s).take (k + 1)).length) c1 from slv rfl e4 rfl), rfl, trivial⟩, (by omega), ((hs4.pick [1] rfl (by decide)).cast (lc (own_eq (g := I) rfl e4 rfl e3) rfl))⟩, ?_⟩
   show s.length - (k + 1) < s.length - k
   omega
 · refine ex (tE (tE (bE ?_)))
   refine nN ?_
   refine sq ?_
   refine rg ?_
   refine q trivial rfl rfl (mv (v := .slice Ag3 (((textI s).take k).length) cg3) rfl) ?_
   refine q trivial rfl rfl (asg (v := .slice Ag3 (((textI s).take k).length) cg3) rfl) ?_
   refine nl ?_
   refine nN ?_
   refine rt ?_
   refine fret (v := .slice Ag3 (((textI s).take k).length) cg3) (.tmp .nil) rfl ?_
   have e5 : (textI s).take k = textI s := by exact textI_all (by omega)
   have e6 : ((textI s).take k).length = (textI s).length := by exact congrArg List.length e5
   exact ⟨Ag3, cg3, (slv rfl e6 rfl), (hs2.cast (lc (own_eq (g := I) rfl e6 rfl e5) rfl))⟩

theorem iNumberBytes (n : Int) (w : World) (hn : 0 ≤ n ∧ n ≤ 65535) : Does Tryd.prog 35 [I n, I 2] w (fun v w' => ∃ Ar : Option Addr, ∃ cr : Nat, v = .slice Ar (numB n).length cr ∧ SH w w' [] [.own Ar ((numB n).length) cr 3 1 ((numB n).map I)]) := by
 refine fn_enter (N := 27) Tryd.func35 rfl (by kernel_rfl) rfl rfl rfl ?_
 have hs0 : SH w w [] [] := SH.refl w []
 refine sq ?_
 refine rg ?_
 refine q trivial rfl rfl (asg (v := ns) rfl) ?_
 refine nl ?_
 refine nN ?_
 refine sq ?_
 refine rg ?_
 refine q trivial rfl rfl (mv (v := I 2) rfl) ?_
 refine mkm (g := I) (z := 0) (n := 2) hs0 sl23 rfl rfl rfl (by omega) (by unfold maxLen; omega) trivial rfl (fun b1 w1 (hs1 : SH w w1 [] [oI b1 (List.replicate 2 (0 : Int)) 2 3]) => ?_)
 refine q trivial rfl rfl (asg (v := sb b1 ((List.replicate 2 (0 : Int)).length) 2) rfl) ?_
 refine nl ?_
 refine nN ?_
 refine sq ?_
 refine sq ?_
 refine rg ?_
 refine q trivial rfl rfl (mv (v := sb b1 ((List.replicate 2 (0 : Int)).length) 2) rfl) ?_
 refine q trivial rfl rfl (lnA (n := (List.replicate 2 (0 : Int)).length) sl23 rfl) ?_
 refine q trivial rfl rfl (mv (v := I 0) rfl) ?_
 refine nl ?_
 refine nN ?_
 refine bl ?_
 have e1 : List.replicate 2 (0 : Int) = (numB n).take 0 ++ List.replicate (2 - 0) (0 : Int) := by simp
 have e2 : (List.replicate 2 (0 : Int)).length = 2 := by first | rfl | (simp; done) | (simp; omega) | omega
 refine lp (σ := (Option Addr) × Nat × Nat) (fun ⟨Ag5, cg5, k⟩ f w' => Has f [(0, I n), (1, I 2), (5, .slice Ag5 2 cg5), (10, I (((List.replicate 2 (0 : Int)).length : Nat) : Int)), (11, I ((k : Nat) : Int))] ∧ (k ≤ 2) ∧ SH w w' [] [.own Ag5 2 cg5 3 1 (((numB n).take k ++ List.replicate (2 - k) (0 : Int)).map I)]) (fun ⟨Ag5, cg5, k⟩ => 2 - k) ((some ⟨b1, 0, none⟩), 2, 0) ⟨⟨rfl, rfl, (show (.slice (some ⟨b1, 0, none⟩) ((List.replicate 2 (0 : Int)).length) 2 : Value) = .slice (some ⟨b1, 0, none⟩) 2 2 from slv rfl e2 rfl), rfl, rfl, trivial⟩, (by simp), (hs1.cast (lc (own_eq (g := I) rfl e2 rfl e1) rfl))⟩ ?_
 rintro ⟨Ag5, cg5, k⟩ f w2 ⟨hf, hk, hs2⟩
 obtain ⟨g1, rfl⟩ := has_upd hf
 clear hf
 refine sq ?_
 refine rg ?_
 refine q trivial rfl rfl (lss (k := .i64) (a := ((k : Nat) : Int)) (b := (((List.replicate 2 (0 : Int)).length : Nat) : Int)) rfl rfl) ?_
 refine nl ?_
 refine nN ?_
 refine sq ?_
 refine cdd (p := ((k : Nat) : Int) < (((List.replicate 2 (0 : Int)).length : Nat) : Int)) rfl (fun h1 => ?_) (fun h1 => ?_)
 · refine sk ?_
   refine nN ?_
   refine sq ?_
   refine bl ?_
   refine sq ?_
   refine rg ?_
   refine q trivial rfl rfl (mv (v := I ((k : Nat) : Int)) rfl) ?_
   refine q trivial rfl rfl (asg (v := I ((k : Nat) : Int)) rfl) ?_
   refine nl ?_
   refine nN ?_
   refine rg ?_
   refine q trivial rfl rfl (mv (v := .slice Ag5 2 cg5) rfl) ?_
   refine q trivial rfl rfl (mv (v := I ((k : Nat) : Int)) rfl) ?_
   refine q trivial rfl rfl (mv (v := I n) rfl) ?_
   refine q trivial rfl rfl (mv (v := I 2) rfl) ?_
   refine q trivial rfl rfl (sub (a := 2) (b := 1) rfl rfl (by exact ⟨by omega, by omega⟩)) ?_
   refine q trivial rfl rfl (mv (v := I ((k : Nat) : Int)) rfl) ?_
   refine q trivial rfl rfl (sub (a := (2 : Int) - 1) (b := ((k : Nat) : Int)) rfl rfl (by exact ⟨by omega, by omega⟩)) ?_
   refine q trivial rfl rfl (mul (a := 8) (b := ((2 : Int) - 1) - ((k : Nat) : Int)) rfl rfl (by exact ⟨by omega, by omega⟩)) ?_
   refine q trivial rfl rfl (shr (a := n) (b := 8 * (((2 : Int) - 1) - ((k : Nat) : Int))) rfl rfl (by omega) (by omega)) ?_
   refine q trivial rfl rfl (and255 (a := n / 2 ^ (8 * (((2 : Int) - 1) - ((k : Nat) : Int))).toNat) rfl rfl (by first | exact num_and hn | exact num_and2 hn) (by first | exact num_and hn | exact num_and2 hn)) ?_
   obtain ⟨b2, rfl⟩ := own_form hs2 0 rfl (by first | omega | (simp; done) | (simp; omega))
   refine q trivial rfl rfl (ixo k sl23 rfl rfl (by first | omega | (simp; done) | (simp; omega))) ?_
   refine stomn (g := I) (ys := (numB n).take k ++ List.replicate (2 - k) (0 : Int)) (o := k) (u := (n / 2 ^ (8 * (((2 : Int) - 1) - ((k : Nat) : Int))).toNat) % 256) hs2 0 rfl rfl rfl rfl (by first | omega | (simp; done) | (simp; omega)) rfl one3 trivial (fun w3 (hs3 : SH w w3 [] [.own (some ⟨b2, 0, none⟩) 2 cg5 3 1 ((((numB n).take k ++ List.replicate (2 - k) (0 : Int)).set k ((n / 2 ^ (8 * (((2 : Int) - 1) - ((k : Nat) : Int))).toNat) % 256)).map I)]) => ?_)
   refine nl ?_
   refine bN ?_
   refine nN ?_
   refine rg ?_
   refine q trivial rfl rfl (add (a := ((k : Nat) : Int)) (b := 1) rfl rfl (by exact ⟨by omega, by omega⟩)) ?_
   refine q trivial rfl rfl (mv (v := I (((k : Nat) : Int) + 1)) rfl) ?_
   refine nl ?_
   refine nN ?_
   have e3 : ((numB n).take k ++ List.replicate (2 - k) (0 : Int)).set k ((n / 2 ^ (8 * (((2 : Int) - 1) - ((k : Nat) : Int))).toNat) % 256) = (numB n).take (k + 1) ++ List.replicate (2 - (k + 1)) (0 : Int) := by exact numB_set (by omega)
   refine ⟨((some ⟨b2, 0, none⟩), cg5, k + 1), ⟨⟨rfl, rfl, rfl, rfl, rfl, trivial⟩, (by omega), (hs3.cast (lc (own_eq (g := I) rfl rfl rfl e3) rfl))⟩, ?_⟩
   show 2 - (k + 1) < 2 - k
   omega
 · refine ex (tE (tE (bE ?_)))
   refine nN ?_
   refine sq ?_
   refine rg ?_
   refine q trivial rfl rfl (mv (v := .slice Ag5 2 cg5) rfl) ?_
   refine q trivial rfl rfl (asg (v := .slice Ag5 2 cg5) rfl) ?_
   refine nl ?_
   refine nN ?_
   refine rt ?_
   refine fret (v := .slice Ag5 2 cg5) (.tmp .nil) rfl ?_
   have e4 : (numB n).take k ++ List.replicate (2 - k) (0 : Int) = numB n := by have : k = 2 := (by omega); subst this; simp [numB]
   have e5 : 2 = (numB n).length := by exact (show 2 = ((numB n).take k ++ List.replicate (2 - k) (0 : Int)).length by (simp [numB]; omega)).trans (congrArg List.length e4)
   exact ⟨Ag5, cg5, (slv rfl e5 rfl), (hs2.cast (lc (own_eq (g := I) rfl e5 rfl e4) rfl))⟩

theorem sL1Number (n : Int) (w : World) (hn : 0 ≤ n ∧ n ≤ 65535) : Does Tryd.prog 79 [I n, I 2] w (fun v w' => ∃ Ar : Option Addr, ∃ cr : Nat, v = .slice Ar (numB n).length cr ∧ SH w w' [] [.own Ar ((numB n).length) cr 3 1 ((numB n).map I)]) := by
 refine fn_enter (N := 23) Tryd.func79 rfl (by kernel_rfl) rfl rfl rfl ?_
 have hs0 : SH w w [] [] := SH.refl w []
 refine sq ?_
 refine rg ?_
 refine q trivial rfl rfl (asg (v := ns) rfl) ?_
 refine nl ?_
 refine nN ?_
 refine sq ?_
 refine rg ?_
 refine q trivial rfl rfl (mv (v := I 2) rfl) ?_
 refine mkm (g := I) (z := 0) (n := 2) hs0 sl23 rfl rfl rfl (by omega) (by unfold maxLen; omega) trivial rfl (fun b1 w1 (hs1 : SH w w1 [] [oI b1 (List.replicate 2 (0 : Int)) 2 3]) => ?_)
 refine q trivial rfl rfl (asg (v := sb b1 ((List.replicate 2 (0 : Int)).length) 2) rfl) ?_
 refine nl ?_
 refine nN ?_
 refine sq ?_
 refine sq ?_
 refine rg ?_
 refine q trivial rfl rfl (mv (v := I 2) rfl) ?_
 refine q trivial rfl rfl (sub (a := 2) (b := 1) rfl rfl (by exact ⟨by omega, by omega⟩)) ?_
 refine q trivial rfl rfl (asg (v := I ((2 : Int) - 1)) rfl) ?_
 refine nl ?_
 refine nN ?_
 refine bl ?_
 have e1 : List.replicate 2 (0 : Int) = numR n 0 := by simp [numR]
 have e2 : (List.replicate 2 (0 : Int)).length = 2 := by first | rfl | (simp; done) | (simp; omega) | omega
 refine lp (σ := (Option Addr) × Nat × Nat × Int) (fun ⟨Ag5, cg5, k, m⟩ f w' => Has f [(0, I m), (5, .slice Ag5 2 cg5), (6, I (1 - ((k : Nat) : Int)))] ∧ (k ≤ 2) ∧ (m = numM n k) ∧ (0 ≤ m ∧ m ≤ 65535) ∧ SH w w' [] [.own Ag5 2 cg5 3 1 ((numR n k).map I)]) (fun ⟨Ag5, cg5, k, m⟩ => 2 - k) ((some ⟨b1, 0, none⟩), 2, 0, n) ⟨⟨rfl, (show (.slice (some ⟨b1, 0, none⟩) ((List.replicate 2 (0 : Int)).length) 2 : Value) = .slice (some ⟨b1, 0, none⟩) 2 2 from slv rfl e2 rfl), (show (I ((2 : Int) - 1) : Value) = I (1 - ((0 : Nat) : Int)) from congrArg (Value.int .i64) (by simp)), trivial⟩, (by simp), (by simp [numM]), (hn), (hs1.cast (lc (own_eq (g := I) rfl e2 rfl e1) rfl))⟩ ?_
 rintro ⟨Ag5, cg5, k, m⟩ f w2 ⟨hf, hk, hm, hm2, hs2⟩
 obtain ⟨g1, rfl⟩ := has_upd hf
 clear hf
 refine sq ?_
 refine sq ?_
 refine rg ?_
 refine q trivial rfl rfl (mv (v := I (1 - ((k : Nat) : Int))) rfl) ?_
 refine q trivial rfl rfl (geq (k := .i64) (a := 1 - ((k : Nat) : Int)) (b := 0) rfl rfl) ?_
 refine nl ?_
 refine nN ?_
 refine cdd (p := (0 : Int) ≤ (1 - ((k : Nat) : Int))) rfl (fun h1 => ?_) (fun h1 => ?_)
 · refine sk ?_
   refine nN ?_
   refine sq ?_
   refine bl ?_
   refine sq ?_
   refine rg ?_
   refine q trivial rfl rfl (mv (v := .slice Ag5 2 cg5) rfl) ?_
   refine q trivial rfl rfl (mv (v := I (1 - ((k : Nat) : Int))) rfl) ?_
   refine q trivial rfl rfl (mv (v := I m) rfl) ?_
   refine q trivial rfl rfl (rem (a := m) (b := 256) rfl rfl (by omega) (by omega)) ?_
   obtain ⟨b2, rfl⟩ := own_form hs2 0 rfl (by first | omega | (simp; done) | (simp; omega))
   refine q trivial rfl rfl (ixo ((1 - ((k : Nat) : Int)).toNat) sl23 rfl (ieq (x := 1 - ((k : Nat) : Int)) (by omega)) (by first | omega | (simp; done) | (simp; omega))) ?_
   refine stomn (g := I) (ys := numR n k) (o := (1 - ((k : Nat) : Int)).toNat) (u := m % 256) hs2 0 rfl rfl rfl rfl (by first | omega | (simp; done) | (simp; omega)) rfl one3 trivial (fun w3 (hs3 : SH w w3 [] [.own (some ⟨b2, 0, none⟩) 2 cg5 3 1 (((numR n k).set ((1 - ((k : Nat) : Int)).toNat) (m % 256)).map I)]) => ?_)
   refine nl ?_
   refine nN ?_
   refine rg ?_
   refine q trivial rfl rfl (mv (v := I m) rfl) ?_
   refine q trivial rfl rfl (quo (a := m) (b := 256) rfl rfl (by omega) (by omega) (by omega)) ?_
   refine q trivial rfl rfl (asg (v := I (m / 256)) rfl) ?_
   refine nl ?_
   refine bN ?_
   refine nN ?_
   refine rg ?_
   refine q trivial rfl rfl (mv (v := I (1 - ((k : Nat) : Int))) rfl) ?_
   refine q trivial rfl rfl (sub (a := 1 - ((k : Nat) : Int)) (b := 1) rfl rfl (by exact ⟨by omega, by omega⟩)) ?_
   refine q trivial rfl rfl (asg (v := I ((1 - ((k : Nat) : Int)) - 1)) rfl) ?_
   refine nl ?_
   refine nN ?_
   have e3 : (numR n k).set ((1 - ((k : Nat) : Int)).toNat) (m % 256) = numR n (k + 1) := by rw [hm]; exact numR_step (by omega) (by omega)
   refine ⟨((some ⟨b2, 0, none⟩), cg5, k + 1, m / 256), ⟨⟨rfl, rfl, (show (I ((1 - ((k : Nat) : Int)) - 1) : Value) = I (1 - (((k + 1) : Nat) : Int)) from congrArg (Value.int .i64) (by omega)), trivial⟩, (by omega), (by rw [hm]; exact numM_step (by omega)), (by omega), (hs3.cast (lc (own_eq (g := I) rfl rfl rfl e3) rfl))⟩, ?_⟩
   show 2 - (k + 1) < 2 - k
   omega
 · refine ex (tE (tE (bE ?_)))
   refine nN ?_
   refine sq ?_
   refine rg ?_
   refine q trivial rfl rfl (mv (v := .slice Ag5 2 cg5) rfl) ?_
   refine q trivial rfl rfl (asg (v := .slice Ag5 2 cg5) rfl) ?_
   refine nl ?_
   refine nN ?_
   refine rt ?_
   refine fret (v := .slice Ag5 2 cg5) (.tmp .nil) rfl ?_
   have e4 : numR n k = numB n := by have : k = 2 := (by omega); subst this; rfl
   have e5 : 2 = (numB n).length := by exact (show 2 = (numR n k).length by (have : k = 2 := (by omega); subst this; rfl)).trans (congrArg List.length e4)
   exact ⟨Ag5, cg5, (slv rfl e5 rfl), (hs2.cast (lc (own_eq (g := I) rfl e5 rfl e4) rfl))⟩

set_option maxHeartbeats 8000000 in
theorem iAddressBytes (ak : Int) {Aaq : Option Addr} {caq : Nat} (aq : List Int) (an : List UInt8) (apt : Int) (w : World) (haq : Sl w [] 1 Aaq aq.length caq (aq.map I)) (han_n : an.length ≤ 1099511627776) (hok : addrOk ak aq an apt = true) : Does Tryd.prog 41 [.agg #[I ak, .slice Aaq aq.length caq, Str an, I apt]] w (fun v w' => ∃ Ar : Option Addr, ∃ cr : Nat, v = .slice Ar (addrB ak aq an apt).length cr ∧ SH w w' [] [.own Ar ((addrB ak aq an apt).length) cr 3 1 ((addrB ak aq an apt).map I)]) := by
 refine fn_enter (N := 29) Tryd.func41 rfl (by kernel_rfl) rfl rfl rfl ?_
 have hs0 : SH w w [] [] := SH.refl w []
 have haq_m : aq.length ≤ 9223372036854775807 := Nat.le_trans haq.cap haq.capMax
 refine sq ?_
 refine rg ?_
 refine bx (v := .agg #[I ak, .slice Aaq aq.length caq, Str an, I apt]) (cs := [I ak, .slice Aaq aq.length caq, Str an, I apt]) hs0 rfl rfl trivial rfl (fun b1 w1 (hs1 : SH w w1 [] [.blk b1 25 [I ak, .slice Aaq aq.length caq, Str an, I apt]]) => ?_)
 refine q trivial rfl rfl (asg (v := ns) rfl) ?_
 refine nl ?_
 refine nN ?_
 refine sq ?_
 refine rg ?_
 refine q trivial rfl rfl (fa 0 fo25_0 rfl) ?_
 refine q trivial rfl rfl (ld (v := I ak) hs1 0 rfl rfl rfl one3) ?_
 refine bsk hs1 sl23 [I ak] [I ak] trivial rfl (fun b2 w2 (hs2 : SH w w2 [] [.blk b1 25 [I ak, .slice Aaq aq.length caq, Str an, I apt], oI b2 ([ak] : List Int) 1 3]) => ?_)
 refine q trivial rfl rfl (asg (v := sb b2 (([ak] : List Int).length) 1) rfl) ?_
 refine nl ?_
 refine nN ?_
 refine sq ?_
 refine sq ?_
 refine rg ?_
 refine q trivial rfl rfl (fa 0 fo25_0 rfl) ?_
 refine q trivial rfl rfl (ld (v := I ak) hs2 0 rfl rfl rfl one3) ?_
 refine q trivial rfl rfl (eqi (k := .i64) (a := ak) (b := 1) rfl rfl) ?_
 refine nl ?_
 refine nN ?_
 refine cdd (p := ak = 1) rfl (fun h1 => ?_) (fun h1 => ?_)
 · refine rg ?_
   refine q trivial rfl rfl (mv (v := sb b2 (([ak] : List Int).length) 1) rfl) ?_
   refine q trivial rfl rfl (fa 1 fo25_1 rfl) ?_
   refine q trivial rfl rfl (ld (v := .slice Aaq aq.length caq) hs2 0 rfl rfl rfl one23) ?_
   refine apm (g := I) (ys := ([ak] : List Int)) (zs := aq) hs2 1 rfl sl23 rfl rfl rfl (haq.up0 hs2) (fun _ => rfl) (by unfold maxLen; have haf := addrOk_fit hok; have htl := textI_len an; have hnb : (numB apt).length = 2 := rfl; simp only [List.length_append, List.length_cons, List.length_nil]; omega) (by have haf := addrOk_fit hok; have htl := textI_len an; have hnb : (numB apt).length = 2 := rfl; simp only [List.length_append, List.length_cons, List.length_nil]; omega) trivial rfl (fun A1 c1 w3 (hs3 : SH w w3 [] [.blk b1 25 [I ak, .slice Aaq aq.length caq, Str an, I apt], .own A1 ((([ak] : List Int) ++ aq).length) c1 3 1 ((([ak] : List Int) ++ aq).map I)]) => ?_)
   refine q trivial rfl rfl (asg (v := .slice A1 ((([ak] : List Int) ++ aq).length) c1) rfl) ?_
   refine nl ?_
   refine nN ?_
   refine sq ?_
   refine rg ?_
   refine q trivial rfl rfl (mv (v := .slice A1 ((([ak] : List Int) ++ aq).length) c1) rfl) ?_
   refine q trivial rfl rfl (fa 3 fo25_3 rfl) ?_
   refine q trivial rfl rfl (ld (v := I apt) hs3 0 rfl rfl rfl one3) ?_
   refine cl trivial rfl (iNumberBytes (n := apt) (w := _) (hn := (by first | (first | omega | assumption | (simp; done) | (simp; omega)) | (have haf := addrOk_fit hok; have htl := textI_len an; have hnb : (numB apt).length = 2 := rfl; first | omega | assumption | (simp; done) | (simp; omega))))) ?_
   rintro _ w4 ⟨A2, c2, rfl, hs4'⟩
   have hs4 : SH w w4 [] [.blk b1 25 [I ak, .slice Aaq aq.length caq, Str an, I apt], .own A1 ((([ak] : List Int) ++ aq).length) c1 3 1 ((([ak] : List Int) ++ aq).map I), .own A2 ((numB apt).length) c2 3 1 ((numB apt).map I)] := hs3.call0 hs4'
   clear hs4'
   refine apm (g := I) (ys := ([ak] : List Int) ++ aq) (zs := numB apt) hs4 1 rfl sl23 rfl rfl rfl (hs4.sl0 2 rfl) (fun _ => rfl) (by unfold maxLen; have haf := addrOk_fit hok; have htl := textI_len an; have hnb : (numB apt).length = 2 := rfl; simp only [List.length_append, List.length_cons, List.length_nil]; omega) (by have haf := addrOk_fit hok; have htl := textI_len an; have hnb : (numB apt).length = 2 := rfl; simp only [List.length_append, List.length_cons, List.length_nil]; omega) trivial rfl (fun A3 c3 w5 (hs5 : SH w w5 [] [.blk b1 25 [I ak, .slice Aaq aq.length caq, Str an, I apt], .own A2 ((numB apt).length) c2 3 1 ((numB apt).map I), .own A3 (((([ak] : List Int) ++ aq) ++ (numB apt)).length) c3 3 1 (((([ak] : List Int) ++ aq) ++ (numB apt)).map I)]) => ?_)
   refine q trivial rfl rfl (asg (v := .slice A3 (((([ak] : List Int) ++ aq) ++ (numB apt)).length) c3) rfl) ?_
   refine nl ?_
   refine nN ?_
   refine rt ?_
   refine fret (v := .slice A3 (((([ak] : List Int) ++ aq) ++ (numB apt)).length) c3) (.tmp .nil) rfl ?_
   have e1 : (([ak] : List Int) ++ aq) ++ (numB apt) = addrB ak aq an apt := by simp [addrB, h1]
   have e2 : ((([ak] : List Int) ++ aq) ++ (numB apt)).length = (addrB ak aq an apt).length := by exact congrArg List.length e1
   exact ⟨A3, c3, (slv rfl e2 rfl), ((hs5.pick [2] rfl (by decide)).cast (lc (own_eq (g := I) rfl e2 rfl e1) rfl))⟩
 · refine raJ (fun w' => ∃ L, SH w w' [] L ∧ (.blk b1 25 [I ak, .slice Aaq aq.length caq, Str an, I apt]) ∈ L ∧ True) (fun f w' => ∃ (b4' : Nat) (A8' : Option Addr) (c8' : Nat) (A9' : Option Addr) (c9' : Nat), Has f [(1, pB b1), (3, .slice A9' (((([ak] : List Int) ++ ([((an.length : Nat) : Int)] : List Int)) ++ (textI an)).length) c9')] ∧ SH w w' [] [.blk b1 25 [I ak, .slice Aaq aq.length caq, Str an, I apt], .own A9' (((([ak] : List Int) ++ ([((an.length : Nat) : Int)] : List Int)) ++ (textI an)).length) c9' 3 1 (((([ak] : List Int) ++ ([((an.length : Nat) : Int)] : List Int)) ++ (textI an)).map I), oI b4' ([((an.length : Nat) : Int)] : List Int) 1 3, .own A8' ((textI an).length) c8' 3 1 ((textI an).map I)]) mixed ?_ ?_
   · refine dag (fuel' := 2) (listed' := lbits 11 511) (fun f w' => ∃ (b4' : Nat) (A5' : Option Addr) (c5' : Nat) (A8' : Option Addr) (c8' : Nat), Has f [(1, pB b1), (3, sb b2 (([ak] : List Int).length) 1), (19, .slice A5' ((([ak] : List Int) ++ ([((an.length : Nat) : Int)] : List Int)).length) c5'), (22, .slice A8' ((textI an).length) c8')] ∧ SH w w' [] [.blk b1 25 [I ak, .slice Aaq aq.length caq, Str an, I apt], .own A5' ((([ak] : List Int) ++ ([((an.length : Nat) : Int)] : List Int)).length) c5' 3 1 ((([ak] : List Int) ++ ([((an.length : Nat) : Int)] : List Int)).map I), oI b4' ([((an.length : Nat) : Int)] : List Int) 1 3, .own A8' ((textI an).length) c8' 3 1 ((textI an).map I)]) ?_ (fun D_4_0 => ?_)
     · rintro f w6 ⟨b4', A5', c5', A8', c8', hf, hs6⟩
       obtain ⟨g1, rfl⟩ := has_upd hf
       clear hf
       refine aaL [9] (fa_one ?_)
       refine one_ rfl ?_
       refine apm (g := I) (ys := ([ak] : List Int) ++ ([((an.length : Nat) : Int)] : List Int)) (zs := textI an) hs6 1 rfl sl23 rfl rfl rfl (hs6.sl0 3 rfl) (fun _ => rfl) (by unfold maxLen; have haf := addrOk_fit hok; have htl := textI_len an; have hnb : (numB apt).length = 2 := rfl; simp only [List.length_append, List.length_cons, List.length_nil]; omega) (by have haf := addrOk_fit hok; have htl := textI_len an; have hnb : (numB apt).length = 2 := rfl; simp only [List.length_append, List.length_cons, List.length_nil]; omega) trivial rfl (fun A9' c9' w7 hs7 => ?_)
       refine nl (kq ⟨_, hs7, memi 0 rfl, trivial⟩ ?_)
       refine tk (fuel := 0) (is := [10]) (.cons rfl (.nil)) (by kernel_rfl) (by kernel_rfl) ⟨_, hs7, memi 0 rfl, trivial⟩ ?_
       refine .op trivial rfl rfl (fun wq _ => asg (v := .slice A9' (((([ak] : List Int) ++ ([((an.length : Nat) : Int)] : List Int)) ++ (textI an)).length) c9') rfl) ?_
       refine .nil ?_
       refine ad (by kernel_rfl) ?_
       exact ⟨b4', A8', c8', A9', c9', ⟨rfl, rfl, trivial⟩, (hs7.pick [0, 3, 1, 2] rfl (by decide))⟩
     refine dag (fuel' := 3) (listed' := lbits 11 255) (fun f w' => ∃ (b4' : Nat) (A5' : Option Addr) (c5' : Nat), Has f [(1, pB b1), (3, sb b2 (([ak] : List Int).length) 1), (19, .slice A5' ((([ak] : List Int) ++ ([((an.length : Nat) : Int)] : List Int)).length) c5'), (21, Str an)] ∧ SH w w' [] [.blk b1 25 [I ak, .slice Aaq aq.length caq, Str an, I apt], .own A5' ((([ak] : List Int) ++ ([((an.length : Nat) : Int)] : List Int)).length) c5' 3 1 ((([ak] : List Int) ++ ([((an.length : Nat) : Int)] : List Int)).map I), oI b4' ([((an.length : Nat) : Int)] : List Int) 1 3]) ?_ (fun D_4_1 => ?_)
     · rintro f w8 ⟨b4', A5', c5', hf, hs8⟩
       obtain ⟨g2, rfl⟩ := has_upd hf
       clear hf
       refine aaL [8] (fa_one ?_)
       refine one_ rfl ?_
       refine cl trivial rfl (iTextBytes (s := an) (w := _) (hs_n := (by first | (first | omega | (simp; done) | (simp; omega)) | (have haf := addrOk_fit hok; have htl := textI_len an; have hnb : (numB apt).length = 2 := rfl; first | omega | (simp; done) | (simp; omega))))) ?_
       rintro _ w9 ⟨A8', c8', rfl, hs9'⟩
       have hs9 := hs8.call0 hs9'
       clear hs9'
       exact nl (kq ⟨_, hs9, memi 0 rfl, trivial⟩ (alc D_4_0 ⟨b4', A5', c5', A8', c8', ⟨rfl, rfl, rfl, rfl, trivial⟩, hs9⟩))
     refine dag (fuel' := 4) (listed' := lbits 11 223) (fun f w' => ∃ (b4' : Nat), Has f [(1, pB b1), (3, sb b2 (([ak] : List Int).length) 1), (14, sb b2 (([ak] : List Int).length) 1), (18, sb b4' (([((an.length : Nat) : Int)] : List Int).length) 1), (21, Str an)] ∧ SH w w' [] [.blk b1 25 [I ak, .slice Aaq aq.length caq, Str an, I apt], oI b2 ([ak] : List Int) 1 3, oI b4' ([((an.length : Nat) : Int)] : List Int) 1 3]) ?_ (fun D_4_2 => ?_)
     · rintro f w10 ⟨b4', hf, hs10⟩
       obtain ⟨g3, rfl⟩ := has_upd hf
       clear hf
       refine aaL [5] (fa_one ?_)
       refine one_ rfl ?_
       refine apm (g := I) (ys := ([ak] : List Int)) (zs := ([((an.length : Nat) : Int)] : List Int)) hs10 1 rfl sl23 rfl rfl rfl (hs10.sl0 2 rfl) (fun _ => rfl) (by unfold maxLen; have haf := addrOk_fit hok; have htl := textI_len an; have hnb : (numB apt).length = 2 := rfl; simp only [List.length_append, List.length_cons, List.length_nil]; omega) (by have haf := addrOk_fit hok; have htl := textI_len an; have hnb : (numB apt).length = 2 := rfl; simp only [List.length_append, List.length_cons, List.length_nil]; omega) trivial rfl (fun A5' c5' w11 hs11 => ?_)
       exact nl (kq ⟨_, hs11, memi 0 rfl, trivial⟩ (alc D_4_1 ⟨b4', A5', c5', ⟨rfl, rfl, rfl, rfl, trivial⟩, (hs11.pick [0, 2, 1] rfl (by decide))⟩))
     refine dag (fuel' := 5) (listed' := lbits 11 207) (fun f w' => Has f [(1, pB b1), (3, sb b2 (([ak] : List Int).length) 1), (14, sb b2 (([ak] : List Int).length) 1), (17, I ((an.length : Nat) : Int)), (21, Str an)] ∧ SH w w' [] [.blk b1 25 [I ak, .slice Aaq aq.length caq, Str an, I apt], oI b2 ([ak] : List Int) 1 3]) ?_ (fun D_4_3 => ?_)
     · rintro f w12 ⟨hf, hs12⟩
       obtain ⟨g4, rfl⟩ := has_upd hf
       clear hf
       refine aaL [4] (fa_one ?_)
       refine one_ rfl ?_
       refine bsk hs12 sl23 [I ((an.length : Nat) : Int)] [I ((an.length : Nat) : Int)] trivial rfl (fun b4' w13 hs13 => ?_)
       exact nl (kq ⟨_, hs13, memi 0 rfl, trivial⟩ (alc D_4_2 ⟨b4', ⟨rfl, rfl, rfl, rfl, rfl, trivial⟩, hs13⟩))
     have hs14 := hs2.drew
     refine tk (fuel := 5) (is := [0, 1, 2, 3, 6, 7]) (.cons rfl (.cons rfl (.cons rfl (.cons rfl (.cons rfl (.cons rfl (.nil))))))) (by kernel_rfl) (by kernel_rfl) ⟨_, hs14, memi 0 rfl, trivial⟩ ?_
     refine .op trivial rfl rfl (fun wq _ => mv (v := sb b2 (([ak] : List Int).length) 1) rfl) ?_
     refine .op trivial rfl rfl (fun wq _ => fa 2 fo25_2 rfl) ?_
     refine .op trivial rfl rfl (fun wq ⟨Lq, hsq, mh0, _⟩ => ldm (v := Str an) hsq mh0 rfl rfl one9) ?_
     refine .op trivial rfl rfl (fun wq _ => lnS (l := an) st9 rfl) ?_
     refine .op trivial rfl rfl (fun wq _ => fa 2 fo25_2 rfl) ?_
     refine .op trivial rfl rfl (fun wq ⟨Lq, hsq, mh0, _⟩ => ldm (v := Str an) hsq mh0 rfl rfl one9) ?_
     refine .nil ?_
     exact alc D_4_3 ⟨⟨rfl, rfl, rfl, rfl, rfl, trivial⟩, hs14⟩
   rintro f w14 ⟨b4', A8', c8', A9', c9', hf, hs15⟩
   obtain ⟨g5, rfl⟩ := has_upd hf
   clear hf
   refine nN ?_
   have hs16 : SH w w14 [] [.blk b1 25 [I ak, .slice Aaq aq.length caq, Str an, I apt], .own A9' (((([ak] : List Int) ++ ([((an.length : Nat) : Int)] : List Int)) ++ (textI an)).length) c9' 3 1 (((([ak] : List Int) ++ ([((an.length : Nat) : Int)] : List Int)) ++ (textI an)).map I)] := hs15.pick [0, 1] rfl (by decide)
   refine sq ?_
   refine rg ?_
   refine q trivial rfl rfl (mv (v := .slice A9' (((([ak] : List Int) ++ ([((an.length : Nat) : Int)] : List Int)) ++ (textI an)).length) c9') rfl) ?_
   refine q trivial rfl rfl (fa 3 fo25_3 rfl) ?_
   refine q trivial rfl rfl (ld (v := I apt) hs16 0 rfl rfl rfl one3) ?_
   refine cl trivial rfl (iNumberBytes (n := apt) (w := _) (hn := (by first | (first | omega | assumption | (simp; done) | (simp; omega)) | (have haf := addrOk_fit hok; have htl := textI_len an; have hnb : (numB apt).length = 2 := rfl; first | omega | assumption | (simp; done) | (simp; omega))))) ?_
   rintro _ w15 ⟨A4, c4, rfl, hs17'⟩
   have hs17 : SH w w15 [] [.blk b1 25 [I ak, .slice Aaq aq.length caq, Str an, I apt], .own A9' (((([ak] : List Int) ++ ([((an.length : Nat) : Int)] : List Int)) ++ (textI an)).length) c9' 3 1 (((([ak] : List Int) ++ ([((an.length : Nat) : Int)] : List Int)) ++ (textI an)).map I), .own A4 ((numB apt).length) c4 3 1 ((numB apt).map I)] := hs16.call0 hs17'
   clear hs17'
   refine apm (g := I) (ys := (([ak] : List Int) ++ ([((an.length : Nat) : Int)] : List Int)) ++ (textI an)) (zs := numB apt) hs17 1 rfl sl23 rfl rfl rfl (hs17.sl0 2 rfl) (fun _ => rfl) (by unfold maxLen; have haf := addrOk_fit hok; have htl := textI_len an; have hnb : (numB apt).length = 2 := rfl; simp only [List.length_append, List.length_cons, List.length_nil]; omega) (by have haf := addrOk_fit hok; have htl := textI_len an; have hnb : (numB apt).length = 2 := rfl; simp only [List.length_append, List.length_cons, List.length_nil]; omega) trivial rfl (fun A5 c5 w16 (hs18 : SH w w16 [] [.blk b1 25 [I ak, .slice Aaq aq.length caq, Str an, I apt], .own A4 ((numB apt).length) c4 3 1 ((numB apt).map I), .own A5 ((((([ak] : List Int) ++ ([((an.length : Nat) : Int)] : List Int)) ++ (textI an)) ++ (numB apt)).length) c5 3 1 ((((([ak] : List Int) ++ ([((an.length : Nat) : Int)] : List Int)) ++ (textI an)) ++ (numB apt)).map I)]) => ?_)
   refine q trivial rfl rfl (asg (v := .slice A5 ((((([ak] : List Int) ++ ([((an.length : Nat) : Int)] : List Int)) ++ (textI an)) ++ (numB apt)).length) c5) rfl) ?_
   refine nl ?_
   refine nN ?_
   refine rt ?_
   refine fret (v := .slice A5 ((((([ak] : List Int) ++ ([((an.length : Nat) : Int)] : List Int)) ++ (textI an)) ++ (numB apt)).length) c5) (.tmp .nil) rfl ?_
   have e3 : ((([ak] : List Int) ++ ([((an.length : Nat) : Int)] : List Int)) ++ (textI an)) ++ (numB apt) = addrB ak aq an apt := by simp [addrB, h1]
   have e4 : (((([ak] : List Int) ++ ([((an.length : Nat) : Int)] : List Int)) ++ (textI an)) ++ (numB apt)).length = (addrB ak aq an apt).length := by exact congrArg List.length e3
   exact ⟨A5, c5, (slv rfl e4 rfl), ((hs18.pick [2] rfl (by decide)).cast (lc (own_eq (g := I) rfl e4 rfl e3) rfl))⟩

set_option maxHeartbeats 8000000 in
theorem sL3Bytes (ak : Int) {Aaq : Option Addr} {caq : Nat} (aq : List Int) (an : List UInt8) (apt : Int) (w : World) (haq : Sl w [] 1 Aaq aq.length caq (aq.map I)) (han_n : an.length ≤ 1099511627776) (hok : addrOk ak aq an apt = true) : Does Tryd.prog 59 [.agg #[I ak, .slice Aaq aq.length caq, Str an, I apt]] w (fun v w' => ∃ Ar : Option Addr, ∃ cr : Nat, v = .slice Ar (addrB ak aq an apt).length cr ∧ SH w w' [] [.own Ar ((addrB ak aq an apt).length) cr 3 1 ((addrB ak aq an apt).map I)]) := by
 refine fn_enter (N := 30) Tryd.func59 rfl (by kernel_rfl) rfl rfl rfl ?_
 have hs0 : SH w w [] [] := SH.refl w []
 have haq_m : aq.length ≤ 9223372036854775807 := Nat.le_trans haq.cap haq.capMax
 refine sq ?_
 refine rg ?_
 refine bx (v := .agg #[I ak, .slice Aaq aq.length caq, Str an, I apt]) (cs := [I ak, .slice Aaq aq.length caq, Str an, I apt]) hs0 rfl rfl trivial rfl (fun b1 w1 (hs1 : SH w w1 [] [.blk b1 25 [I ak, .slice Aaq aq.length caq, Str an, I apt]]) => ?_)
 refine q trivial rfl rfl (asg (v := ns) rfl) ?_
 refine nl ?_
 refine nN ?_
 refine sq ?_
 refine rg ?_
 refine q trivial rfl rfl (fa 0 fo25_0 rfl) ?_
 refine q trivial rfl rfl (ld (v := I ak) hs1 0 rfl rfl rfl one3) ?_
 refine bsk hs1 sl23 [I ak] [I ak] trivial rfl (fun b2 w2 (hs2 : SH w w2 [] [.blk b1 25 [I ak, .slice Aaq aq.length caq, Str an, I apt], oI b2 ([ak] : List Int) 1 3]) => ?_)
 refine q trivial rfl rfl (asg (v := sb b2 (([ak] : List Int).length) 1) rfl) ?_
 refine nl ?_
 refine nN ?_
 refine sq ?_
 refine sq ?_
 refine rg ?_
 refine q trivial rfl rfl (fa 0 fo25_0 rfl) ?_
 refine q trivial rfl rfl (ld (v := I ak) hs2 0 rfl rfl rfl one3) ?_
 refine q trivial rfl rfl (eqi (k := .i64) (a := ak) (b := 1) rfl rfl) ?_
 refine nl ?_
 refine nN ?_
 refine cdd (p := ak = 1) rfl (fun h1 => ?_) (fun h1 => ?_)
 · refine rg ?_
   refine q trivial rfl rfl (mv (v := sb b2 (([ak] : List Int).length) 1) rfl) ?_
   refine q trivial rfl rfl (fa 1 fo25_1 rfl) ?_
   refine q trivial rfl rfl (ld (v := .slice Aaq aq.length caq) hs2 0 rfl rfl rfl one23) ?_
   refine apm (g := I) (ys := ([ak] : List Int)) (zs := aq) hs2 1 rfl sl23 rfl rfl rfl (haq.up0 hs2) (fun _ => rfl) (by unfold maxLen; have haf := addrOk_fit hok; have htl := textI_len an; have hnb : (numB apt).length = 2 := rfl; simp only [List.length_append, List.length_cons, List.length_nil]; omega) (by have haf := addrOk_fit hok; have htl := textI_len an; have hnb : (numB apt).length = 2 := rfl; simp only [List.length_append, List.length_cons, List.length_nil]; omega) trivial rfl (fun A1 c1 w3 (hs3 : SH w w3 [] [.blk b1 25 [I ak, .slice Aaq aq.length caq, Str an, I apt], .own A1 ((([ak] : List Int) ++ aq).length) c1 3 1 ((([ak] : List Int) ++ aq).map I)]) => ?_)
   refine q trivial rfl rfl (asg (v := .slice A1 ((([ak] : List Int) ++ aq).length) c1) rfl) ?_
   refine nl ?_
   refine nN ?_
   refine sq ?_
   refine rg ?_
   refine q trivial rfl rfl (mv (v := .slice A1 ((([ak] : List Int) ++ aq).length) c1) rfl) ?_
   refine q trivial rfl rfl (fa 3 fo25_3 rfl) ?_
   refine q trivial rfl rfl (ld (v := I apt) hs3 0 rfl rfl rfl one3) ?_
   refine cl trivial rfl (sL1Number (n := apt) (w := _) (hn := (by first | (first | omega | assumption | (simp; done) | (simp; omega)) | (have haf := addrOk_fit hok; have htl := textI_len an; have hnb : (numB apt).length = 2 := rfl; first | omega | assumption | (simp; done) | (simp; omega))))) ?_
   rintro _ w4 ⟨A2, c2, rfl, hs4'⟩
   have hs4 : SH w w4 [] [.blk b1 25 [I ak, .slice Aaq aq.length caq, Str an, I apt], .own A1 ((([ak] : List Int) ++ aq).length) c1 3 1 ((([ak] : List Int) ++ aq).map I), .own A2 ((numB apt).length) c2 3 1 ((numB apt).map I)] := hs3.call0 hs4'
   clear hs4'
   refine apm (g := I) (ys := ([ak] : List Int) ++ aq) (zs := numB apt) hs4 1 rfl sl23 rfl rfl rfl (hs4.sl0 2 rfl) (fun _ => rfl) (by unfold maxLen; have haf := addrOk_fit hok; have htl := textI_len an; have hnb : (numB apt).length = 2 := rfl; simp only [List.length_append, List.length_cons, List.length_nil]; omega) (by have haf := addrOk_fit hok; have htl := textI_len an; have hnb : (numB apt).length = 2 := rfl; simp only [List.length_append, List.length_cons, List.length_nil]; omega) trivial rfl (fun A3 c3 w5 (hs5 : SH w w5 [] [.blk b1 25 [I ak, .slice Aaq aq.length caq, Str an, I apt], .own A2 ((numB apt).length) c2 3 1 ((numB apt).map I), .own A3 (((([ak] : List Int) ++ aq) ++ (numB apt)).length) c3 3 1 (((([ak] : List Int) ++ aq) ++ (numB apt)).map I)]) => ?_)
   refine q trivial rfl rfl (asg (v := .slice A3 (((([ak] : List Int) ++ aq) ++ (numB apt)).length) c3) rfl) ?_
   refine nl ?_
   refine nN ?_
   refine rt ?_
   refine fret (v := .slice A3 (((([ak] : List Int) ++ aq) ++ (numB apt)).length) c3) (.tmp .nil) rfl ?_
   have e1 : (([ak] : List Int) ++ aq) ++ (numB apt) = addrB ak aq an apt := by simp [addrB, h1]
   have e2 : ((([ak] : List Int) ++ aq) ++ (numB apt)).length = (addrB ak aq an apt).length := by exact congrArg List.length e1
   exact ⟨A3, c3, (slv rfl e2 rfl), ((hs5.pick [2] rfl (by decide)).cast (lc (own_eq (g := I) rfl e2 rfl e1) rfl))⟩
 · refine sq ?_
   refine rg ?_
   refine q trivial rfl rfl (mv (v := sb b2 (([ak] : List Int).length) 1) rfl) ?_
   refine q trivial rfl rfl (fa 2 fo25_2 rfl) ?_
   refine q trivial rfl rfl (ld (v := Str an) hs2 0 rfl rfl rfl one9) ?_
   refine q trivial rfl rfl (lnS (l := an) st9 rfl) ?_
   refine bsk hs2 sl23 [I ((an.length : Nat) : Int)] [I ((an.length : Nat) : Int)] trivial rfl (fun b3 w6 (hs6 : SH w w6 [] [.blk b1 25 [I ak, .slice Aaq aq.length caq, Str an, I apt], oI b2 ([ak] : List Int) 1 3, oI b3 ([((an.length : Nat) : Int)] : List Int) 1 3]) => ?_)
   refine apm (g := I) (ys := ([ak] : List Int)) (zs := ([((an.length : Nat) : Int)] : List Int)) hs6 1 rfl sl23 rfl rfl rfl (hs6.sl0 2 rfl) (fun _ => rfl) (by unfold maxLen; have haf := addrOk_fit hok; have htl := textI_len an; have hnb : (numB apt).length = 2 := rfl; simp only [List.length_append, List.length_cons, List.length_nil]; omega) (by have haf := addrOk_fit hok; have htl := textI_len an; have hnb : (numB apt).length = 2 := rfl; simp only [List.length_append, List.length_cons, List.length_nil]; omega) trivial rfl (fun A4 c4 w7 (hs7 : SH w w7 [] [.blk b1 25 [I ak, .slice Aaq aq.length caq, Str an, I apt], oI b3 ([((an.length : Nat) : Int)] : List Int) 1 3, .own A4 ((([ak] : List Int) ++ ([((an.length : Nat) : Int)] : List Int)).length) c4 3 1 ((([ak] : List Int) ++ ([((an.length : Nat) : Int)] : List Int)).map I)]) => ?_)
   refine q trivial rfl rfl (asg (v := .slice A4 ((([ak] : List Int) ++ ([((an.length : Nat) : Int)] : List Int)).length) c4) rfl) ?_
   refine nl ?_
   refine nN ?_
   refine rg ?_
   refine q trivial rfl rfl (mv (v := .slice A4 ((([ak] : List Int) ++ ([((an.length : Nat) : Int)] : List Int)).length) c4) rfl) ?_
   refine q trivial rfl rfl (fa 2 fo25_2 rfl) ?_
   refine q trivial rfl rfl (ld (v := Str an) hs7 0 rfl rfl rfl one9) ?_
   refine cl trivial rfl (sL1Text (s := an) (w := _) (hs_n := (by first | (first | omega | (simp; done) | (simp; omega)) | (have haf := addrOk_fit hok; have htl := textI_len an; have hnb : (numB apt).length = 2 := rfl; first | omega | (simp; done) | (simp; omega))))) ?_
   rintro _ w8 ⟨A5, c5, rfl, hs8'⟩
   have hs8 : SH w w8 [] [.blk b1 25 [I ak, .slice Aaq aq.length caq, Str an, I apt], oI b3 ([((an.length : Nat) : Int)] : List Int) 1 3, .own A4 ((([ak] : List Int) ++ ([((an.length : Nat) : Int)] : List Int)).length) c4 3 1 ((([ak] : List Int) ++ ([((an.length : Nat) : Int)] : List Int)).map I), .own A5 ((textI an).length) c5 3 1 ((textI an).map I)] := hs7.call0 hs8'
   clear hs8'
   refine apm (g := I) (ys := ([ak] : List Int) ++ ([((an.length : Nat) : Int)] : List Int)) (zs := textI an) hs8 2 rfl sl23 rfl rfl rfl (hs8.sl0 3 rfl) (fun _ => rfl) (by unfold maxLen; have haf := addrOk_fit hok; have htl := textI_len an; have hnb : (numB apt).length = 2 := rfl; simp only [List.length_append, List.length_cons, List.length_nil]; omega) (by have haf := addrOk_fit hok; have htl := textI_len an; have hnb : (numB apt).length = 2 := rfl; simp only [List.length_append, List.length_cons, List.length_nil]; omega) trivial rfl (fun A6 c6 w9 (hs9 : SH w w9 [] [.blk b1 25 [I ak, .slice Aaq aq.length caq, Str an, I apt], oI b3 ([((an.length : Nat) : Int)] : List Int) 1 3, .own A5 ((textI an).length) c5 3 1 ((textI an).map I), .own A6 (((([ak] : List Int) ++ ([((an.length : Nat) : Int)] : List Int)) ++ (textI an)).length) c6 3 1 (((([ak] : List Int) ++ ([((an.length : Nat) : Int)] : List Int)) ++ (textI an)).map I)]) => ?_)
   refine q trivial rfl rfl (asg (v := .slice A6 (((([ak] : List Int) ++ ([((an.length : Nat) : Int)] : List Int)) ++ (textI an)).length) c6) rfl) ?_
   refine nl ?_
   refine nN ?_
   have hs10 : SH w w9 [] [.blk b1 25 [I ak, .slice Aaq aq.length caq, Str an, I apt], .own A6 (((([ak] : List Int) ++ ([((an.length : Nat) : Int)] : List Int)) ++ (textI an)).length) c6 3 1 (((([ak] : List Int) ++ ([((an.length : Nat) : Int)] : List Int)) ++ (textI an)).map I)] := hs9.pick [0, 3] rfl (by decide)
   refine sq ?_
   refine rg ?_
   refine q trivial rfl rfl (mv (v := .slice A6 (((([ak] : List Int) ++ ([((an.length : Nat) : Int)] : List Int)) ++ (textI an)).length) c6) rfl) ?_
   refine q trivial rfl rfl (fa 3 fo25_3 rfl) ?_
   refine q trivial rfl rfl (ld (v := I apt) hs10 0 rfl rfl rfl one3) ?_
   refine cl trivial rfl (sL1Number (n := apt) (w := _) (hn := (by first | (first | omega | assumption | (simp; done) | (simp; omega)) | (have haf := addrOk_fit hok; have htl := textI_len an; have hnb : (numB apt).length = 2 := rfl; first | omega | assumption | (simp; done) | (simp; omega))))) ?_
   rintro _ w10 ⟨A7, c7, rfl, hs11'⟩
   have hs11 : SH w w10 [] [.blk b1 25 [I ak, .slice Aaq aq.length caq, Str an, I apt], .own A6 (((([ak] : List Int) ++ ([((an.length : Nat) : Int)] : List Int)) ++ (textI an)).length) c6 3 1 (((([ak] : List Int) ++ ([((an.length : Nat) : Int)] : List Int)) ++ (textI an)).map I), .own A7 ((numB apt).length) c7 3 1 ((numB apt).map I)] := hs10.call0 hs11'
   clear hs11'
   refine apm (g := I) (ys := (([ak] : List Int) ++ ([((an.length : Nat) : Int)] : List Int)) ++ (textI an)) (zs := numB apt) hs11 1 rfl sl23 rfl rfl rfl (hs11.sl0 2 rfl) (fun _ => rfl) (by unfold maxLen; have haf := addrOk_fit hok; have htl := textI_len an; have hnb : (numB apt).length = 2 := rfl; simp only [List.length_append, List.length_cons, List.length_nil]; omega) (by have haf := addrOk_fit hok; have htl := textI_len an; have hnb : (numB apt).length = 2 := rfl; simp only [List.length_append, List.length_cons, List.length_nil]; omega) trivial rfl (fun A8 c8 w11 (hs12 : SH w w11 [] [.blk b1 25 [I ak, .slice Aaq aq.length caq, Str an, I apt], .own A7 ((numB apt).length) c7 3 1 ((numB apt).map I), .own A8 ((((([ak] : List Int) ++ ([((an.length : Nat) : Int)] : List Int)) ++ (textI an)) ++ (numB apt)).length) c8 3 1 ((((([ak] : List Int) ++ ([((an.length : Nat) : Int)] : List Int)) ++ (textI an)) ++ (numB apt)).map I)]) => ?_)
   refine q trivial rfl rfl (asg (v := .slice A8 ((((([ak] : List Int) ++ ([((an.length : Nat) : Int)] : List Int)) ++ (textI an)) ++ (numB apt)).length) c8) rfl) ?_
   refine nl ?_
   refine nN ?_
   refine rt ?_
   refine fret (v := .slice A8 ((((([ak] : List Int) ++ ([((an.length : Nat) : Int)] : List Int)) ++ (textI an)) ++ (numB apt)).length) c8) (.tmp .nil) rfl ?_
   have e3 : ((([ak] : List Int) ++ ([((an.length : Nat) : Int)] : List Int)) ++ (textI an)) ++ (numB apt) = addrB ak aq an apt := by simp [addrB, h1]
   have e4 : (((([ak] : List Int) ++ ([((an.length : Nat) : Int)] : List Int)) ++ (textI an)) ++ (numB apt)).length = (addrB ak aq an apt).length := by exact congrArg List.length e3
   exact ⟨A8, c8, (slv rfl e4 rfl), ((hs12.pick [2] rfl (by decide)).cast (lc (own_eq (g := I) rfl e4 rfl e3) rfl))⟩

set_option maxHeartbeats 8000000 in
theorem sL12Bytes (n : Int) (ak : Int) {Aaq : Option Addr} {caq : Nat} (aq : List Int) (an : List UInt8) (apt : Int) (w : World) (haq : Sl w [] 1 Aaq aq.length caq (aq.map I)) (han_n : an.length ≤ 1099511627776) (hok : addrOk ak aq an apt = true) : Does Tryd.prog 29 [I n, .agg #[I ak, .slice Aaq aq.length caq, Str an, I apt]] w (fun v w' => ∃ Ar : Option Addr, ∃ cr : Nat, v = .slice Ar ([5, n, 0] ++ addrB ak aq an apt).length cr ∧ SH w w' [] [.own Ar (([5, n, 0] ++ addrB ak aq an apt).length) cr 3 1 (([5, n, 0] ++ addrB ak aq an apt).map I)]) := by
 refine fn_enter (N := 10) Tryd.func29 rfl (by kernel_rfl) rfl rfl rfl ?_
 have hs0 : SH w w [] [] := SH.refl w []
 have haq_m : aq.length ≤ 9223372036854775807 := Nat.le_trans haq.cap haq.capMax
 refine sq ?_
 refine rg ?_
 refine bx (v := .agg #[I ak, .slice Aaq aq.length caq, Str an, I apt]) (cs := [I ak, .slice Aaq aq.length caq, Str an, I apt]) hs0 rfl rfl trivial rfl (fun b1 w1 (hs1 : SH w w1 [] [.blk b1 25 [I ak, .slice Aaq aq.length caq, Str an, I apt]]) => ?_)
 refine q trivial rfl rfl (asg (v := ns) rfl) ?_
 refine nl ?_
 refine nN ?_
 refine sq ?_
 refine rg ?_
 refine q trivial rfl rfl (mv (v := I n) rfl) ?_
 refine bsk hs1 sl23 [I 5, I n, I 0] [I 5, I n, I 0] trivial rfl (fun b2 w2 (hs2 : SH w w2 [] [.blk b1 25 [I ak, .slice Aaq aq.length caq, Str an, I apt], oI b2 ([5, n, 0] : List Int) 3 3]) => ?_)
 refine q trivial rfl rfl (ldg (vs := [I ak, .slice Aaq aq.length caq, Str an, I apt]) hs2 0 rfl rfl rfl rfl ag25) ?_
 refine cl trivial rfl (sL3Bytes (ak := ak) (Aaq := Aaq) (caq := caq) (aq := aq) (an := an) (apt := apt) (w := _) (haq := (haq.up0 hs2)) (han_n := (by first | omega | (simp; done) | (simp; omega))) (hok := (by first | omega | assumption | (simp; done) | (simp; omega)))) ?_
 rintro _ w3 ⟨A1, c1, rfl, hs3'⟩
 have hs3 : SH w w3 [] [.blk b1 25 [I ak, .slice Aaq aq.length caq, Str an, I apt], oI b2 ([5, n, 0] : List Int) 3 3, .own A1 ((addrB ak aq an apt).length) c1 3 1 ((addrB ak aq an apt).map I)] := hs2.call0 hs3'
 clear hs3'
 refine apm (g := I) (ys := ([5, n, 0] : List Int)) (zs := addrB ak aq an apt) hs3 1 rfl sl23 rfl rfl rfl (hs3.sl0 2 rfl) (fun _ => rfl) (by unfold maxLen; have hbl := addrB_len hok; simp only [List.length_append, List.length_cons, List.length_nil]; omega) (by have hbl := addrB_len hok; simp only [List.length_append, List.length_cons, List.length_nil]; omega) trivial rfl (fun A2 c2 w4 (hs4 : SH w w4 [] [.blk b1 25 [I ak, .slice Aaq aq.length caq, Str an, I apt], .own A1 ((addrB ak aq an apt).length) c1 3 1 ((addrB ak aq an apt).map I), .own A2 ((([5, n, 0] : List Int) ++ (addrB ak aq an apt)).length) c2 3 1 ((([5, n, 0] : List Int) ++ (addrB ak aq an apt)).map I)]) => ?_)
 refine q trivial rfl rfl (asg (v := .slice A2 ((([5, n, 0] : List Int) ++ (addrB ak aq an apt)).length) c2) rfl) ?_
 refine nl ?_
 refine nN ?_
 refine rt ?_
 refine fret (v := .slice A2 ((([5, n, 0] : List Int) ++ (addrB ak aq an apt)).length) c2) (.tmp .nil) rfl ?_
 have e1 : ([5, n, 0] : List Int) ++ (addrB ak aq an apt) = [5, n, 0] ++ addrB ak aq an apt := by first | rfl | (simp; done) | (simp_all; done) | omega
 have e2 : (([5, n, 0] : List Int) ++ (addrB ak aq an apt)).length = ([5, n, 0] ++ addrB ak aq an apt).length := by exact congrArg List.length e1
 exact ⟨A2, c2, (slv rfl e2 rfl), ((hs4.pick [2] rfl (by decide)).cast (lc (own_eq (g := I) rfl e2 rfl e1) rfl))⟩

theorem iIsRequest (n : Int) (ak : Int) {Aaq : Option Addr} {caq : Nat} (aq : List Int) (an : List UInt8) (apt : Int) (w : World) (haq : Sl w [] 1 Aaq aq.length caq (aq.map I)) (han_n : an.length ≤ 1099511627776) : Does Tryd.prog 46 [.agg #[I n, I ak, .slice Aaq aq.length caq, Str an, I apt]] w (fun v w' => v = .bool (reqOk n ak aq an apt) ∧ SH w w' [] []) := by
 refine fn_enter (N := 11) Tryd.func46 rfl (by kernel_rfl) rfl rfl rfl ?_
 have hs0 : SH w w [] [] := SH.refl w []
 have haq_m : aq.length ≤ 9223372036854775807 := Nat.le_trans haq.cap haq.capMax
 refine sq ?_
 refine rg ?_
 refine bx (v := .agg #[I n, I ak, .slice Aaq aq.length caq, Str an, I apt]) (cs := [I n, I ak, .slice Aaq aq.length caq, Str an, I apt]) hs0 rfl rfl trivial rfl (fun b1 w1 (hs1 : SH w w1 [] [.blk b1 44 [I n, I ak, .slice Aaq aq.length caq, Str an, I apt]]) => ?_)
 refine q trivial rfl rfl (asg (v := .bool false) rfl) ?_
 refine nl ?_
 refine nN ?_
 refine sq ?_
 refine rg ?_
 refine q trivial rfl rfl (fa 0 fo44_0 rfl) ?_
 refine q trivial rfl rfl (ld (v := I n) hs1 0 rfl rfl rfl one3) ?_
 refine cl trivial rfl (iWithin (x := n) (lo := 1) (hi := 3) (w := _)) ?_
 rintro _ w2 ⟨rfl, hs2'⟩
 have hs2 : SH w w2 [] [.blk b1 44 [I n, I ak, .slice Aaq aq.length caq, Str an, I apt]] := hs1.call0 hs2'
 clear hs2'
 refine q trivial rfl rfl (mv (v := .bool (decide (1 ≤ n ∧ n ≤ 3))) rfl) ?_
 refine spd (p := 1 ≤ n ∧ n ≤ 3) 6 rfl (fun h1 => ?_) (fun h1 => ?_)
 · refine q ⟨_, rfl, rfl⟩ rfl rfl (fa 1 fo44_1 rfl) ?_
   refine q ⟨_, rfl, rfl⟩ rfl rfl (ldg (vs := [I ak, .slice Aaq aq.length caq, Str an, I apt]) hs2 0 rfl rfl rfl rfl ag25) ?_
   refine cl ⟨_, rfl, rfl⟩ rfl (iAddressValid (ak := ak) (Aaq := Aaq) (caq := caq) (aq := aq) (an := an) (apt := apt) (w := _) (haq := (haq.up0 hs2)) (han_n := (by first | omega | (simp; done) | (simp; omega)))) ?_
   rintro _ w3 ⟨rfl, hs3'⟩
   have hs3 : SH w w3 [] [.blk b1 44 [I n, I ak, .slice Aaq aq.length caq, Str an, I apt]] := hs2.call0 hs3'
   clear hs3'
   refine q trivial rfl rfl (pt (v := .bool (addrOk ak aq an apt)) rfl rfl) ?_
   refine q trivial rfl rfl (asg (v := .bool (addrOk ak aq an apt)) rfl) ?_
   refine nl ?_
   refine nN ?_
   refine rt ?_
   refine fret (v := .bool (addrOk ak aq an apt)) (.tmp .nil) rfl ?_
   have e1 : (addrOk ak aq an apt) = reqOk n ak aq an apt := by simp [reqOk, h1]
   exact ⟨(congrArg (Value.bool) e1), (hs3.pick [] rfl (by decide))⟩
 · refine gk false rfl rfl rfl rfl rfl ?_
   refine gk false rfl rfl rfl rfl rfl ?_
   refine gk false rfl rfl rfl rfl rfl ?_
   refine q trivial rfl rfl (pf (v := .bool false) rfl rfl) ?_
   refine q trivial rfl rfl (asg (v := .bool false) rfl) ?_
   refine nl ?_
   refine nN ?_
   refine rt ?_
   refine fret (v := .bool false) (.tmp .nil) rfl ?_
   have e2 : false = reqOk n ak aq an apt := by simp [reqOk, h1]
   exact ⟨(congrArg (Value.bool) e2), (hs2.pick [] rfl (by decide))⟩

set_option maxHeartbeats 8000000 in
theorem iRequestBytes (n : Int) (ak : Int) {Aaq : Option Addr} {caq : Nat} (aq : List Int) (an : List UInt8) (apt : Int) (w : World) (haq : Sl w [] 1 Aaq aq.length caq (aq.map I)) (han_n : an.length ≤ 1099511627776) : Does Tryd.prog 27 [.agg #[I n, I ak, .slice Aaq aq.length caq, Str an, I apt]] w (fun v w' => ∃ Ar : Option Addr, ∃ cr : Nat, v = .tuple #[.slice Ar ((reqP n ak aq an apt).1).length cr, .bool ((reqP n ak aq an apt).2)] ∧ SH w w' [] [.own Ar (((reqP n ak aq an apt).1).length) cr 3 1 (((reqP n ak aq an apt).1).map I)]) := by
 refine fn_enter (N := 14) Tryd.func27 rfl (by kernel_rfl) rfl rfl rfl ?_
 have hs0 : SH w w [] [] := SH.refl w []
 have haq_m : aq.length ≤ 9223372036854775807 := Nat.le_trans haq.cap haq.capMax
 refine sq ?_
 refine rg ?_
 refine bx (v := .agg #[I n, I ak, .slice Aaq aq.length caq, Str an, I apt]) (cs := [I n, I ak, .slice Aaq aq.length caq, Str an, I apt]) hs0 rfl rfl trivial rfl (fun b1 w1 (hs1 : SH w w1 [] [.blk b1 44 [I n, I ak, .slice Aaq aq.length caq, Str an, I apt]]) => ?_)
 refine q trivial rfl rfl (asg (v := ns) rfl) ?_
 refine q trivial rfl rfl (asg (v := .bool false) rfl) ?_
 refine nl ?_
 refine nN ?_
 refine sq ?_
 refine sq ?_
 refine rg ?_
 refine q trivial rfl rfl (ldg (vs := [I n, I ak, .slice Aaq aq.length caq, Str an, I apt]) hs1 0 rfl rfl rfl rfl ag44) ?_
 refine cl trivial rfl (iIsRequest (n := n) (ak := ak) (Aaq := Aaq) (caq := caq) (aq := aq) (an := an) (apt := apt) (w := _) (haq := (haq.up0 hs1)) (han_n := (by first | omega | (simp; done) | (simp; omega)))) ?_
 rintro _ w2 ⟨rfl, hs2'⟩
 have hs2 : SH w w2 [] [.blk b1 44 [I n, I ak, .slice Aaq aq.length caq, Str an, I apt]] := hs1.call0 hs2'
 clear hs2'
 refine q trivial rfl rfl (nt (b := reqOk n ak aq an apt) rfl) ?_
 refine nl ?_
 refine nN ?_
 refine cd (b := !(reqOk n ak aq an apt)) rfl (fun h1 => ?_) (fun h1 => ?_)
 · have h2 : (reqOk n ak aq an apt) = false := by simpa using h1
   refine sq ?_
   refine rg ?_
   refine q trivial rfl rfl (asg (v := ns) rfl) ?_
   refine q trivial rfl rfl (asg (v := .bool false) rfl) ?_
   refine nl ?_
   refine nN ?_
   refine rt (tR ?_)
   refine fret (v := .tuple #[ns, .bool false]) (.tmp (.tmp .nil)) rfl ?_
   have hs3 : SH w w2 [] [.blk b1 44 [I n, I ak, .slice Aaq aq.length caq, Str an, I apt], .own none (([] : List Int).length) 0 3 1 (([] : List Int).map I)] := SH.nils (by intro i hi; simp at hi; subst hi; exact nilItem) hs2
   have e1 : reqP n ak aq an apt = (([] : List Int), false) := by first | (simp [reqP, h2]; done) | (simp [reqP, reqOk, h2]; done)
   have e2 : ([] : List Int) = (reqP n ak aq an apt).1 := by rw [e1]
   have e3 : ([] : List Int).length = ((reqP n ak aq an apt).1).length := by exact congrArg List.length e2
   have e4 : false = (reqP n ak aq an apt).2 := by rw [e1]
   exact ⟨none, 0, (tup2 (slv rfl e3 rfl) (congrArg (Value.bool) e4)), ((hs3.pick [1] rfl (by decide)).cast (lc (own_eq (g := I) rfl e3 rfl e2) rfl))⟩
 · have h3 : (reqOk n ak aq an apt) = true := by simpa using h1
   refine sk ?_
   refine nN ?_
   refine sq ?_
   refine raJ (fun w' => ∃ L, SH w w' [] L ∧ (.blk b1 44 [I n, I ak, .slice Aaq aq.length caq, Str an, I apt]) ∈ L ∧ True) (fun f w' => ∃ (A5' : Option Addr) (c5' : Nat) (A6' : Option Addr) (c6' : Nat), Has f [(2, .slice A6' ((([5, n, 0] : List Int) ++ (addrB ak aq an apt)).length) c6'), (3, .bool true)] ∧ SH w w' [] [.blk b1 44 [I n, I ak, .slice Aaq aq.length caq, Str an, I apt], .own A6' ((([5, n, 0] : List Int) ++ (addrB ak aq an apt)).length) c6' 3 1 ((([5, n, 0] : List Int) ++ (addrB ak aq an apt)).map I), .own A5' ((addrB ak aq an apt).length) c5' 3 1 ((addrB ak aq an apt).map I)]) mixed ?_ ?_
   · refine dag (fuel' := 3) (listed' := lbits 9 63) (fun f w' => ∃ (b2' : Nat) (A5' : Option Addr) (c5' : Nat), Has f [(2, ns), (3, .bool false), (9, sb b2' (([5, n, 0] : List Int).length) 3), (12, .slice A5' ((addrB ak aq an apt).length) c5')] ∧ SH w w' [] [.blk b1 44 [I n, I ak, .slice Aaq aq.length caq, Str an, I apt], oI b2' ([5, n, 0] : List Int) 3 3, .own A5' ((addrB ak aq an apt).length) c5' 3 1 ((addrB ak aq an apt).map I)]) ?_ (fun D_3_0 => ?_)
     · rintro f w3 ⟨b2', A5', c5', hf, hs4⟩
       obtain ⟨g1, rfl⟩ := has_upd hf
       clear hf
       refine aaL [6] (fa_one ?_)
       refine one_ rfl ?_
       refine apm (g := I) (ys := ([5, n, 0] : List Int)) (zs := addrB ak aq an apt) hs4 1 rfl sl23 rfl rfl rfl (hs4.sl0 2 rfl) (fun _ => rfl) (by unfold maxLen; have hbl := addrB_len (reqOk_addr (by assumption)); simp only [List.length_append, List.length_cons, List.length_nil]; omega) (by have hbl := addrB_len (reqOk_addr (by assumption)); simp only [List.length_append, List.length_cons, List.length_nil]; omega) trivial rfl (fun A6' c6' w4 hs5 => ?_)
       refine nl (kq ⟨_, hs5, memi 0 rfl, trivial⟩ ?_)
       refine tk (fuel := 0) (is := [7, 8]) (.cons rfl (.cons rfl (.nil))) (by kernel_rfl) (by kernel_rfl) ⟨_, hs5, memi 0 rfl, trivial⟩ ?_
       refine .op trivial rfl rfl (fun wq _ => asg (v := .slice A6' ((([5, n, 0] : List Int) ++ (addrB ak aq an apt)).length) c6') rfl) ?_
       refine .op trivial rfl rfl (fun wq _ => asg (v := .bool true) rfl) ?_
       refine .nil ?_
       refine ad (by kernel_rfl) ?_
       exact ⟨A5', c5', A6', c6', ⟨rfl, rfl, trivial⟩, (hs5.pick [0, 2, 1] rfl (by decide))⟩
     refine dag (fuel' := 4) (listed' := lbits 9 31) (fun f w' => ∃ (b2' : Nat), Has f [(2, ns), (3, .bool false), (9, sb b2' (([5, n, 0] : List Int).length) 3), (11, .agg #[I ak, .slice Aaq aq.length caq, Str an, I apt])] ∧ SH w w' [] [.blk b1 44 [I n, I ak, .slice Aaq aq.length caq, Str an, I apt], oI b2' ([5, n, 0] : List Int) 3 3]) ?_ (fun D_3_1 => ?_)
     · rintro f w5 ⟨b2', hf, hs6⟩
       obtain ⟨g2, rfl⟩ := has_upd hf
       clear hf
       refine aaL [5] (fa_one ?_)
       refine one_ rfl ?_
       refine cl trivial rfl (iAddressBytes (ak := ak) (Aaq := Aaq) (caq := caq) (aq := aq) (an := an) (apt := apt) (w := _) (haq := (haq.up0 hs6)) (han_n := (by first | omega | (simp; done) | (simp; omega))) (hok := (by first | assumption | exact reqOk_addr (by assumption)))) ?_
       rintro _ w6 ⟨A5', c5', rfl, hs7'⟩
       have hs7 := hs6.call0 hs7'
       clear hs7'
       exact nl (kq ⟨_, hs7, memi 0 rfl, trivial⟩ (alc D_3_0 ⟨b2', A5', c5', ⟨rfl, rfl, rfl, rfl, trivial⟩, hs7⟩))
     refine dag (fuel' := 4) (listed' := lbits 9 59) (fun f w' => ∃ (A5' : Option Addr) (c5' : Nat), Has f [(2, ns), (3, .bool false), (8, I n), (12, .slice A5' ((addrB ak aq an apt).length) c5')] ∧ SH w w' [] [.blk b1 44 [I n, I ak, .slice Aaq aq.length caq, Str an, I apt], .own A5' ((addrB ak aq an apt).length) c5' 3 1 ((addrB ak aq an apt).map I)]) ?_ (fun D_3_2 => ?_)
     · rintro f w7 ⟨A5', c5', hf, hs8⟩
       obtain ⟨g3, rfl⟩ := has_upd hf
       clear hf
       refine aaL [2] (fa_one ?_)
       refine one_ rfl ?_
       refine bsk hs8 sl23 [I 5, I n, I 0] [I 5, I n, I 0] trivial rfl (fun b2' w8 hs9 => ?_)
       exact nl (kq ⟨_, hs9, memi 0 rfl, trivial⟩ (alc D_3_0 ⟨b2', A5', c5', ⟨rfl, rfl, rfl, rfl, trivial⟩, (hs9.pick [0, 2, 1] rfl (by decide))⟩))
     refine dag (fuel' := 5) (listed' := lbits 9 27) (fun f w' => Has f [(2, ns), (3, .bool false), (8, I n), (11, .agg #[I ak, .slice Aaq aq.length caq, Str an, I apt])] ∧ SH w w' [] [.blk b1 44 [I n, I ak, .slice Aaq aq.length caq, Str an, I apt]]) ?_ (fun D_3_3 => ?_)
     · rintro f w9 ⟨hf, hs10⟩
       obtain ⟨g4, rfl⟩ := has_upd hf
       clear hf
       refine aaL [2, 5] (fa_cons ?_ (fa_one ?_))
       · refine one_ rfl ?_
         refine bsk hs10 sl23 [I 5, I n, I 0] [I 5, I n, I 0] trivial rfl (fun b2' w10 hs11 => ?_)
         exact nl (kq ⟨_, hs11, memi 0 rfl, trivial⟩ (alc D_3_1 ⟨b2', ⟨rfl, rfl, rfl, rfl, trivial⟩, hs11⟩))
       · refine one_ rfl ?_
         refine cl trivial rfl (iAddressBytes (ak := ak) (Aaq := Aaq) (caq := caq) (aq := aq) (an := an) (apt := apt) (w := _) (haq := (haq.up0 hs10)) (han_n := (by first | omega | (simp; done) | (simp; omega))) (hok := (by first | assumption | exact reqOk_addr (by assumption)))) ?_
         rintro _ w11 ⟨A5', c5', rfl, hs12'⟩
         have hs12 := hs10.call0 hs12'
         clear hs12'
         exact nl (kq ⟨_, hs12, memi 0 rfl, trivial⟩ (alc D_3_2 ⟨A5', c5', ⟨rfl, rfl, rfl, rfl, trivial⟩, hs12⟩))
     have hs13 := hs2.drew
     refine tk (fuel := 5) (is := [0, 1, 3, 4]) (.cons rfl (.cons rfl (.cons rfl (.cons rfl (.nil))))) (by kernel_rfl) (by kernel_rfl) ⟨_, hs13, memi 0 rfl, trivial⟩ ?_
     refine .op trivial rfl rfl (fun wq _ => fa 0 fo44_0 rfl) ?_
     refine .op trivial rfl rfl (fun wq ⟨Lq, hsq, mh0, _⟩ => ldm (v := I n) hsq mh0 rfl rfl one3) ?_
     refine .op trivial rfl rfl (fun wq _ => fa 1 fo44_1 rfl) ?_
     refine .op trivial rfl rfl (fun wq ⟨Lq, hsq, mh0, _⟩ => ldgm (vs := [I ak, .slice Aaq aq.length caq, Str an, I apt]) hsq mh0 rfl rfl rfl ag25) ?_
     refine .nil ?_
     exact alc D_3_3 ⟨⟨rfl, rfl, rfl, rfl, trivial⟩, hs13⟩
   rintro f w12 ⟨A5', c5', A6', c6', hf, hs14⟩
   obtain ⟨g5, rfl⟩ := has_upd hf
   clear hf
   refine nN ?_
   refine rt ?_
   refine fret (v := .tuple #[.slice A6' ((([5, n, 0] : List Int) ++ (addrB ak aq an apt)).length) c6', .bool true]) (.tmp (.tmp .nil)) rfl ?_
   have e5 : reqP n ak aq an apt = (([5, n, 0] : List Int) ++ (addrB ak aq an apt), true) := by first | (simp [reqP, h3]; done) | (simp [reqP, reqOk, h3]; done)
   have e6 : ([5, n, 0] : List Int) ++ (addrB ak aq an apt) = (reqP n ak aq an apt).1 := by rw [e5]
   have e7 : (([5, n, 0] : List Int) ++ (addrB ak aq an apt)).length = ((reqP n ak aq an apt).1).length := by exact congrArg List.length e6
   have e8 : true = (reqP n ak aq an apt).2 := by rw [e5]
   exact ⟨A6', c6', (tup2 (slv rfl e7 rfl) (congrArg (Value.bool) e8)), ((hs14.pick [1] rfl (by decide)).cast (lc (own_eq (g := I) rfl e7 rfl e6) rfl))⟩

set_option maxHeartbeats 8000000 in
theorem sRequestBytes (n : Int) (ak : Int) {Aaq : Option Addr} {caq : Nat} (aq : List Int) (an : List UInt8) (apt : Int) (w : World) (haq : Sl w [] 1 Aaq aq.length caq (aq.map I)) (han_n : an.length ≤ 1099511627776) : Does Tryd.prog 48 [.agg #[I n, I ak, .slice Aaq aq.length caq, Str an, I apt]] w (fun v w' => ∃ Ar : Option Addr, ∃ cr : Nat, v = .tuple #[.slice Ar ((reqP n ak aq an apt).1).length cr, .bool ((reqP n ak aq an apt).2)] ∧ SH w w' [] [.own Ar (((reqP n ak aq an apt).1).length) cr 3 1 (((reqP n ak aq an apt).1).map I)]) := by
 refine fn_enter (N := 20) Tryd.func48 rfl (by kernel_rfl) rfl rfl rfl ?_
 have hs0 : SH w w [] [] := SH.refl w []
 have haq_m : aq.length ≤ 9223372036854775807 := Nat.le_trans haq.cap haq.capMax
 refine sq ?_
 refine rg ?_
 refine bx (v := .agg #[I n, I ak, .slice Aaq aq.length caq, Str an, I apt]) (cs := [I n, I ak, .slice Aaq aq.length caq, Str an, I apt]) hs0 rfl rfl trivial rfl (fun b1 w1 (hs1 : SH w w1 [] [.blk b1 44 [I n, I ak, .slice Aaq aq.length caq, Str an, I apt]]) => ?_)
 refine q trivial rfl rfl (asg (v := ns) rfl) ?_
 refine q trivial rfl rfl (asg (v := .bool false) rfl) ?_
 refine nl ?_
 refine nN ?_
 refine sq ?_
 refine sq ?_
 refine rg ?_
 refine q trivial rfl rfl (fa 0 fo44_0 rfl) ?_
 refine q trivial rfl rfl (ld (v := I n) hs1 0 rfl rfl rfl one3) ?_
 refine cl trivial rfl (sIn (x := n) (lo := 1) (hi := 3) (w := _)) ?_
 rintro _ w2 ⟨rfl, hs2'⟩
 have hs2 : SH w w2 [] [.blk b1 44 [I n, I ak, .slice Aaq aq.length caq, Str an, I apt]] := hs1.call0 hs2'
 clear hs2'
 refine q trivial rfl rfl (nd (p := 1 ≤ n ∧ n ≤ 3) rfl) ?_
 refine q trivial rfl rfl (mv (v := .bool (decide (¬ (1 ≤ n ∧ n ≤ 3)))) rfl) ?_
 refine spd (p := ¬ (1 ≤ n ∧ n ≤ 3)) 8 rfl (fun h1 => ?_) (fun h1 => ?_)
 · refine gk true rfl rfl rfl rfl rfl ?_
   refine gk true rfl rfl rfl rfl rfl ?_
   refine gk true rfl rfl rfl rfl rfl ?_
   refine gk true rfl rfl rfl rfl rfl ?_
   refine q trivial rfl rfl (pt (v := .bool true) rfl rfl) ?_
   refine nl ?_
   refine nN ?_
   refine cdt rfl ?_
   refine sq ?_
   refine rg ?_
   refine bsk hs2 sl23 [] [] trivial rfl (fun b2 w3 (hs3 : SH w w3 [] [.blk b1 44 [I n, I ak, .slice Aaq aq.length caq, Str an, I apt], oI b2 ([] : List Int) 0 3]) => ?_)
   refine q trivial rfl rfl (asg (v := sb b2 (([] : List Int).length) 0) rfl) ?_
   refine q trivial rfl rfl (asg (v := .bool false) rfl) ?_
   refine nl ?_
   refine nN ?_
   refine rt (tR ?_)
   refine fret (v := .tuple #[sb b2 (([] : List Int).length) 0, .bool false]) (.tmp (.tmp .nil)) rfl ?_
   have e1 : reqP n ak aq an apt = (([] : List Int), false) := by first | (simp [reqP, h1]; done) | (simp [reqP, reqOk, h1]; done)
   have e2 : ([] : List Int) = (reqP n ak aq an apt).1 := by rw [e1]
   have e3 : ([] : List Int).length = ((reqP n ak aq an apt).1).length := by exact congrArg List.length e2
   have e4 : false = (reqP n ak aq an apt).2 := by rw [e1]
   exact ⟨(some ⟨b2, 0, none⟩), 0, (tup2 (slv rfl e3 rfl) (congrArg (Value.bool) e4)), ((hs3.pick [1] rfl (by decide)).cast (lc (own_eq (g := I) rfl e3 rfl e2) rfl))⟩
 · refine q ⟨_, rfl, rfl⟩ rfl rfl (fa 1 fo44_1 rfl) ?_
   refine q ⟨_, rfl, rfl⟩ rfl rfl (ldg (vs := [I ak, .slice Aaq aq.length caq, Str an, I apt]) hs2 0 rfl rfl rfl rfl ag25) ?_
   refine cl ⟨_, rfl, rfl⟩ rfl (sAddressValid (ak := ak) (Aaq := Aaq) (caq := caq) (aq := aq) (an := an) (apt := apt) (w := _) (haq := (haq.up0 hs2)) (han_n := (by first | omega | (simp; done) | (simp; omega)))) ?_
   rintro _ w4 ⟨rfl, hs4'⟩
   have hs4 : SH w w4 [] [.blk b1 44 [I n, I ak, .slice Aaq aq.length caq, Str an, I apt]] := hs2.call0 hs4'
   clear hs4'
   refine q ⟨_, rfl, rfl⟩ rfl rfl (nt (b := addrOk ak aq an apt) rfl) ?_
   refine q trivial rfl rfl (pf (v := .bool (!(addrOk ak aq an apt))) rfl rfl) ?_
   refine nl ?_
   refine nN ?_
   refine cd (b := !(addrOk ak aq an apt)) rfl (fun h2 => ?_) (fun h2 => ?_)
   · have h3 : (addrOk ak aq an apt) = false := by simpa using h2
     refine sq ?_
     refine rg ?_
     refine bsk hs4 sl23 [] [] trivial rfl (fun b3 w5 (hs5 : SH w w5 [] [.blk b1 44 [I n, I ak, .slice Aaq aq.length caq, Str an, I apt], oI b3 ([] : List Int) 0 3]) => ?_)
     refine q trivial rfl rfl (asg (v := sb b3 (([] : List Int).length) 0) rfl) ?_
     refine q trivial rfl rfl (asg (v := .bool false) rfl) ?_
     refine nl ?_
     refine nN ?_
     refine rt (tR ?_)
     refine fret (v := .tuple #[sb b3 (([] : List Int).length) 0, .bool false]) (.tmp (.tmp .nil)) rfl ?_
     have e5 : reqP n ak aq an apt = (([] : List Int), false) := by first | (simp [reqP, h1, h3]; done) | (simp [reqP, reqOk, h1, h3]; done)
     have e6 : ([] : List Int) = (reqP n ak aq an apt).1 := by rw [e5]
     have e7 : ([] : List Int).length = ((reqP n ak aq an apt).1).length := by exact congrArg List.length e6
     have e8 : false = (reqP n ak aq an apt).2 := by rw [e5]
     exact ⟨(some ⟨b3, 0, none⟩), 0, (tup2 (slv rfl e7 rfl) (congrArg (Value.bool) e8)), ((hs5.pick [1] rfl (by decide)).cast (lc (own_eq (g := I) rfl e7 rfl e6) rfl))⟩
   · have h4 : (addrOk ak aq an apt) = true := by simpa using h2
     refine sk ?_
     refine nN ?_
     refine sq ?_
     refine rg ?_
     refine q trivial rfl rfl (fa 0 fo44_0 rfl) ?_
     refine q trivial rfl rfl (ld (v := I n) hs4 0 rfl rfl rfl one3) ?_
     refine q trivial rfl rfl (fa 1 fo44_1 rfl) ?_
     refine q trivial rfl rfl (ldg (vs := [I ak, .slice Aaq aq.length caq, Str an, I apt]) hs4 0 rfl rfl rfl rfl ag25) ?_
     refine cl trivial rfl (sL12Bytes (n := n) (ak := ak) (Aaq := Aaq) (caq := caq) (aq := aq) (an := an) (apt := apt) (w := _) (haq := (haq.up0 hs4)) (han_n := (by first | omega | (simp; done) | (simp; omega))) (hok := (by first | assumption | exact reqOk_addr (by assumption)))) ?_
     rintro _ w6 ⟨A1, c1, rfl, hs6'⟩
     have hs6 : SH w w6 [] [.blk b1 44 [I n, I ak, .slice Aaq aq.length caq, Str an, I apt], .own A1 (([5, n, 0] ++ addrB ak aq an apt).length) c1 3 1 (([5, n, 0] ++ addrB ak aq an apt).map I)] := hs4.call0 hs6'
     clear hs6'
     refine q trivial rfl rfl (asg (v := .slice A1 (([5, n, 0] ++ addrB ak aq an apt).length) c1) rfl) ?_
     refine q trivial rfl rfl (asg (v := .bool true) rfl) ?_
     refine nl ?_
     refine nN ?_
     refine rt ?_
     refine fret (v := .tuple #[.slice A1 (([5, n, 0] ++ addrB ak aq an apt).length) c1, .bool true]) (.tmp (.tmp .nil)) rfl ?_
     have e9 : reqP n ak aq an apt = ([5, n, 0] ++ addrB ak aq an apt, true) := by first | (simp [reqP, h1, h4]; done) | (simp [reqP, reqOk, h1, h4]; done)
     have e10 : [5, n, 0] ++ addrB ak aq an apt = (reqP n ak aq an apt).1 := by rw [e9]
     have e11 : ([5, n, 0] ++ addrB ak aq an apt).length = ((reqP n ak aq an apt).1).length := by exact congrArg List.length e10
     have e12 : true = (reqP n ak aq an apt).2 := by rw [e9]
     exact ⟨A1, c1, (tup2 (slv rfl e11 rfl) (congrArg (Value.bool) e12)), ((hs6.pick [1] rfl (by decide)).cast (lc (own_eq (g := I) rfl e11 rfl e10) rfl))⟩

theorem stItoa (n : Int) (w : World) (hn : -9223372036854775808 ≤ n ∧ n ≤ 9223372036854775807) (hGp : Lib.TabIs Tryd.prog w "internal/strconv.uint64pow10" .u64 Lib.pow10Tab) : Does Tryd.prog 86 [I n] w (fun v w' => v = Str (Lib.itoa n) ∧ SH w w' [] []) := by
  exact does_grow ⟨_, _, Tryd.func86, by kernel_rfl, rfl⟩ rfl (Tryd.strconv_Itoa n hn.1 hn.2 w hGp)

theorem stJoin {bxs : Nat} {cxs : Nat} (xs : List (List UInt8)) (m : List UInt8) (w : World) (hxs : Sl w [] 1 (some ⟨bxs, 0, none⟩) xs.length cxs (xs.map Str)) (hxs_n : xs.length ≤ 1099511627776) (hl : (Lib.join xs m).length ≤ 140737488355328) : Does Tryd.prog 98 [sb bxs xs.length cxs, Str m] w (fun v w' => v = Str (Lib.join xs m) ∧ SH w w' [] []) := by
  exact does_join ⟨_, _, Tryd.func98, by kernel_rfl, rfl⟩ Tryd.strings_Join_none Tryd.strings_Join hxs hxs_n hl

set_option maxHeartbeats 8000000 in
theorem l6DecStep (n : Int) (w : World) (hn : 0 ≤ n ∧ n ≤ 9223372036854775807) (ih : ∀ (m : Int) (w : World), 0 ≤ m → m < n → Does Tryd.prog 82 [I m] w (fun v w' => v = Str (Lib.itoa m) ∧ SH w w' [] [])) : Does Tryd.prog 82 [I n] w (fun v w' => v = Str (Lib.itoa n) ∧ SH w w' [] []) := by
 refine fn_enter (N := 28) Tryd.func82 rfl (by kernel_rfl) rfl rfl rfl ?_
 have hs0 : SH w w [] [] := SH.refl w []
 refine sq ?_
 refine rg ?_
 refine q trivial rfl rfl (asg (v := Str []) rfl) ?_
 refine nl ?_
 refine nN ?_
 refine sq ?_
 refine sq ?_
 refine rg ?_
 refine q trivial rfl rfl (mv (v := I n) rfl) ?_
 refine q trivial rfl rfl (lss (k := .i64) (a := n) (b := (-9223372036854775807)) rfl rfl) ?_
 refine nl ?_
 refine nN ?_
 refine cdd (p := n < (-9223372036854775807)) rfl (fun h1 => absurd h1 (by omega)) (fun h1 => ?_)
 refine sk ?_
 refine nN ?_
 refine sq ?_
 refine sq ?_
 refine rg ?_
 refine q trivial rfl rfl (mv (v := I n) rfl) ?_
 refine q trivial rfl rfl (lss (k := .i64) (a := n) (b := 0) rfl rfl) ?_
 refine nl ?_
 refine nN ?_
 refine cdd (p := n < 0) rfl (fun h2 => absurd h2 (by omega)) (fun h2 => ?_)
 refine sk ?_
 refine nN ?_
 refine sq ?_
 refine sq ?_
 refine rg ?_
 refine q trivial rfl rfl (mv (v := I n) rfl) ?_
 refine q trivial rfl rfl (lss (k := .i64) (a := n) (b := 10) rfl rfl) ?_
 refine nl ?_
 refine nN ?_
 refine cdd (p := n < 10) rfl (fun h3 => ?_) (fun h3 => ?_)
 · refine sq ?_
   refine rg ?_
   refine q trivial rfl rfl (mv (v := I n) rfl) ?_
   refine q trivial rfl rfl (add (a := 48) (b := n) rfl rfl (by first | (exact ⟨by omega, by omega⟩) | (have hdl := Lib.itoa_length_le (n / 10) (by omega) (by omega); exact ⟨by omega, by omega⟩))) ?_
   refine q trivial rfl rfl (cvB (a := 48 + n) (s := .i64) ti3 ti5 rfl (by first | (omega) | (have hdl := Lib.itoa_length_le (n / 10) (by omega) (by omega); omega)) (by first | (omega) | (have hdl := Lib.itoa_length_le (n / 10) (by omega) (by omega); omega))) ?_
   refine bsk hs0 sl22 [.int .u8 (((UInt8.ofNat (48 + n).toNat).toNat : Nat) : Int)] [.int .u8 (((UInt8.ofNat (48 + n).toNat).toNat : Nat) : Int)] trivial rfl (fun b1 w1 (hs1 : SH w w1 [] [.own (some ⟨b1, 0, none⟩) (([(UInt8.ofNat (48 + n).toNat)] : List UInt8).length) 1 5 1 (([(UInt8.ofNat (48 + n).toNat)] : List UInt8).map U)]) => ?_)
   refine q trivial rfl rfl (cvS (l := ([(UInt8.ofNat (48 + n).toNat)] : List UInt8)) us22 ti5 st9 rfl (hs1.sl0 0 rfl)) ?_
   refine q trivial rfl rfl (asg (v := Str ([(UInt8.ofNat (48 + n).toNat)] : List UInt8)) rfl) ?_
   refine nl ?_
   refine nN ?_
   refine rt (tR ?_)
   refine fret (v := Str ([(UInt8.ofNat (48 + n).toNat)] : List UInt8)) (.tmp .nil) rfl ?_
   have e1 : ([(UInt8.ofNat (48 + n).toNat)] : List UInt8) = Lib.itoa n := by first | exact decDigits_small (by omega) (by omega) | exact decDigits_big (by omega)
   exact ⟨(congrArg (Str) e1), (hs1.pick [] rfl (by decide))⟩
 · refine sk ?_
   refine nN ?_
   refine sq ?_
   refine raJ (fun w' => ∃ L, SH w w' [] L ∧ True) (fun f w' => ∃ (b7' : Nat), Has f [(2, Str ((Lib.itoa (n / 10)) ++ ([(UInt8.ofNat (48 + (n % 10)).toNat)] : List UInt8)))] ∧ SH w w' [] [.own (some ⟨b7', 0, none⟩) (([(UInt8.ofNat (48 + (n % 10)).toNat)] : List UInt8).length) 1 5 1 (([(UInt8.ofNat (48 + (n % 10)).toNat)] : List UInt8).map U)]) mixed ?_ ?_
   · refine dag (fuel' := 3) (listed' := lbits 11 255) (fun f w' => ∃ (b7' : Nat), Has f [(2, Str []), (20, Str (Lib.itoa (n / 10))), (25, sb b7' (([(UInt8.ofNat (48 + (n % 10)).toNat)] : List UInt8).length) 1)] ∧ SH w w' [] [.own (some ⟨b7', 0, none⟩) (([(UInt8.ofNat (48 + (n % 10)).toNat)] : List UInt8).length) 1 5 1 (([(UInt8.ofNat (48 + (n % 10)).toNat)] : List UInt8).map U)]) ?_ (fun D_7_0 => ?_)
     · rintro f w2 ⟨b7', hf, hs2⟩
       obtain ⟨g1, rfl⟩ := has_upd hf
       clear hf
       refine aaL [8] (fa_one ?_)
       refine one_ rfl ?_
       refine q trivial rfl rfl (cvS (l := ([(UInt8.ofNat (48 + (n % 10)).toNat)] : List UInt8)) us22 ti5 st9 rfl (hs2.sl0 0 rfl)) ?_
       refine nl (kq ⟨_, hs2, trivial⟩ ?_)
       refine tk (fuel := 0) (is := [9, 10]) (.cons rfl (.cons rfl (.nil))) (by kernel_rfl) (by kernel_rfl) ⟨_, hs2, trivial⟩ ?_
       refine .op trivial rfl rfl (fun wq _ => cat (l := Lib.itoa (n / 10)) (m := ([(UInt8.ofNat (48 + (n % 10)).toNat)] : List UInt8)) rfl rfl (by first | (first | omega | (simp; done) | (simp; omega)) | (have hdl := Lib.itoa_length_le (n / 10) (by omega) (by omega); first | omega | (simp; done) | (simp; omega)))) ?_
       refine .op trivial rfl rfl (fun wq _ => asg (v := Str ((Lib.itoa (n / 10)) ++ ([(UInt8.ofNat (48 + (n % 10)).toNat)] : List UInt8))) rfl) ?_
       refine .nil ?_
       refine ad (by kernel_rfl) ?_
       exact ⟨b7', ⟨rfl, trivial⟩, hs2⟩
     refine dag (fuel' := 3) (listed' := lbits 11 507) (fun f w' => ∃ (b7' : Nat), Has f [(2, Str []), (19, I (n / 10)), (26, Str ([(UInt8.ofNat (48 + (n % 10)).toNat)] : List UInt8))] ∧ SH w w' [] [.own (some ⟨b7', 0, none⟩) (([(UInt8.ofNat (48 + (n % 10)).toNat)] : List UInt8).length) 1 5 1 (([(UInt8.ofNat (48 + (n % 10)).toNat)] : List UInt8).map U)]) ?_ (fun D_7_1 => ?_)
     · rintro f w3 ⟨b7', hf, hs3⟩
       obtain ⟨g2, rfl⟩ := has_upd hf
       clear hf
       refine aaL [2] (fa_one ?_)
       refine one_ rfl ?_
       refine cl trivial rfl (ih (n / 10) _ (by first | (omega) | (have hdl := Lib.itoa_length_le (n / 10) (by omega) (by omega); omega)) (by first | (omega) | (have hdl := Lib.itoa_length_le (n / 10) (by omega) (by omega); omega))) ?_
       rintro _ w4 ⟨rfl, hs4'⟩
       have hs4 := hs3.call0 hs4'
       clear hs4'
       refine nl (kq ⟨_, hs4, trivial⟩ ?_)
       refine tk (fuel := 0) (is := [9, 10]) (.cons rfl (.cons rfl (.nil))) (by kernel_rfl) (by kernel_rfl) ⟨_, hs4, trivial⟩ ?_
       refine .op trivial rfl rfl (fun wq _ => cat (l := Lib.itoa (n / 10)) (m := ([(UInt8.ofNat (48 + (n % 10)).toNat)] : List UInt8)) rfl rfl (by first | (first | omega | (simp; done) | (simp; omega)) | (have hdl := Lib.itoa_length_le (n / 10) (by omega) (by omega); first | omega | (simp; done) | (simp; omega)))) ?_
       refine .op trivial rfl rfl (fun wq _ => asg (v := Str ((Lib.itoa (n / 10)) ++ ([(UInt8.ofNat (48 + (n % 10)).toNat)] : List UInt8))) rfl) ?_
       refine .nil ?_
       refine ad (by kernel_rfl) ?_
       exact ⟨b7', ⟨rfl, trivial⟩, hs4⟩
     refine dag (fuel' := 4) (listed' := lbits 11 127) (fun f w' => Has f [(2, Str []), (20, Str (Lib.itoa (n / 10))), (24, .int .u8 (((UInt8.ofNat (48 + (n % 10)).toNat).toNat : Nat) : Int))] ∧ SH w w' [] []) ?_ (fun D_7_2 => ?_)
     · rintro f w5 ⟨hf, hs5⟩
       obtain ⟨g3, rfl⟩ := has_upd hf
       clear hf
       refine aaL [7] (fa_one ?_)
       refine one_ rfl ?_
       refine bsk hs5 sl22 [.int .u8 (((UInt8.ofNat (48 + (n % 10)).toNat).toNat : Nat) : Int)] [.int .u8 (((UInt8.ofNat (48 + (n % 10)).toNat).toNat : Nat) : Int)] trivial rfl (fun b7' w6 hs6 => ?_)
       exact nl (kq ⟨_, hs6, trivial⟩ (alc D_7_0 ⟨b7', ⟨rfl, rfl, rfl, trivial⟩, hs6⟩))
     refine dag (fuel' := 4) (listed' := lbits 11 251) (fun f w' => ∃ (b7' : Nat), Has f [(2, Str []), (19, I (n / 10)), (25, sb b7' (([(UInt8.ofNat (48 + (n % 10)).toNat)] : List UInt8).length) 1)] ∧ SH w w' [] [.own (some ⟨b7', 0, none⟩) (([(UInt8.ofNat (48 + (n % 10)).toNat)] : List UInt8).length) 1 5 1 (([(UInt8.ofNat (48 + (n % 10)).toNat)] : List UInt8).map U)]) ?_ (fun D_7_3 => ?_)
     · rintro f w7 ⟨b7', hf, hs7⟩
       obtain ⟨g4, rfl⟩ := has_upd hf
       clear hf
       refine aaL [2, 8] (fa_cons ?_ (fa_one ?_))
       · refine one_ rfl ?_
         refine cl trivial rfl (ih (n / 10) _ (by first | (omega) | (have hdl := Lib.itoa_length_le (n / 10) (by omega) (by omega); omega)) (by first | (omega) | (have hdl := Lib.itoa_length_le (n / 10) (by omega) (by omega); omega))) ?_
         rintro _ w8 ⟨rfl, hs8'⟩
         have hs8 := hs7.call0 hs8'
         clear hs8'
         exact nl (kq ⟨_, hs8, trivial⟩ (alc D_7_0 ⟨b7', ⟨rfl, rfl, rfl, trivial⟩, hs8⟩))
       · refine one_ rfl ?_
         refine q trivial rfl rfl (cvS (l := ([(UInt8.ofNat (48 + (n % 10)).toNat)] : List UInt8)) us22 ti5 st9 rfl (hs7.sl0 0 rfl)) ?_
         exact nl (kq ⟨_, hs7, trivial⟩ (alc D_7_1 ⟨b7', ⟨rfl, rfl, rfl, trivial⟩, hs7⟩))
     refine dag (fuel' := 5) (listed' := lbits 11 123) (fun f w' => Has f [(2, Str []), (19, I (n / 10)), (24, .int .u8 (((UInt8.ofNat (48 + (n % 10)).toNat).toNat : Nat) : Int))] ∧ SH w w' [] []) ?_ (fun D_7_4 => ?_)
     · rintro f w9 ⟨hf, hs9⟩
       obtain ⟨g5, rfl⟩ := has_upd hf
       clear hf
       refine aaL [2, 7] (fa_cons ?_ (fa_one ?_))
       · refine one_ rfl ?_
         refine cl trivial rfl (ih (n / 10) _ (by first | (omega) | (have hdl := Lib.itoa_length_le (n / 10) (by omega) (by omega); omega)) (by first | (omega) | (have hdl := Lib.itoa_length_le (n / 10) (by omega) (by omega); omega))) ?_
         rintro _ w10 ⟨rfl, hs10'⟩
         have hs10 := hs9.call0 hs10'
         clear hs10'
         exact nl (kq ⟨_, hs10, trivial⟩ (alc D_7_2 ⟨⟨rfl, rfl, rfl, trivial⟩, hs10⟩))
       · refine one_ rfl ?_
         refine bsk hs9 sl22 [.int .u8 (((UInt8.ofNat (48 + (n % 10)).toNat).toNat : Nat) : Int)] [.int .u8 (((UInt8.ofNat (48 + (n % 10)).toNat).toNat : Nat) : Int)] trivial rfl (fun b7' w11 hs11 => ?_)
         exact nl (kq ⟨_, hs11, trivial⟩ (alc D_7_3 ⟨b7', ⟨rfl, rfl, rfl, trivial⟩, hs11⟩))
     have hs12 := hs0.drew
     refine tk (fuel := 5) (is := [0, 1, 3, 4, 5, 6]) (.cons rfl (.cons rfl (.cons rfl (.cons rfl (.cons rfl (.cons rfl (.nil))))))) (by kernel_rfl) (by kernel_rfl) ⟨_, hs12, trivial⟩ ?_
     refine .op trivial rfl rfl (fun wq _ => mv (v := I n) rfl) ?_
     refine .op trivial rfl rfl (fun wq _ => quo (a := n) (b := 10) rfl rfl (by first | (omega) | (have hdl := Lib.itoa_length_le (n / 10) (by omega) (by omega); omega)) (by first | (omega) | (have hdl := Lib.itoa_length_le (n / 10) (by omega) (by omega); omega)) (by first | (omega) | (have hdl := Lib.itoa_length_le (n / 10) (by omega) (by omega); omega))) ?_
     refine .op trivial rfl rfl (fun wq _ => mv (v := I n) rfl) ?_
     refine .op trivial rfl rfl (fun wq _ => rem (a := n) (b := 10) rfl rfl (by first | (omega) | (have hdl := Lib.itoa_length_le (n / 10) (by omega) (by omega); omega)) (by first | (omega) | (have hdl := Lib.itoa_length_le (n / 10) (by omega) (by omega); omega))) ?_
     refine .op trivial rfl rfl (fun wq _ => add (a := 48) (b := n % 10) rfl rfl (by first | (exact ⟨by omega, by omega⟩) | (have hdl := Lib.itoa_length_le (n / 10) (by omega) (by omega); exact ⟨by omega, by omega⟩))) ?_
     refine .op trivial rfl rfl (fun wq _ => cvB (a := 48 + (n % 10)) (s := .i64) ti3 ti5 rfl (by first | (omega) | (have hdl := Lib.itoa_length_le (n / 10) (by omega) (by omega); omega)) (by first | (omega) | (have hdl := Lib.itoa_length_le (n / 10) (by omega) (by omega); omega))) ?_
     refine .nil ?_
     exact alc D_7_4 ⟨⟨rfl, rfl, rfl, trivial⟩, hs12⟩
   rintro f w12 ⟨b7', hf, hs13⟩
   obtain ⟨g6, rfl⟩ := has_upd hf
   clear hf
   refine nN ?_
   refine rt ?_
   refine fret (v := Str ((Lib.itoa (n / 10)) ++ ([(UInt8.ofNat (48 + (n % 10)).toNat)] : List UInt8))) (.tmp .nil) rfl ?_
   have e2 : (Lib.itoa (n / 10)) ++ ([(UInt8.ofNat (48 + (n % 10)).toNat)] : List UInt8) = Lib.itoa n := by first | exact decDigits_small (by omega) (by omega) | exact decDigits_big (by omega)
   exact ⟨(congrArg (Str) e2), (hs13.pick [] rfl (by decide))⟩

theorem l6Dec (n : Int) (w : World) (hn : 0 ≤ n ∧ n ≤ 9223372036854775807) : Does Tryd.prog 82 [I n] w (fun v w' => v = Str (Lib.itoa n) ∧ SH w w' [] []) := by
  have key : ∀ (j : Nat) (n : Int) (w : World), n.toNat = j → 0 ≤ n → n ≤ 9223372036854775807 → Does Tryd.prog 82 [I n] w (fun v w' => v = Str (Lib.itoa n) ∧ SH w w' [] []) := by
    intro j
    induction j using Nat.strongRecOn with
    | _ j ih =>
      intro n w hj h0 h1
      exact l6DecStep n w ⟨h0, h1⟩ (fun m w hm0 hmn => ih m.toNat (by omega) m w rfl hm0 (by omega))
  exact key _ n w rfl hn.1 hn.2

theorem iQuadText {Aqs : Option Addr} {cqs : Nat} (qs : List Int) (w : World) (hqs : Sl w [] 1 Aqs qs.length cqs (qs.map I)) (hq : quadOk qs = true) (hGp : Lib.TabIs Tryd.prog w "internal/strconv.uint64pow10" .u64 Lib.pow10Tab) : Does Tryd.prog 91 [.slice Aqs qs.length cqs] w (fun v w' => v = Str (quadT qs) ∧ SH w w' [] []) := by
 refine fn_enter (N := 24) Tryd.func91 rfl (by kernel_rfl) rfl rfl rfl ?_
 have hs0 : SH w w [] [] := SH.refl w []
 have hqs_m : qs.length ≤ 9223372036854775807 := Nat.le_trans hqs.cap hqs.capMax
 refine sq ?_
 refine rg ?_
 refine q trivial rfl rfl (asg (v := Str []) rfl) ?_
 refine nl ?_
 refine nN ?_
 refine sq ?_
 refine rg ?_
 refine q trivial rfl rfl (mv (v := .slice Aqs qs.length cqs) rfl) ?_
 refine q trivial rfl rfl (lnA (n := qs.length) sl23 rfl) ?_
 refine mkm (g := Str) (z := []) (n := qs.length) hs0 sl77 rfl rfl rfl (by first | (omega) | (have hq4 := quadOk_len hq; omega)) (by unfold maxLen; first | (omega) | (have hq4 := quadOk_len hq; omega)) trivial rfl (fun b1 w1 (hs1 : SH w w1 [] [.own (some ⟨b1, 0, none⟩) ((List.replicate qs.length ([] : List UInt8)).length) qs.length 9 1 ((List.replicate qs.length ([] : List UInt8)).map Str)]) => ?_)
 refine q trivial rfl rfl (asg (v := sb b1 ((List.replicate qs.length ([] : List UInt8)).length) qs.length) rfl) ?_
 refine nl ?_
 refine nN ?_
 refine sq ?_
 refine sq ?_
 refine rg ?_
 refine q trivial rfl rfl (mv (v := .slice Aqs qs.length cqs) rfl) ?_
 refine q trivial rfl rfl (lnA (n := qs.length) sl23 rfl) ?_
 refine q trivial rfl rfl (mv (v := I 0) rfl) ?_
 refine nl ?_
 refine nN ?_
 refine bl ?_
 have e1 : List.replicate qs.length ([] : List UInt8) = (qs.map Lib.itoa).take 0 ++ List.replicate (qs.length - 0) ([] : List UInt8) := by simp
 have e2 : (List.replicate qs.length ([] : List UInt8)).length = qs.length := by first | (first | rfl | (simp; done) | (simp; omega) | omega) | (have hq4 := quadOk_len hq; first | rfl | (simp; done) | (simp; omega) | omega)
 refine lp (σ := Nat) (fun (k : Nat) f w' => Has f [(3, sb b1 qs.length qs.length), (9, .slice Aqs qs.length cqs), (10, I ((qs.length : Nat) : Int)), (11, I ((k : Nat) : Int))] ∧ (k ≤ qs.length) ∧ SH w w' [] [.own (some ⟨b1, 0, none⟩) qs.length qs.length 9 1 (((qs.map Lib.itoa).take k ++ List.replicate (qs.length - k) ([] : List UInt8)).map Str)]) (fun k => qs.length - k) 0 ⟨⟨(show (.slice (some ⟨b1, 0, none⟩) ((List.replicate qs.length ([] : List UInt8)).length) qs.length : Value) = .slice (some ⟨b1, 0, none⟩) qs.length qs.length from slv rfl e2 rfl), rfl, rfl, rfl, trivial⟩, (by simp), (hs1.cast (lc (own_eq (g := Str) rfl e2 rfl e1) rfl))⟩ ?_
 rintro k f w2 ⟨hf, hk, hs2⟩
 obtain ⟨g1, rfl⟩ := has_upd hf
 clear hf
 refine sq ?_
 refine rg ?_
 refine q trivial rfl rfl (lss (k := .i64) (a := ((k : Nat) : Int)) (b := ((qs.length : Nat) : Int)) rfl rfl) ?_
 refine nl ?_
 refine nN ?_
 refine sq ?_
 refine cdd (p := ((k : Nat) : Int) < ((qs.length : Nat) : Int)) rfl (fun h1 => ?_) (fun h1 => ?_)
 · refine sk ?_
   refine nN ?_
   refine sq ?_
   refine bl ?_
   refine sq ?_
   refine rg ?_
   refine q trivial rfl rfl (mv (v := I ((k : Nat) : Int)) rfl) ?_
   refine ixw1 k sl23 rfl rfl hqs (by first | (first | omega | (simp; done) | (simp; omega)) | (have hq4 := quadOk_len hq; first | omega | (simp; done) | (simp; omega))) (getm I 0 (by first | (first | omega | (simp; done) | (simp; omega)) | (have hq4 := quadOk_len hq; first | omega | (simp; done) | (simp; omega)))) trivial rfl (fun a1 ha1 => ?_)
   refine q trivial rfl rfl (lda (v := I (qs.getD k 0)) hs2 ha1 (fun _ h => h) rfl rfl one3) ?_
   refine q trivial rfl rfl (asg (v := I ((k : Nat) : Int)) rfl) ?_
   refine q trivial rfl rfl (asg (v := I (qs.getD k 0)) rfl) ?_
   refine nl ?_
   refine nN ?_
   refine rg ?_
   refine q trivial rfl rfl (mv (v := sb b1 qs.length qs.length) rfl) ?_
   refine q trivial rfl rfl (mv (v := I ((k : Nat) : Int)) rfl) ?_
   refine q trivial rfl rfl (mv (v := I (qs.getD k 0)) rfl) ?_
   refine cl trivial rfl (stItoa (n := qs.getD k 0) (w := _) (hn := (by have hy := quad_get hq (k := k) (by omega); omega)) (hGp := (tab_up hGp hs2))) ?_
   rintro _ w3 ⟨rfl, hs3'⟩
   have hs3 : SH w w3 [] [.own (some ⟨b1, 0, none⟩) qs.length qs.length 9 1 (((qs.map Lib.itoa).take k ++ List.replicate (qs.length - k) ([] : List UInt8)).map Str)] := hs2.call0 hs3'
   clear hs3'
   refine q trivial rfl rfl (ixo k sl77 rfl rfl (by first | (first | omega | (simp; done) | (simp; omega)) | (have hq4 := quadOk_len hq; first | omega | (simp; done) | (simp; omega)))) ?_
   refine stomn (g := Str) (ys := (qs.map Lib.itoa).take k ++ List.replicate (qs.length - k) ([] : List UInt8)) (o := k) (u := Lib.itoa (qs.getD k 0)) hs3 0 rfl rfl rfl rfl (by first | (first | omega | (simp; done) | (simp; omega)) | (have hq4 := quadOk_len hq; first | omega | (simp; done) | (simp; omega))) rfl one9 trivial (fun w4 (hs4 : SH w w4 [] [.own (some ⟨b1, 0, none⟩) qs.length qs.length 9 1 ((((qs.map Lib.itoa).take k ++ List.replicate (qs.length - k) ([] : List UInt8)).set k (Lib.itoa (qs.getD k 0))).map Str)]) => ?_)
   refine nl ?_
   refine bN ?_
   refine nN ?_
   refine rg ?_
   refine q trivial rfl rfl (add (a := ((k : Nat) : Int)) (b := 1) rfl rfl (by first | (exact ⟨by omega, by omega⟩) | (have hq4 := quadOk_len hq; exact ⟨by omega, by omega⟩))) ?_
   refine q trivial rfl rfl (mv (v := I (((k : Nat) : Int) + 1)) rfl) ?_
   refine nl ?_
   refine nN ?_
   have e3 : ((qs.map Lib.itoa).take k ++ List.replicate (qs.length - k) ([] : List UInt8)).set k (Lib.itoa (qs.getD k 0)) = (qs.map Lib.itoa).take (k + 1) ++ List.replicate (qs.length - (k + 1)) ([] : List UInt8) := by exact quad_set (by omega)
   refine ⟨(k + 1), ⟨⟨rfl, rfl, rfl, rfl, trivial⟩, (by omega), (hs4.cast (lc (own_eq (g := Str) rfl rfl rfl e3) rfl))⟩, ?_⟩
   omega
 · refine ex (tE (tE (bE ?_)))
   refine nN ?_
   refine sq ?_
   refine rg ?_
   refine q trivial rfl rfl (mv (v := sb b1 qs.length qs.length) rfl) ?_
   have e4 : qs.length = ((qs.map Lib.itoa).take k ++ List.replicate (qs.length - k) ([] : List UInt8)).length := by first | rfl | (simp; done) | (simp; omega) | omega
   have hs5 : SH w w2 [] [.own (some ⟨b1, 0, none⟩) (((qs.map Lib.itoa).take k ++ List.replicate (qs.length - k) ([] : List UInt8)).length) qs.length 9 1 (((qs.map Lib.itoa).take k ++ List.replicate (qs.length - k) ([] : List UInt8)).map Str)] := (hs2.cast (lc (own_eq (g := Str) rfl e4 rfl rfl) rfl))
   refine cl trivial rfl (Does.castA (lc (slv rfl e4.symm rfl) (lc rfl rfl)) (stJoin (bxs := b1) (cxs := qs.length) (xs := (qs.map Lib.itoa).take k ++ List.replicate (qs.length - k) ([] : List UInt8)) (m := [46]) (w := _) (hxs := (hs5.sl0 0 rfl)) (hxs_n := (by first | (first | omega | (simp; done) | (simp; omega)) | (have hq4 := quadOk_len hq; first | omega | (simp; done) | (simp; omega)))) (hl := (by rw [quad_whole (by omega)]; exact Nat.le_trans (quadT_len hq) (by decide : 87 ≤ 140737488355328))))) ?_
   rintro _ w5 ⟨rfl, hs6'⟩
   have hs6 : SH w w5 [] [.own (some ⟨b1, 0, none⟩) (((qs.map Lib.itoa).take k ++ List.replicate (qs.length - k) ([] : List UInt8)).length) qs.length 9 1 (((qs.map Lib.itoa).take k ++ List.replicate (qs.length - k) ([] : List UInt8)).map Str)] := hs5.call0 hs6'
   clear hs6'
   refine q trivial rfl rfl (asg (v := Str (Lib.join ((qs.map Lib.itoa).take k ++ List.replicate (qs.length - k) ([] : List UInt8)) [46])) rfl) ?_
   refine nl ?_
   refine nN ?_
   refine rt ?_
   refine fret (v := Str (Lib.join ((qs.map Lib.itoa).take k ++ List.replicate (qs.length - k) ([] : List UInt8)) [46])) (.tmp .nil) rfl ?_
   have e5 : Lib.join ((qs.map Lib.itoa).take k ++ List.replicate (qs.length - k) ([] : List UInt8)) [46] = quadT qs := by rw [quad_whole (by omega)]; rfl
   exact ⟨(congrArg (Str) e5), (hs6.pick [] rfl (by decide))⟩

theorem sL2Quad {Aqs : Option Addr} {cqs : Nat} (qs : List Int) (w : World) (hqs : Sl w [] 1 Aqs qs.length cqs (qs.map I)) (hq : quadOk qs = true) : Does Tryd.prog 92 [.slice Aqs qs.length cqs] w (fun v w' => v = Str (quadT qs) ∧ SH w w' [] []) := by
 refine fn_enter (N := 25) Tryd.func92 rfl (by kernel_rfl) rfl rfl rfl ?_
 have hs0 : SH w w [] [] := SH.refl w []
 have hqs_m : qs.length ≤ 9223372036854775807 := Nat.le_trans hqs.cap hqs.capMax
 refine sq ?_
 refine rg ?_
 refine q trivial rfl rfl (asg (v := Str []) rfl) ?_
 refine nl ?_
 refine nN ?_
 refine sq ?_
 refine rq (fun w' => SH w w' [] []) mixed (by kernel_rfl) hs0.drew ?_
 refine qq trivial rfl rfl (fun wq hsq => mv (v := .slice Aqs qs.length cqs) rfl) ?_
 refine ixq1 0 sl23 rfl rfl hqs (by first | (first | omega | (simp; done) | (simp; omega)) | (have hq4 := quadOk_len hq; have g0 := itoa_b (quad_get hq (k := 0) (by omega)); have g1 := itoa_b (quad_get hq (k := 1) (by omega)); have g2 := itoa_b (quad_get hq (k := 2) (by omega)); have g3 := itoa_b (quad_get hq (k := 3) (by omega)); first | omega | (simp; done) | (simp; omega))) (getm I 0 (by first | (first | omega | (simp; done) | (simp; omega)) | (have hq4 := quadOk_len hq; have g0 := itoa_b (quad_get hq (k := 0) (by omega)); have g1 := itoa_b (quad_get hq (k := 1) (by omega)); have g2 := itoa_b (quad_get hq (k := 2) (by omega)); have g3 := itoa_b (quad_get hq (k := 3) (by omega)); first | omega | (simp; done) | (simp; omega)))) trivial rfl (fun a1 ha1 => ?_)
 refine qq trivial rfl rfl (fun wq hsq => lda (v := I (qs.getD 0 0)) hsq ha1 (fun _ h => h) rfl rfl one3) ?_
 refine qc (Str (Lib.itoa (qs.getD 0 0))) trivial rfl (fun wq hsq => (l6Dec (n := qs.getD 0 0) (w := _) (hn := (by have hq4 := quadOk_len hq; have g0 := quad_get hq (k := 0) (by omega); have g1 := quad_get hq (k := 1) (by omega); have g2 := quad_get hq (k := 2) (by omega); have g3 := quad_get hq (k := 3) (by omega); omega))).mono (fun v w' h => ⟨h.1, by simpa using hsq.call0 h.2⟩)) ?_
 refine qq trivial rfl rfl (fun wq hsq => cat (l := Lib.itoa (qs.getD 0 0)) (m := [46]) rfl rfl (by have hq4 := quadOk_len hq; have g0 := itoa_b (quad_get hq (k := 0) (by omega)); have g1 := itoa_b (quad_get hq (k := 1) (by omega)); have g2 := itoa_b (quad_get hq (k := 2) (by omega)); have g3 := itoa_b (quad_get hq (k := 3) (by omega)); simp only [List.length_append, List.length_cons, List.length_nil]; omega)) ?_
 refine qq trivial rfl rfl (fun wq hsq => mv (v := .slice Aqs qs.length cqs) rfl) ?_
 refine ixq1 1 sl23 rfl rfl hqs (by first | (first | omega | (simp; done) | (simp; omega)) | (have hq4 := quadOk_len hq; have g0 := itoa_b (quad_get hq (k := 0) (by omega)); have g1 := itoa_b (quad_get hq (k := 1) (by omega)); have g2 := itoa_b (quad_get hq (k := 2) (by omega)); have g3 := itoa_b (quad_get hq (k := 3) (by omega)); first | omega | (simp; done) | (simp; omega))) (getm I 0 (by first | (first | omega | (simp; done) | (simp; omega)) | (have hq4 := quadOk_len hq; have g0 := itoa_b (quad_get hq (k := 0) (by omega)); have g1 := itoa_b (quad_get hq (k := 1) (by omega)); have g2 := itoa_b (quad_get hq (k := 2) (by omega)); have g3 := itoa_b (quad_get hq (k := 3) (by omega)); first | omega | (simp; done) | (simp; omega)))) trivial rfl (fun a2 ha2 => ?_)
 refine qq trivial rfl rfl (fun wq hsq => lda (v := I (qs.getD 1 0)) hsq ha2 (fun _ h => h) rfl rfl one3) ?_
 refine qc (Str (Lib.itoa (qs.getD 1 0))) trivial rfl (fun wq hsq => (l6Dec (n := qs.getD 1 0) (w := _) (hn := (by have hq4 := quadOk_len hq; have g0 := quad_get hq (k := 0) (by omega); have g1 := quad_get hq (k := 1) (by omega); have g2 := quad_get hq (k := 2) (by omega); have g3 := quad_get hq (k := 3) (by omega); omega))).mono (fun v w' h => ⟨h.1, by simpa using hsq.call0 h.2⟩)) ?_
 refine qq trivial rfl rfl (fun wq hsq => cat (l := (Lib.itoa (qs.getD 0 0)) ++ [46]) (m := Lib.itoa (qs.getD 1 0)) rfl rfl (by have hq4 := quadOk_len hq; have g0 := itoa_b (quad_get hq (k := 0) (by omega)); have g1 := itoa_b (quad_get hq (k := 1) (by omega)); have g2 := itoa_b (quad_get hq (k := 2) (by omega)); have g3 := itoa_b (quad_get hq (k := 3) (by omega)); simp only [List.length_append, List.length_cons, List.length_nil]; omega)) ?_
 refine qq trivial rfl rfl (fun wq hsq => cat (l := ((Lib.itoa (qs.getD 0 0)) ++ [46]) ++ (Lib.itoa (qs.getD 1 0))) (m := [46]) rfl rfl (by have hq4 := quadOk_len hq; have g0 := itoa_b (quad_get hq (k := 0) (by omega)); have g1 := itoa_b (quad_get hq (k := 1) (by omega)); have g2 := itoa_b (quad_get hq (k := 2) (by omega)); have g3 := itoa_b (quad_get hq (k := 3) (by omega)); simp only [List.length_append, List.length_cons, List.length_nil]; omega)) ?_
 refine qq trivial rfl rfl (fun wq hsq => mv (v := .slice Aqs qs.length cqs) rfl) ?_
 refine ixq1 2 sl23 rfl rfl hqs (by first | (first | omega | (simp; done) | (simp; omega)) | (have hq4 := quadOk_len hq; have g0 := itoa_b (quad_get hq (k := 0) (by omega)); have g1 := itoa_b (quad_get hq (k := 1) (by omega)); have g2 := itoa_b (quad_get hq (k := 2) (by omega)); have g3 := itoa_b (quad_get hq (k := 3) (by omega)); first | omega | (simp; done) | (simp; omega))) (getm I 0 (by first | (first | omega | (simp; done) | (simp; omega)) | (have hq4 := quadOk_len hq; have g0 := itoa_b (quad_get hq (k := 0) (by omega)); have g1 := itoa_b (quad_get hq (k := 1) (by omega)); have g2 := itoa_b (quad_get hq (k := 2) (by omega)); have g3 := itoa_b (quad_get hq (k := 3) (by omega)); first | omega | (simp; done) | (simp; omega)))) trivial rfl (fun a3 ha3 => ?_)
 refine qq trivial rfl rfl (fun wq hsq => lda (v := I (qs.getD 2 0)) hsq ha3 (fun _ h => h) rfl rfl one3) ?_
 refine qc (Str (Lib.itoa (qs.getD 2 0))) trivial rfl (fun wq hsq => (l6Dec (n := qs.getD 2 0) (w := _) (hn := (by have hq4 := quadOk_len hq; have g0 := quad_get hq (k := 0) (by omega); have g1 := quad_get hq (k := 1) (by omega); have g2 := quad_get hq (k := 2) (by omega); have g3 := quad_get hq (k := 3) (by omega); omega))).mono (fun v w' h => ⟨h.1, by simpa using hsq.call0 h.2⟩)) ?_
 refine qq trivial rfl rfl (fun wq hsq => cat (l := (((Lib.itoa (qs.getD 0 0)) ++ [46]) ++ (Lib.itoa (qs.getD 1 0))) ++ [46]) (m := Lib.itoa (qs.getD 2 0)) rfl rfl (by have hq4 := quadOk_len hq; have g0 := itoa_b (quad_get hq (k := 0) (by omega)); have g1 := itoa_b (quad_get hq (k := 1) (by omega)); have g2 := itoa_b (quad_get hq (k := 2) (by omega)); have g3 := itoa_b (quad_get hq (k := 3) (by omega)); simp only [List.length_append, List.length_cons, List.length_nil]; omega)) ?_
 refine qq trivial rfl rfl (fun wq hsq => cat (l := ((((Lib.itoa (qs.getD 0 0)) ++ [46]) ++ (Lib.itoa (qs.getD 1 0))) ++ [46]) ++ (Lib.itoa (qs.getD 2 0))) (m := [46]) rfl rfl (by have hq4 := quadOk_len hq; have g0 := itoa_b (quad_get hq (k := 0) (by omega)); have g1 := itoa_b (quad_get hq (k := 1) (by omega)); have g2 := itoa_b (quad_get hq (k := 2) (by omega)); have g3 := itoa_b (quad_get hq (k := 3) (by omega)); simp only [List.length_append, List.length_cons, List.length_nil]; omega)) ?_
 refine qq trivial rfl rfl (fun wq hsq => mv (v := .slice Aqs qs.length cqs) rfl) ?_
 refine ixq1 3 sl23 rfl rfl hqs (by first | (first | omega | (simp; done) | (simp; omega)) | (have hq4 := quadOk_len hq; have g0 := itoa_b (quad_get hq (k := 0) (by omega)); have g1 := itoa_b (quad_get hq (k := 1) (by omega)); have g2 := itoa_b (quad_get hq (k := 2) (by omega)); have g3 := itoa_b (quad_get hq (k := 3) (by omega)); first | omega | (simp; done) | (simp; omega))) (getm I 0 (by first | (first | omega | (simp; done) | (simp; omega)) | (have hq4 := quadOk_len hq; have g0 := itoa_b (quad_get hq (k := 0) (by omega)); have g1 := itoa_b (quad_get hq (k := 1) (by omega)); have g2 := itoa_b (quad_get hq (k := 2) (by omega)); have g3 := itoa_b (quad_get hq (k := 3) (by omega)); first | omega | (simp; done) | (simp; omega)))) trivial rfl (fun a4 ha4 => ?_)
 refine qq trivial rfl rfl (fun wq hsq => lda (v := I (qs.getD 3 0)) hsq ha4 (fun _ h => h) rfl rfl one3) ?_
 refine qc (Str (Lib.itoa (qs.getD 3 0))) trivial rfl (fun wq hsq => (l6Dec (n := qs.getD 3 0) (w := _) (hn := (by have hq4 := quadOk_len hq; have g0 := quad_get hq (k := 0) (by omega); have g1 := quad_get hq (k := 1) (by omega); have g2 := quad_get hq (k := 2) (by omega); have g3 := quad_get hq (k := 3) (by omega); omega))).mono (fun v w' h => ⟨h.1, by simpa using hsq.call0 h.2⟩)) ?_
 refine qq trivial rfl rfl (fun wq hsq => cat (l := (((((Lib.itoa (qs.getD 0 0)) ++ [46]) ++ (Lib.itoa (qs.getD 1 0))) ++ [46]) ++ (Lib.itoa (qs.getD 2 0))) ++ [46]) (m := Lib.itoa (qs.getD 3 0)) rfl rfl (by have hq4 := quadOk_len hq; have g0 := itoa_b (quad_get hq (k := 0) (by omega)); have g1 := itoa_b (quad_get hq (k := 1) (by omega)); have g2 := itoa_b (quad_get hq (k := 2) (by omega)); have g3 := itoa_b (quad_get hq (k := 3) (by omega)); simp only [List.length_append, List.length_cons, List.length_nil]; omega)) ?_
 refine qq trivial rfl rfl (fun wq hsq => asg (v := Str (((((((Lib.itoa (qs.getD 0 0)) ++ [46]) ++ (Lib.itoa (qs.getD 1 0))) ++ [46]) ++ (Lib.itoa (qs.getD 2 0))) ++ [46]) ++ (Lib.itoa (qs.getD 3 0)))) rfl) ?_
 refine qn (fun w1 hs1 => ?_)
 refine nN ?_
 refine rt ?_
 refine fret (v := Str (((((((Lib.itoa (qs.getD 0 0)) ++ [46]) ++ (Lib.itoa (qs.getD 1 0))) ++ [46]) ++ (Lib.itoa (qs.getD 2 0))) ++ [46]) ++ (Lib.itoa (qs.getD 3 0)))) (.tmp .nil) rfl ?_
 have e1 : ((((((Lib.itoa (qs.getD 0 0)) ++ [46]) ++ (Lib.itoa (qs.getD 1 0))) ++ [46]) ++ (Lib.itoa (qs.getD 2 0))) ++ [46]) ++ (Lib.itoa (qs.getD 3 0)) = quadT qs := by exact (quadT_eq (quadOk_len hq)).symm
 exact ⟨(congrArg (Str) e1), hs1⟩

theorem iHostText (ak : Int) {Aaq : Option Addr} {caq : Nat} (aq : List Int) (an : List UInt8) (apt : Int) (w : World) (haq : Sl w [] 1 Aaq aq.length caq (aq.map I)) (han_n : an.length ≤ 1099511627776) (hok : addrOk ak aq an apt = true) (hGp : Lib.TabIs Tryd.prog w "internal/strconv.uint64pow10" .u64 Lib.pow10Tab) : Does Tryd.prog 76 [.agg #[I ak, .slice Aaq aq.length caq, Str an, I apt]] w (fun v w' => v = Str (hostT ak aq an) ∧ SH w w' [] []) := by
 refine fn_enter (N := 11) Tryd.func76 rfl (by kernel_rfl) rfl rfl rfl ?_
 have hs0 : SH w w [] [] := SH.refl w []
 have haq_m : aq.length ≤ 9223372036854775807 := Nat.le_trans haq.cap haq.capMax
 refine sq ?_
 refine rg ?_
 refine bx (v := .agg #[I ak, .slice Aaq aq.length caq, Str an, I apt]) (cs := [I ak, .slice Aaq aq.length caq, Str an, I apt]) hs0 rfl rfl trivial rfl (fun b1 w1 (hs1 : SH w w1 [] [.blk b1 25 [I ak, .slice Aaq aq.length caq, Str an, I apt]]) => ?_)
 refine q trivial rfl rfl (asg (v := Str []) rfl) ?_
 refine nl ?_
 refine nN ?_
 refine sq ?_
 refine sq ?_
 refine rg ?_
 refine q trivial rfl rfl (fa 0 fo25_0 rfl) ?_
 refine q trivial rfl rfl (ld (v := I ak) hs1 0 rfl rfl rfl one3) ?_
 refine q trivial rfl rfl (eqi (k := .i64) (a := ak) (b := 1) rfl rfl) ?_
 refine nl ?_
 refine nN ?_
 refine cdd (p := ak = 1) rfl (fun h1 => ?_) (fun h1 => ?_)
 · refine sq ?_
   refine rg ?_
   refine q trivial rfl rfl (fa 1 fo25_1 rfl) ?_
   refine q trivial rfl rfl (ld (v := .slice Aaq aq.length caq) hs1 0 rfl rfl rfl one23) ?_
   refine cl trivial rfl (iQuadText (Aqs := Aaq) (cqs := caq) (qs := aq) (w := _) (hqs := (haq.up0 hs1)) (hq := (by exact addr_quad hok (by assumption))) (hGp := (tab_up hGp hs1))) ?_
   rintro _ w2 ⟨rfl, hs2'⟩
   have hs2 : SH w w2 [] [.blk b1 25 [I ak, .slice Aaq aq.length caq, Str an, I apt]] := hs1.call0 hs2'
   clear hs2'
   refine q trivial rfl rfl (asg (v := Str (quadT aq)) rfl) ?_
   refine nl ?_
   refine nN ?_
   refine rt (tR ?_)
   refine fret (v := Str (quadT aq)) (.tmp .nil) rfl ?_
   have e1 : quadT aq = hostT ak aq an := by simp [hostT, h1]
   exact ⟨(congrArg (Str) e1), (hs2.pick [] rfl (by decide))⟩
 · refine sk ?_
   refine nN ?_
   refine sq ?_
   refine rg ?_
   refine q trivial rfl rfl (fa 2 fo25_2 rfl) ?_
   refine q trivial rfl rfl (ld (v := Str an) hs1 0 rfl rfl rfl one9) ?_
   refine q trivial rfl rfl (asg (v := Str an) rfl) ?_
   refine nl ?_
   refine nN ?_
   refine rt ?_
   refine fret (v := Str an) (.tmp .nil) rfl ?_
   have e2 : an = hostT ak aq an := by simp [hostT, h1]
   exact ⟨(congrArg (Str) e2), (hs1.pick [] rfl (by decide))⟩

theorem sL3Host (ak : Int) {Aaq : Option Addr} {caq : Nat} (aq : List Int) (an : List UInt8) (apt : Int) (w : World) (haq : Sl w [] 1 Aaq aq.length caq (aq.map I)) (han_n : an.length ≤ 1099511627776) (hok : addrOk ak aq an apt = true) : Does Tryd.prog 81 [.agg #[I ak, .slice Aaq aq.length caq, Str an, I apt]] w (fun v w' => v = Str (hostT ak aq an) ∧ SH w w' [] []) := by
 refine fn_enter (N := 11) Tryd.func81 rfl (by kernel_rfl) rfl rfl rfl ?_
 have hs0 : SH w w [] [] := SH.refl w []
 have haq_m : aq.length ≤ 9223372036854775807 := Nat.le_trans haq.cap haq.capMax
 refine sq ?_
 refine rg ?_
 refine bx (v := .agg #[I ak, .slice Aaq aq.length caq, Str an, I apt]) (cs := [I ak, .slice Aaq aq.length caq, Str an, I apt]) hs0 rfl rfl trivial rfl (fun b1 w1 (hs1 : SH w w1 [] [.blk b1 25 [I ak, .slice Aaq aq.length caq, Str an, I apt]]) => ?_)
 refine q trivial rfl rfl (asg (v := Str []) rfl) ?_
 refine nl ?_
 refine nN ?_
 refine sq ?_
 refine sq ?_
 refine rg ?_
 refine q trivial rfl rfl (fa 0 fo25_0 rfl) ?_
 refine q trivial rfl rfl (ld (v := I ak) hs1 0 rfl rfl rfl one3) ?_
 refine q trivial rfl rfl (eqi (k := .i64) (a := ak) (b := 1) rfl rfl) ?_
 refine nl ?_
 refine nN ?_
 refine cdd (p := ak = 1) rfl (fun h1 => ?_) (fun h1 => ?_)
 · refine sq ?_
   refine rg ?_
   refine q trivial rfl rfl (fa 1 fo25_1 rfl) ?_
   refine q trivial rfl rfl (ld (v := .slice Aaq aq.length caq) hs1 0 rfl rfl rfl one23) ?_
   refine cl trivial rfl (sL2Quad (Aqs := Aaq) (cqs := caq) (qs := aq) (w := _) (hqs := (haq.up0 hs1)) (hq := (by exact addr_quad hok (by assumption)))) ?_
   rintro _ w2 ⟨rfl, hs2'⟩
   have hs2 : SH w w2 [] [.blk b1 25 [I ak, .slice Aaq aq.length caq, Str an, I apt]] := hs1.call0 hs2'
   clear hs2'
   refine q trivial rfl rfl (asg (v := Str (quadT aq)) rfl) ?_
   refine nl ?_
   refine nN ?_
   refine rt (tR ?_)
   refine fret (v := Str (quadT aq)) (.tmp .nil) rfl ?_
   have e1 : quadT aq = hostT ak aq an := by simp [hostT, h1]
   exact ⟨(congrArg (Str) e1), (hs2.pick [] rfl (by decide))⟩
 · refine sk ?_
   refine nN ?_
   refine sq ?_
   refine rg ?_
   refine q trivial rfl rfl (fa 2 fo25_2 rfl) ?_
   refine q trivial rfl rfl (ld (v := Str an) hs1 0 rfl rfl rfl one9) ?_
   refine q trivial rfl rfl (asg (v := Str an) rfl) ?_
   refine nl ?_
   refine nN ?_
   refine rt ?_
   refine fret (v := Str an) (.tmp .nil) rfl ?_
   have e2 : an = hostT ak aq an := by simp [hostT, h1]
   exact ⟨(congrArg (Str) e2), (hs1.pick [] rfl (by decide))⟩

theorem slHasSuffix (s : List UInt8) (t : List UInt8) (w : World) (hs_n : s.length ≤ 9223372036854775807) (ht_n : t.length ≤ 9223372036854775807) : Does Tryd.prog 90 [Str s, Str t] w (fun v w' => v = .bool (decide (sufP s t)) ∧ SH w w' [] []) := by
 refine fn_enter (N := 21) Tryd.func90 rfl (by kernel_rfl) rfl rfl rfl ?_
 have hs0 : SH w w [] [] := SH.refl w []
 refine sq ?_
 refine rg ?_
 refine q trivial rfl rfl (asg (v := .bool false) rfl) ?_
 refine nl ?_
 refine nN ?_
 refine sq ?_
 refine rg ?_
 refine q trivial rfl rfl (mv (v := Str s) rfl) ?_
 refine q trivial rfl rfl (lnS (l := s) st9 rfl) ?_
 refine q trivial rfl rfl (mv (v := Str t) rfl) ?_
 refine q trivial rfl rfl (lnS (l := t) st9 rfl) ?_
 refine q trivial rfl rfl (geq (k := .i64) (a := ((s.length : Nat) : Int)) (b := ((t.length : Nat) : Int)) rfl rfl) ?_
 refine q trivial rfl rfl (mv (v := .bool (decide (((t.length : Nat) : Int) ≤ ((s.length : Nat) : Int)))) rfl) ?_
 refine spd (p := ((t.length : Nat) : Int) ≤ ((s.length : Nat) : Int)) 10 rfl (fun h1 => ?_) (fun h1 => ?_)
 · refine q ⟨_, rfl, rfl⟩ rfl rfl (mv (v := Str s) rfl) ?_
   refine q ⟨_, rfl, rfl⟩ rfl rfl (mv (v := Str s) rfl) ?_
   refine q ⟨_, rfl, rfl⟩ rfl rfl (lnS (l := s) st9 rfl) ?_
   refine q ⟨_, rfl, rfl⟩ rfl rfl (mv (v := Str t) rfl) ?_
   refine q ⟨_, rfl, rfl⟩ rfl rfl (lnS (l := t) st9 rfl) ?_
   refine q ⟨_, rfl, rfl⟩ rfl rfl (subN (a := s.length) (b := t.length) rfl rfl (by omega) (by omega)) ?_
   refine q ⟨_, rfl, rfl⟩ rfl rfl (culs (l := s) (s.length - t.length) st9 rfl rfl (by first | omega | (simp; done) | (simp; omega))) ?_
   refine q ⟨_, rfl, rfl⟩ rfl rfl (mv (v := Str t) rfl) ?_
   refine q ⟨_, rfl, rfl⟩ rfl rfl (eqs (l := s.drop (s.length - t.length)) (m := t) rfl rfl) ?_
   refine q trivial rfl rfl (pt (v := .bool (decide (s.drop (s.length - t.length) = t))) rfl rfl) ?_
   refine q trivial rfl rfl (asg (v := .bool (decide (s.drop (s.length - t.length) = t))) rfl) ?_
   refine nl ?_
   refine nN ?_
   refine rt ?_
   refine fret (v := .bool (decide (s.drop (s.length - t.length) = t))) (.tmp .nil) rfl ?_
   have e1 : (decide (s.drop (s.length - t.length) = t)) = (decide (sufP s t)) := by first | rfl | exact suf1 (by assumption) | exact suf2 (by assumption)
   exact ⟨(congrArg (Value.bool) e1), hs0⟩
 · refine gk false rfl rfl rfl rfl rfl ?_
   refine gk false rfl rfl rfl rfl rfl ?_
   refine gk false rfl rfl rfl rfl rfl ?_
   refine gk false rfl rfl rfl rfl rfl ?_
   refine gk false rfl rfl rfl rfl rfl ?_
   refine gk false rfl rfl rfl rfl rfl ?_
   refine gk false rfl rfl rfl rfl rfl ?_
   refine gk false rfl rfl rfl rfl rfl ?_
   refine gk false rfl rfl rfl rfl rfl ?_
   refine q trivial rfl rfl (pf (v := .bool false) rfl rfl) ?_
   refine q trivial rfl rfl (asg (v := .bool false) rfl) ?_
   refine nl ?_
   refine nN ?_
   refine rt ?_
   refine fret (v := .bool false) (.tmp .nil) rfl ?_
   have e2 : false = (decide (sufP s t)) := by first | rfl | exact suf1 (by assumption) | exact suf2 (by assumption)
   exact ⟨(congrArg (Value.bool) e2), hs0⟩

theorem stHasSuffix (s : List UInt8) (t : List UInt8) (w : World) (hs_n : s.length ≤ 9223372036854775807) (ht_n : t.length ≤ 9223372036854775807) : Does Tryd.prog 75 [Str s, Str t] w (fun v w' => v = .bool (decide (sufP s t)) ∧ SH w w' [] []) := by
 refine fn_enter (N := 8) Tryd.func75 rfl (by kernel_rfl) rfl rfl rfl ?_
 have hs0 : SH w w [] [] := SH.refl w []
 refine sq ?_
 refine rg ?_
 refine q trivial rfl rfl (asg (v := .bool false) rfl) ?_
 refine nl ?_
 refine nN ?_
 refine sq ?_
 refine rg ?_
 refine q trivial rfl rfl (mv (v := Str s) rfl) ?_
 refine q trivial rfl rfl (mv (v := Str t) rfl) ?_
 refine cl trivial rfl (slHasSuffix (s := s) (t := t) (w := _) (hs_n := (by first | omega | (simp; done) | (simp; omega))) (ht_n := (by first | omega | (simp; done) | (simp; omega)))) ?_
 rintro _ w1 ⟨rfl, hs1'⟩
 have hs1 : SH w w1 [] [] := hs0.call0 hs1'
 clear hs1'
 refine q trivial rfl rfl (asg (v := .bool (decide (sufP s t))) rfl) ?_
 refine nl ?_
 refine nN ?_
 refine rt ?_
 refine fret (v := .bool (decide (sufP s t))) (.tmp .nil) rfl ?_
 exact ⟨rfl, hs1⟩

theorem sL32Fits (l : List UInt8) (n : Int) (b : Bool) (ak : Int) {Aaq : Option Addr} {caq : Nat} (aq : List Int) (an : List UInt8) (apt : Int) (w : World) (hl_n : l.length ≤ 9223372036854775807) (haq : Sl w [] 1 Aaq aq.length caq (aq.map I)) (han_n : an.length ≤ 1099511627776) (hok : addrOk ak aq an apt = true) : Does Tryd.prog 77 [.agg #[Str l, I n, .bool b], .agg #[I ak, .slice Aaq aq.length caq, Str an, I apt]] w (fun v w' => v = .bool (fitB (l, n, b) (hostT ak aq an) apt) ∧ SH w w' [] []) := by
 refine fn_enter (N := 37) Tryd.func77 rfl (by kernel_rfl) rfl rfl rfl ?_
 have hs0 : SH w w [] [] := SH.refl w []
 have haq_m : aq.length ≤ 9223372036854775807 := Nat.le_trans haq.cap haq.capMax
 refine sq ?_
 refine rg ?_
 refine bx (v := .agg #[Str l, I n, .bool b]) (cs := [Str l, I n, .bool b]) hs0 rfl rfl trivial rfl (fun b1 w1 (hs1 : SH w w1 [] [.blk b1 83 [Str l, I n, .bool b]]) => ?_)
 refine bx (v := .agg #[I ak, .slice Aaq aq.length caq, Str an, I apt]) (cs := [I ak, .slice Aaq aq.length caq, Str an, I apt]) hs1 rfl rfl trivial rfl (fun b2 w2 (hs2 : SH w w2 [] [.blk b1 83 [Str l, I n, .bool b], .blk b2 25 [I ak, .slice Aaq aq.length caq, Str an, I apt]]) => ?_)
 refine q trivial rfl rfl (asg (v := .bool false) rfl) ?_
 refine nl ?_
 refine nN ?_
 refine sq ?_
 refine rg ?_
 refine q trivial rfl rfl (ldg (vs := [I ak, .slice Aaq aq.length caq, Str an, I apt]) hs2 1 rfl rfl rfl rfl ag25) ?_
 refine cl trivial rfl (sL3Host (ak := ak) (Aaq := Aaq) (caq := caq) (aq := aq) (an := an) (apt := apt) (w := _) (haq := (haq.up0 hs2)) (han_n := (by first | (first | omega | (simp; done) | (simp; omega)) | (have hhl := hostT_len hok; first | omega | (simp; done) | (simp; omega)))) (hok := (by first | (first | omega | assumption | (simp; done) | (simp; omega)) | (have hhl := hostT_len hok; first | omega | assumption | (simp; done) | (simp; omega))))) ?_
 rintro _ w3 ⟨rfl, hs3'⟩
 have hs3 : SH w w3 [] [.blk b1 83 [Str l, I n, .bool b], .blk b2 25 [I ak, .slice Aaq aq.length caq, Str an, I apt]] := hs2.call0 hs3'
 clear hs3'
 refine q trivial rfl rfl (asg (v := Str (hostT ak aq an)) rfl) ?_
 refine nl ?_
 refine nN ?_
 refine sq ?_
 refine rg ?_
 refine q trivial rfl rfl (mv (v := Str (hostT ak aq an)) rfl) ?_
 refine q trivial rfl rfl (lnS (l := hostT ak aq an) st9 rfl) ?_
 refine q trivial rfl rfl (fa 0 fo83_0 rfl) ?_
 refine q trivial rfl rfl (ld (v := Str l) hs3 0 rfl rfl rfl one9) ?_
 refine q trivial rfl rfl (lnS (l := l) st9 rfl) ?_
 refine q trivial rfl rfl (sub (a := (((hostT ak aq an).length : Nat) : Int)) (b := ((l.length : Nat) : Int)) rfl rfl (by first | (exact ⟨by omega, by omega⟩) | (have hhl := hostT_len hok; exact ⟨by omega, by omega⟩))) ?_
 refine q trivial rfl rfl (asg (v := I ((((hostT ak aq an).length : Nat) : Int) - ((l.length : Nat) : Int))) rfl) ?_
 refine nl ?_
 refine nN ?_
 refine sq ?_
 refine rq (fun w' => SH w w' [] [.blk b1 83 [Str l, I n, .bool b], .blk b2 25 [I ak, .slice Aaq aq.length caq, Str an, I apt]]) mixed (by kernel_rfl) hs3.drew ?_
 refine qq trivial rfl rfl (fun wq hsq => mv (v := I ((((hostT ak aq an).length : Nat) : Int) - ((l.length : Nat) : Int))) rfl) ?_
 refine qq trivial rfl rfl (fun wq hsq => geq (k := .i64) (a := (((hostT ak aq an).length : Nat) : Int) - ((l.length : Nat) : Int)) (b := 0) rfl rfl) ?_
 refine qq trivial rfl rfl (fun wq hsq => mv (v := .bool (decide ((0 : Int) ≤ ((((hostT ak aq an).length : Nat) : Int) - ((l.length : Nat) : Int))))) rfl) ?_
 refine qspd (p := (0 : Int) ≤ ((((hostT ak aq an).length : Nat) : Int) - ((l.length : Nat) : Int))) 17 rfl (fun h1 => ?_) (fun h1 => ?_)
 · refine qq ⟨_, rfl, rfl⟩ rfl rfl (fun wq hsq => mv (v := Str (hostT ak aq an)) rfl) ?_
   refine qq ⟨_, rfl, rfl⟩ rfl rfl (fun wq hsq => mv (v := I ((((hostT ak aq an).length : Nat) : Int) - ((l.length : Nat) : Int))) rfl) ?_
   refine qq ⟨_, rfl, rfl⟩ rfl rfl (fun wq hsq => culs (l := hostT ak aq an) (((((hostT ak aq an).length : Nat) : Int) - ((l.length : Nat) : Int)).toNat) st9 rfl (ieq (x := (((hostT ak aq an).length : Nat) : Int) - ((l.length : Nat) : Int)) (by first | (omega) | (have hhl := hostT_len hok; omega))) (by first | (first | omega | (simp; done) | (simp; omega)) | (have hhl := hostT_len hok; first | omega | (simp; done) | (simp; omega)))) ?_
   refine qq ⟨_, rfl, rfl⟩ rfl rfl (fun wq hsq => fa 0 fo83_0 rfl) ?_
   refine qq ⟨_, rfl, rfl⟩ rfl rfl (fun wq hsq => ld (v := Str l) hsq 0 rfl rfl rfl one9) ?_
   refine qq ⟨_, rfl, rfl⟩ rfl rfl (fun wq hsq => eqs (l := (hostT ak aq an).drop (((((hostT ak aq an).length : Nat) : Int) - ((l.length : Nat) : Int)).toNat)) (m := l) rfl rfl) ?_
   refine qq trivial rfl rfl (fun wq hsq => pt (v := .bool (decide ((hostT ak aq an).drop (((((hostT ak aq an).length : Nat) : Int) - ((l.length : Nat) : Int)).toNat) = l))) rfl rfl) ?_
   refine qq trivial rfl rfl (fun wq hsq => mv (v := .bool (decide ((hostT ak aq an).drop (((((hostT ak aq an).length : Nat) : Int) - ((l.length : Nat) : Int)).toNat) = l))) rfl) ?_
   refine qspd (p := (hostT ak aq an).drop (((((hostT ak aq an).length : Nat) : Int) - ((l.length : Nat) : Int)).toNat) = l) 25 rfl (fun h2 => ?_) (fun h2 => ?_)
   · refine qq ⟨_, rfl, rfl⟩ rfl rfl (fun wq hsq => fa 1 fo83_1 rfl) ?_
     refine qq ⟨_, rfl, rfl⟩ rfl rfl (fun wq hsq => ld (v := I n) hsq 0 rfl rfl rfl one3) ?_
     refine qq ⟨_, rfl, rfl⟩ rfl rfl (fun wq hsq => eqi (k := .i64) (a := n) (b := 0) rfl rfl) ?_
     refine qq ⟨_, rfl, rfl⟩ rfl rfl (fun wq hsq => mv (v := .bool (decide (n = 0))) rfl) ?_
     refine qspd (p := n = 0) 29 rfl (fun h3 => ?_) (fun h3 => ?_)
     · refine qk true rfl rfl rfl rfl rfl ?_
       refine qk true rfl rfl rfl rfl rfl ?_
       refine qk true rfl rfl rfl rfl rfl ?_
       refine qk true rfl rfl rfl rfl rfl ?_
       refine qk true rfl rfl rfl rfl rfl ?_
       refine qq ⟨_, rfl, rfl⟩ rfl rfl (fun wq hsq => pt (v := .bool true) rfl rfl) ?_
       refine qq trivial rfl rfl (fun wq hsq => pt (v := .bool true) rfl rfl) ?_
       refine qq trivial rfl rfl (fun wq hsq => asg (v := .bool true) rfl) ?_
       refine qn (fun w4 hs4 => ?_)
       refine nN ?_
       refine rt ?_
       refine fret (v := .bool true) (.tmp .nil) rfl ?_
       have e1 : true = fitB (l, n, b) (hostT ak aq an) apt := by first | exact (fit_yes (sufZ (by assumption) (by assumption)) (.inl (by assumption))).symm | exact fit_port (sufZ (by assumption) (by assumption)) (by assumption) | exact (fit_no1 (sufZ2 (by assumption))).symm | exact (fit_no1 (sufZ1 (by assumption))).symm
       exact ⟨(congrArg (Value.bool) e1), (hs4.pick [] rfl (by decide))⟩
     · refine qq ⟨_, rfl, rfl⟩ rfl rfl (fun wq hsq => fa 1 fo83_1 rfl) ?_
       refine qq ⟨_, rfl, rfl⟩ rfl rfl (fun wq hsq => ld (v := I n) hsq 0 rfl rfl rfl one3) ?_
       refine qq ⟨_, rfl, rfl⟩ rfl rfl (fun wq hsq => fa 3 fo25_3 rfl) ?_
       refine qq ⟨_, rfl, rfl⟩ rfl rfl (fun wq hsq => ld (v := I apt) hsq 1 rfl rfl rfl one3) ?_
       refine qq ⟨_, rfl, rfl⟩ rfl rfl (fun wq hsq => eqi (k := .i64) (a := n) (b := apt) rfl rfl) ?_
       refine qq ⟨_, rfl, rfl⟩ rfl rfl (fun wq hsq => pf (v := .bool (decide (n = apt))) rfl rfl) ?_
       refine qq trivial rfl rfl (fun wq hsq => pt (v := .bool (decide (n = apt))) rfl rfl) ?_
       refine qq trivial rfl rfl (fun wq hsq => asg (v := .bool (decide (n = apt))) rfl) ?_
       refine qn (fun w5 hs5 => ?_)
       refine nN ?_
       refine rt ?_
       refine fret (v := .bool (decide (n = apt))) (.tmp .nil) rfl ?_
       have e2 : (decide (n = apt)) = fitB (l, n, b) (hostT ak aq an) apt := by first | exact (fit_yes (sufZ (by assumption) (by assumption)) (.inl (by assumption))).symm | exact fit_port (sufZ (by assumption) (by assumption)) (by assumption) | exact (fit_no1 (sufZ2 (by assumption))).symm | exact (fit_no1 (sufZ1 (by assumption))).symm
       exact ⟨(congrArg (Value.bool) e2), (hs5.pick [] rfl (by decide))⟩
   · refine qk false rfl rfl rfl rfl rfl ?_
     refine qk false rfl rfl rfl rfl rfl ?_
     refine qk false rfl rfl rfl rfl rfl ?_
     refine qk false rfl rfl rfl rfl rfl ?_
     refine qku rfl rfl rfl rfl rfl ?_
     refine qku rfl rfl rfl rfl rfl ?_
     refine qku rfl rfl rfl rfl rfl ?_
     refine qku rfl rfl rfl rfl rfl ?_
     refine qku rfl rfl rfl rfl rfl ?_
     refine qk false rfl rfl rfl rfl rfl ?_
     refine qq trivial rfl rfl (fun wq hsq => pf (v := .bool false) rfl rfl) ?_
     refine qq trivial rfl rfl (fun wq hsq => asg (v := .bool false) rfl) ?_
     refine qn (fun w6 hs6 => ?_)
     refine nN ?_
     refine rt ?_
     refine fret (v := .bool false) (.tmp .nil) rfl ?_
     have e3 : false = fitB (l, n, b) (hostT ak aq an) apt := by first | exact (fit_yes (sufZ (by assumption) (by assumption)) (.inl (by assumption))).symm | exact fit_port (sufZ (by assumption) (by assumption)) (by assumption) | exact (fit_no1 (sufZ2 (by assumption))).symm | exact (fit_no1 (sufZ1 (by assumption))).symm
     exact ⟨(congrArg (Value.bool) e3), (hs6.pick [] rfl (by decide))⟩
 · refine qk false rfl rfl rfl rfl rfl ?_
   refine qk false rfl rfl rfl rfl rfl ?_
   refine qk false rfl rfl rfl rfl rfl ?_
   refine qk false rfl rfl rfl rfl rfl ?_
   refine qk false rfl rfl rfl rfl rfl ?_
   refine qk false rfl rfl rfl rfl rfl ?_
   refine qq trivial rfl rfl (fun wq hsq => pf (v := .bool false) rfl rfl) ?_
   refine qq trivial rfl rfl (fun wq hsq => mv (v := .bool false) rfl) ?_
   refine qk false rfl rfl rfl rfl rfl ?_
   refine qk false rfl rfl rfl rfl rfl ?_
   refine qk false rfl rfl rfl rfl rfl ?_
   refine qk false rfl rfl rfl rfl rfl ?_
   refine qku rfl rfl rfl rfl rfl ?_
   refine qku rfl rfl rfl rfl rfl ?_
   refine qku rfl rfl rfl rfl rfl ?_
   refine qku rfl rfl rfl rfl rfl ?_
   refine qku rfl rfl rfl rfl rfl ?_
   refine qk false rfl rfl rfl rfl rfl ?_
   refine qq trivial rfl rfl (fun wq hsq => pf (v := .bool false) rfl rfl) ?_
   refine qq trivial rfl rfl (fun wq hsq => asg (v := .bool false) rfl) ?_
   refine qn (fun w7 hs7 => ?_)
   refine nN ?_
   refine rt ?_
   refine fret (v := .bool false) (.tmp .nil) rfl ?_
   have e4 : false = fitB (l, n, b) (hostT ak aq an) apt := by first | exact (fit_yes (sufZ (by assumption) (by assumption)) (.inl (by assumption))).symm | exact fit_port (sufZ (by assumption) (by assumption)) (by assumption) | exact (fit_no1 (sufZ2 (by assumption))).symm | exact (fit_no1 (sufZ1 (by assumption))).symm
   exact ⟨(congrArg (Value.bool) e4), (hs7.pick [] rfl (by decide))⟩

theorem iAllow {Azs : Option Addr} {czs : Nat} (zs : List (List UInt8 × Int × Bool)) (ak : Int) {Aaq : Option Addr} {caq : Nat} (aq : List Int) (an : List UInt8) (apt : Int) (w : World) (hzs : Sl w [] 3 Azs zs.length czs (zs.flatMap gRule)) (hzs_e : ∀ u ∈ zs, u.1.length ≤ 9223372036854775807) (haq : Sl w [] 1 Aaq aq.length caq (aq.map I)) (han_n : an.length ≤ 1099511627776) (hok : addrOk ak aq an apt = true) (hGp : Lib.TabIs Tryd.prog w "internal/strconv.uint64pow10" .u64 Lib.pow10Tab) : Does Tryd.prog 47 [.slice Azs zs.length czs, .agg #[I ak, .slice Aaq aq.length caq, Str an, I apt]] w (fun v w' => v = .bool (allowL zs (hostT ak aq an) apt) ∧ SH w w' [] []) := by
 refine fn_enter (N := 33) Tryd.func47 rfl (by kernel_rfl) rfl rfl rfl ?_
 have hs0 : SH w w [] [] := SH.refl w []
 have hzs_m : zs.length ≤ 9223372036854775807 := Nat.le_trans hzs.cap hzs.capMax
 have haq_m : aq.length ≤ 9223372036854775807 := Nat.le_trans haq.cap haq.capMax
 refine sq ?_
 refine rg ?_
 refine bx (v := .agg #[I ak, .slice Aaq aq.length caq, Str an, I apt]) (cs := [I ak, .slice Aaq aq.length caq, Str an, I apt]) hs0 rfl rfl trivial rfl (fun b1 w1 (hs1 : SH w w1 [] [.blk b1 25 [I ak, .slice Aaq aq.length caq, Str an, I apt]]) => ?_)
 refine q trivial rfl rfl (asg (v := .bool false) rfl) ?_
 refine nl ?_
 refine nN ?_
 refine sq ?_
 refine sq ?_
 refine rg ?_
 refine q trivial rfl rfl (mv (v := .slice Azs zs.length czs) rfl) ?_
 refine q trivial rfl rfl (lnA (n := zs.length) sl42 rfl) ?_
 refine q trivial rfl rfl (mv (v := I 0) rfl) ?_
 refine nl ?_
 refine nN ?_
 refine bl ?_
 refine lp (σ := Nat) (fun (k : Nat) f w' => Has f [(3, pB b1), (7, .slice Azs zs.length czs), (8, I ((zs.length : Nat) : Int)), (9, I ((k : Nat) : Int))] ∧ (k ≤ zs.length) ∧ (∀ j, j < k → fitB (zs.getD j rule0) (hostT ak aq an) apt = false) ∧ SH w w' [] [.blk b1 25 [I ak, .slice Aaq aq.length caq, Str an, I apt]]) (fun k => zs.length - k) 0 ⟨⟨rfl, rfl, rfl, rfl, trivial⟩, (by simp), (by intro j hj; omega), hs1⟩ ?_
 rintro k f w2 ⟨hf, hk, hn, hs2⟩
 obtain ⟨g1, rfl⟩ := has_upd hf
 clear hf
 refine sq ?_
 refine rg ?_
 refine q trivial rfl rfl (lss (k := .i64) (a := ((k : Nat) : Int)) (b := ((zs.length : Nat) : Int)) rfl rfl) ?_
 refine nl ?_
 refine nN ?_
 refine sq ?_
 refine cdd (p := ((k : Nat) : Int) < ((zs.length : Nat) : Int)) rfl (fun h1 => ?_) (fun h1 => ?_)
 · refine sk ?_
   refine nN ?_
   refine sq ?_
   refine bl ?_
   refine sq ?_
   refine rg ?_
   refine ixwf (g := gRule) (zs := zs) (fun _ => rfl) rule0 k sl42 rfl rfl hzs (by first | (first | omega | (simp; done) | (simp; omega)) | (have hre := hzs_e _ (getD_mem' (d := rule0) (show k < zs.length by omega)); have hhl := hostT_len hok; first | omega | (simp; done) | (simp; omega))) (by first | (first | omega | (simp; done) | (simp; omega)) | (have hre := hzs_e _ (getD_mem' (d := rule0) (show k < zs.length by omega)); have hhl := hostT_len hok; first | omega | (simp; done) | (simp; omega))) trivial rfl (fun a1 ha1 => ?_)
   refine q trivial rfl rfl (ldag (us := [Str ((zs.getD k rule0).1), I ((zs.getD k rule0).2.1), .bool ((zs.getD k rule0).2.2)]) hs2 ha1 (fun _ h => h) rfl rfl ag83) ?_
   refine al (v := .agg #[Str [], I 0, .bool false]) (cs := [Str [], I 0, .bool false]) hs2 tz83 rfl trivial rfl (fun b2 w3 (hs3 : SH w w3 [] [.blk b1 25 [I ak, .slice Aaq aq.length caq, Str an, I apt], .blk b2 83 [Str [], I 0, .bool false]]) => ?_)
   refine stg (vs := [Str ((zs.getD k rule0).1), I ((zs.getD k rule0).2.1), .bool ((zs.getD k rule0).2.2)]) hs3 1 rfl rfl rfl rfl rfl rfl rfl ag83 trivial (fun w4 (hs4 : SH w w4 [] [.blk b1 25 [I ak, .slice Aaq aq.length caq, Str an, I apt], .blk b2 83 [Str ((zs.getD k rule0).1), I ((zs.getD k rule0).2.1), .bool ((zs.getD k rule0).2.2)]]) => ?_)
   refine nl ?_
   refine nN ?_
   refine sq ?_
   refine rq (fun w' => SH w w' [] [.blk b1 25 [I ak, .slice Aaq aq.length caq, Str an, I apt], .blk b2 83 [Str ((zs.getD k rule0).1), I ((zs.getD k rule0).2.1), .bool ((zs.getD k rule0).2.2)]]) mixed (by kernel_rfl) hs4.drew ?_
   refine qq trivial rfl rfl (fun wq hsq => ldg (vs := [I ak, .slice Aaq aq.length caq, Str an, I apt]) hsq 0 rfl rfl rfl rfl ag25) ?_
   refine qc (Str (hostT ak aq an)) trivial rfl (fun wq hsq => (iHostText (ak := ak) (Aaq := Aaq) (caq := caq) (aq := aq) (an := an) (apt := apt) (w := _) (haq := (haq.up0 hsq)) (han_n := (by first | (first | omega | (simp; done) | (simp; omega)) | (have hre := hzs_e _ (getD_mem' (d := rule0) (show k < zs.length by omega)); have hhl := hostT_len hok; first | omega | (simp; done) | (simp; omega)))) (hok := (by first | (first | omega | assumption | (simp; done) | (simp; omega)) | (have hre := hzs_e _ (getD_mem' (d := rule0) (show k < zs.length by omega)); have hhl := hostT_len hok; first | omega | assumption | (simp; done) | (simp; omega)))) (hGp := (tab_up hGp hsq))).mono (fun v w' h => ⟨h.1, by simpa using hsq.call0 h.2⟩)) ?_
   refine qq trivial rfl rfl (fun wq hsq => fa 0 fo83_0 rfl) ?_
   refine qq trivial rfl rfl (fun wq hsq => ld (v := Str ((zs.getD k rule0).1)) hsq 1 rfl rfl rfl one9) ?_
   refine qc (.bool (decide (sufP (hostT ak aq an) ((zs.getD k rule0).1)))) trivial rfl (fun wq hsq => (stHasSuffix (s := hostT ak aq an) (t := (zs.getD k rule0).1) (w := _) (hs_n := (by first | (first | omega | (simp; done) | (simp; omega)) | (have hre := hzs_e _ (getD_mem' (d := rule0) (show k < zs.length by omega)); have hhl := hostT_len hok; first | omega | (simp; done) | (simp; omega)))) (ht_n := (by first | (first | omega | (simp; done) | (simp; omega)) | (have hre := hzs_e _ (getD_mem' (d := rule0) (show k < zs.length by omega)); have hhl := hostT_len hok; first | omega | (simp; done) | (simp; omega))))).mono (fun v w' h => ⟨h.1, by simpa using hsq.call0 h.2⟩)) ?_
   refine qq trivial rfl rfl (fun wq hsq => mv (v := .bool (decide (sufP (hostT ak aq an) ((zs.getD k rule0).1)))) rfl) ?_
   refine qspd (p := sufP (hostT ak aq an) ((zs.getD k rule0).1)) 18 rfl (fun h2 => ?_) (fun h2 => ?_)
   · refine qq ⟨_, rfl, rfl⟩ rfl rfl (fun wq hsq => fa 1 fo83_1 rfl) ?_
     refine qq ⟨_, rfl, rfl⟩ rfl rfl (fun wq hsq => ld (v := I ((zs.getD k rule0).2.1)) hsq 1 rfl rfl rfl one3) ?_
     refine qq ⟨_, rfl, rfl⟩ rfl rfl (fun wq hsq => eqi (k := .i64) (a := (zs.getD k rule0).2.1) (b := 0) rfl rfl) ?_
     refine qq ⟨_, rfl, rfl⟩ rfl rfl (fun wq hsq => mv (v := .bool (decide (((zs.getD k rule0).2.1) = 0))) rfl) ?_
     refine qspd (p := ((zs.getD k rule0).2.1) = 0) 22 rfl (fun h3 => ?_) (fun h3 => ?_)
     · refine qk true rfl rfl rfl rfl rfl ?_
       refine qk true rfl rfl rfl rfl rfl ?_
       refine qk true rfl rfl rfl rfl rfl ?_
       refine qk true rfl rfl rfl rfl rfl ?_
       refine qk true rfl rfl rfl rfl rfl ?_
       refine qq ⟨_, rfl, rfl⟩ rfl rfl (fun wq hsq => pt (v := .bool true) rfl rfl) ?_
       refine qq trivial rfl rfl (fun wq hsq => pt (v := .bool true) rfl rfl) ?_
       refine qn (fun w5 hs5 => ?_)
       refine nN ?_
       refine cdt rfl ?_
       refine sq ?_
       refine rg ?_
       refine q trivial rfl rfl (fa 2 fo83_2 rfl) ?_
       refine q trivial rfl rfl (ld (v := .bool ((zs.getD k rule0).2.2)) hs5 1 rfl rfl rfl one4) ?_
       refine q trivial rfl rfl (asg (v := .bool ((zs.getD k rule0).2.2)) rfl) ?_
       refine nl ?_
       refine nN ?_
       refine rt (bR (tR (tR (bR (tR ?_)))))
       refine fret (v := .bool ((zs.getD k rule0).2.2)) (.tmp .nil) rfl ?_
       have e1 : ((zs.getD k rule0).2.2) = allowL zs (hostT ak aq an) apt := by first | exact (allow_yes (by omega) hn (fit_yes (by assumption) (.inl (by assumption)))).symm | exact (allow_yes (by omega) hn (fit_yes (by assumption) (.inr (by assumption)))).symm | exact (allow_none (by omega) hn).symm
       exact ⟨(congrArg (Value.bool) e1), (hs5.pick [] rfl (by decide))⟩
     · refine qq ⟨_, rfl, rfl⟩ rfl rfl (fun wq hsq => fa 1 fo83_1 rfl) ?_
       refine qq ⟨_, rfl, rfl⟩ rfl rfl (fun wq hsq => ld (v := I ((zs.getD k rule0).2.1)) hsq 1 rfl rfl rfl one3) ?_
       refine qq ⟨_, rfl, rfl⟩ rfl rfl (fun wq hsq => fa 3 fo25_3 rfl) ?_
       refine qq ⟨_, rfl, rfl⟩ rfl rfl (fun wq hsq => ld (v := I apt) hsq 0 rfl rfl rfl one3) ?_
       refine qq ⟨_, rfl, rfl⟩ rfl rfl (fun wq hsq => eqi (k := .i64) (a := (zs.getD k rule0).2.1) (b := apt) rfl rfl) ?_
       refine qq ⟨_, rfl, rfl⟩ rfl rfl (fun wq hsq => pf (v := .bool (decide (((zs.getD k rule0).2.1) = apt))) rfl rfl) ?_
       refine qq trivial rfl rfl (fun wq hsq => pt (v := .bool (decide (((zs.getD k rule0).2.1) = apt))) rfl rfl) ?_
       refine qn (fun w6 hs6 => ?_)
       refine nN ?_
       refine cdd (p := ((zs.getD k rule0).2.1) = apt) rfl (fun h4 => ?_) (fun h4 => ?_)
       · refine sq ?_
         refine rg ?_
         refine q trivial rfl rfl (fa 2 fo83_2 rfl) ?_
         refine q trivial rfl rfl (ld (v := .bool ((zs.getD k rule0).2.2)) hs6 1 rfl rfl rfl one4) ?_
         refine q trivial rfl rfl (asg (v := .bool ((zs.getD k rule0).2.2)) rfl) ?_
         refine nl ?_
         refine nN ?_
         refine rt (bR (tR (tR (bR (tR ?_)))))
         refine fret (v := .bool ((zs.getD k rule0).2.2)) (.tmp .nil) rfl ?_
         have e2 : ((zs.getD k rule0).2.2) = allowL zs (hostT ak aq an) apt := by first | exact (allow_yes (by omega) hn (fit_yes (by assumption) (.inl (by assumption)))).symm | exact (allow_yes (by omega) hn (fit_yes (by assumption) (.inr (by assumption)))).symm | exact (allow_none (by omega) hn).symm
         exact ⟨(congrArg (Value.bool) e2), (hs6.pick [] rfl (by decide))⟩
       · refine sk ?_
         refine bN ?_
         refine nN ?_
         refine rg ?_
         refine q trivial rfl rfl (add (a := ((k : Nat) : Int)) (b := 1) rfl rfl (by first | (exact ⟨by omega, by omega⟩) | (have hre := hzs_e _ (getD_mem' (d := rule0) (show k < zs.length by omega)); have hhl := hostT_len hok; exact ⟨by omega, by omega⟩))) ?_
         refine q trivial rfl rfl (mv (v := I (((k : Nat) : Int) + 1)) rfl) ?_
         refine nl ?_
         refine nN ?_
         refine ⟨(k + 1), ⟨⟨rfl, rfl, rfl, rfl, trivial⟩, (by omega), (by intro j hj; rcases Nat.lt_succ_iff_lt_or_eq.1 hj with h | h; exact hn j h; subst h; first | exact fit_no1 (by assumption) | exact fit_no2 (by assumption) (by assumption)), (hs6.pick [0] rfl (by decide))⟩, ?_⟩
         omega
   · refine qk false rfl rfl rfl rfl rfl ?_
     refine qk false rfl rfl rfl rfl rfl ?_
     refine qk false rfl rfl rfl rfl rfl ?_
     refine qk false rfl rfl rfl rfl rfl ?_
     refine qku rfl rfl rfl rfl rfl ?_
     refine qku rfl rfl rfl rfl rfl ?_
     refine qku rfl rfl rfl rfl rfl ?_
     refine qku rfl rfl rfl rfl rfl ?_
     refine qku rfl rfl rfl rfl rfl ?_
     refine qk false rfl rfl rfl rfl rfl ?_
     refine qq trivial rfl rfl (fun wq hsq => pf (v := .bool false) rfl rfl) ?_
     refine qn (fun w7 hs7 => ?_)
     refine nN ?_
     refine cdf rfl ?_
     refine sk ?_
     refine bN ?_
     refine nN ?_
     refine rg ?_
     refine q trivial rfl rfl (add (a := ((k : Nat) : Int)) (b := 1) rfl rfl (by first | (exact ⟨by omega, by omega⟩) | (have hre := hzs_e _ (getD_mem' (d := rule0) (show k < zs.length by omega)); have hhl := hostT_len hok; exact ⟨by omega, by omega⟩))) ?_
     refine q trivial rfl rfl (mv (v := I (((k : Nat) : Int) + 1)) rfl) ?_
     refine nl ?_
     refine nN ?_
     refine ⟨(k + 1), ⟨⟨rfl, rfl, rfl, rfl, trivial⟩, (by omega), (by intro j hj; rcases Nat.lt_succ_iff_lt_or_eq.1 hj with h | h; exact hn j h; subst h; first | exact fit_no1 (by assumption) | exact fit_no2 (by assumption) (by assumption)), (hs7.pick [0] rfl (by decide))⟩, ?_⟩
     omega
 · refine ex (tE (tE (bE ?_)))
   refine nN ?_
   refine sq ?_
   refine rg ?_
   refine q trivial rfl rfl (asg (v := .bool false) rfl) ?_
   refine nl ?_
   refine nN ?_
   refine rt ?_
   refine fret (v := .bool false) (.tmp .nil) rfl ?_
   have e3 : false = allowL zs (hostT ak aq an) apt := by first | exact (allow_yes (by omega) hn (fit_yes (by assumption) (.inl (by assumption)))).symm | exact (allow_yes (by omega) hn (fit_yes (by assumption) (.inr (by assumption)))).symm | exact (allow_none (by omega) hn).symm
   exact ⟨(congrArg (Value.bool) e3), (hs2.pick [] rfl (by decide))⟩

theorem iRulesAllow {Azs : Option Addr} {czs : Nat} (zs : List (List UInt8 × Int × Bool)) (ak : Int) {Aaq : Option Addr} {caq : Nat} (aq : List Int) (an : List UInt8) (apt : Int) (w : World) (hzs : Sl w [] 3 Azs zs.length czs (zs.flatMap gRule)) (hzs_e : ∀ u ∈ zs, u.1.length ≤ 9223372036854775807) (haq : Sl w [] 1 Aaq aq.length caq (aq.map I)) (han_n : an.length ≤ 1099511627776) (hGp : Lib.TabIs Tryd.prog w "internal/strconv.uint64pow10" .u64 Lib.pow10Tab) : Does Tryd.prog 23 [.slice Azs zs.length czs, .agg #[I ak, .slice Aaq aq.length caq, Str an, I apt]] w (fun v w' => v = .bool (rulesAllow zs ak aq an apt) ∧ SH w w' [] []) := by
 refine fn_enter (N := 16) Tryd.func23 rfl (by kernel_rfl) rfl rfl rfl ?_
 have hs0 : SH w w [] [] := SH.refl w []
 have hzs_m : zs.length ≤ 9223372036854775807 := Nat.le_trans hzs.cap hzs.capMax
 have haq_m : aq.length ≤ 9223372036854775807 := Nat.le_trans haq.cap haq.capMax
 refine sq ?_
 refine rg ?_
 refine bx (v := .agg #[I ak, .slice Aaq aq.length caq, Str an, I apt]) (cs := [I ak, .slice Aaq aq.length caq, Str an, I apt]) hs0 rfl rfl trivial rfl (fun b1 w1 (hs1 : SH w w1 [] [.blk b1 25 [I ak, .slice Aaq aq.length caq, Str an, I apt]]) => ?_)
 refine q trivial rfl rfl (asg (v := .bool false) rfl) ?_
 refine nl ?_
 refine nN ?_
 refine sq ?_
 refine rg ?_
 refine q trivial rfl rfl (mv (v := .slice Azs zs.length czs) rfl) ?_
 refine cl trivial rfl (iRulesValid (Azs := Azs) (czs := czs) (zs := zs) (w := _) (hzs := (hzs.up0 hs1)) (hzs_e := hzs_e)) ?_
 rintro _ w2 ⟨rfl, hs2'⟩
 have hs2 : SH w w2 [] [.blk b1 25 [I ak, .slice Aaq aq.length caq, Str an, I apt]] := hs1.call0 hs2'
 clear hs2'
 refine q trivial rfl rfl (mv (v := .bool (rulesOk zs)) rfl) ?_
 refine spl (b := rulesOk zs) 7 rfl (fun h1 => ?_) (fun h1 => ?_)
 · refine q ⟨_, rfl, rfl⟩ rfl rfl (ldg (vs := [I ak, .slice Aaq aq.length caq, Str an, I apt]) hs2 0 rfl rfl rfl rfl ag25) ?_
   refine cl ⟨_, rfl, rfl⟩ rfl (iAddressValid (ak := ak) (Aaq := Aaq) (caq := caq) (aq := aq) (an := an) (apt := apt) (w := _) (haq := (haq.up0 hs2)) (han_n := (by first | omega | (simp; done) | (simp; omega)))) ?_
   rintro _ w3 ⟨rfl, hs3'⟩
   have hs3 : SH w w3 [] [.blk b1 25 [I ak, .slice Aaq aq.length caq, Str an, I apt]] := hs2.call0 hs3'
   clear hs3'
   refine q trivial rfl rfl (pt (v := .bool (addrOk ak aq an apt)) rfl rfl) ?_
   refine q trivial rfl rfl (mv (v := .bool (addrOk ak aq an apt)) rfl) ?_
   refine spl (b := addrOk ak aq an apt) 11 rfl (fun h2 => ?_) (fun h2 => ?_)
   · refine q ⟨_, rfl, rfl⟩ rfl rfl (mv (v := .slice Azs zs.length czs) rfl) ?_
     refine q ⟨_, rfl, rfl⟩ rfl rfl (ldg (vs := [I ak, .slice Aaq aq.length caq, Str an, I apt]) hs3 0 rfl rfl rfl rfl ag25) ?_
     refine cl ⟨_, rfl, rfl⟩ rfl (iAllow (Azs := Azs) (czs := czs) (zs := zs) (ak := ak) (Aaq := Aaq) (caq := caq) (aq := aq) (an := an) (apt := apt) (w := _) (hzs := (hzs.up0 hs3)) (hzs_e := hzs_e) (haq := (haq.up0 hs3)) (han_n := (by first | omega | (simp; done) | (simp; omega))) (hok := (by first | omega | assumption | (simp; done) | (simp; omega))) (hGp := (tab_up hGp hs3))) ?_
     rintro _ w4 ⟨rfl, hs4'⟩
     have hs4 : SH w w4 [] [.blk b1 25 [I ak, .slice Aaq aq.length caq, Str an, I apt]] := hs3.call0 hs4'
     clear hs4'
     refine q trivial rfl rfl (pt (v := .bool (allowL zs (hostT ak aq an) apt)) rfl rfl) ?_
     refine q trivial rfl rfl (asg (v := .bool (allowL zs (hostT ak aq an) apt)) rfl) ?_
     refine nl ?_
     refine nN ?_
     refine rt ?_
     refine fret (v := .bool (allowL zs (hostT ak aq an) apt)) (.tmp .nil) rfl ?_
     have e1 : (allowL zs (hostT ak aq an) apt) = rulesAllow zs ak aq an apt := by first | (simp [rulesAllow, h1, h2]; done) | exact (rulesAllow_no (.inl (by assumption))).symm | exact (rulesAllow_no (.inr (by assumption))).symm
     exact ⟨(congrArg (Value.bool) e1), (hs4.pick [] rfl (by decide))⟩
   · refine gk false rfl rfl rfl rfl rfl ?_
     refine gk false rfl rfl rfl rfl rfl ?_
     refine gk false rfl rfl rfl rfl rfl ?_
     refine q trivial rfl rfl (pf (v := .bool false) rfl rfl) ?_
     refine q trivial rfl rfl (asg (v := .bool false) rfl) ?_
     refine nl ?_
     refine nN ?_
     refine rt ?_
     refine fret (v := .bool false) (.tmp .nil) rfl ?_
     have e2 : false = rulesAllow zs ak aq an apt := by first | (simp [rulesAllow, h1, h2]; done) | exact (rulesAllow_no (.inl (by assumption))).symm | exact (rulesAllow_no (.inr (by assumption))).symm
     exact ⟨(congrArg (Value.bool) e2), (hs3.pick [] rfl (by decide))⟩
 · refine gk false rfl rfl rfl rfl rfl ?_
   refine gk false rfl rfl rfl rfl rfl ?_
   refine q trivial rfl rfl (pf (v := .bool false) rfl rfl) ?_
   refine q trivial rfl rfl (mv (v := .bool false) rfl) ?_
   refine gk false rfl rfl rfl rfl rfl ?_
   refine gk false rfl rfl rfl rfl rfl ?_
   refine gk false rfl rfl rfl rfl rfl ?_
   refine q trivial rfl rfl (pf (v := .bool false) rfl rfl) ?_
   refine q trivial rfl rfl (asg (v := .bool false) rfl) ?_
   refine nl ?_
   refine nN ?_
   refine rt ?_
   refine fret (v := .bool false) (.tmp .nil) rfl ?_
   have e3 : false = rulesAllow zs ak aq an apt := by first | (simp [rulesAllow, h1]; done) | exact (rulesAllow_no (.inl (by assumption))).symm | exact (rulesAllow_no (.inr (by assumption))).symm
   exact ⟨(congrArg (Value.bool) e3), (hs2.pick [] rfl (by decide))⟩


end Go.Proofs.YtcgdccfofinheaaDoor
