/-
  Part of the proofs over this seat: what each function of the program computes, function by function (the text is written by a program of this hand-in's own).
  Conditions: each theorem states its own.
-/
import Derived.Test.YtjehmnojfpedjaaPfWalks
namespace Go.Proofs.Ytjehmnojfpedjaa
open Go.PF
set_option maxRecDepth 100000
set_option linter.unusedSimpArgs false
set_option linter.unusedVariables false

theorem sL4Ok (c : Int) (ak : Int) {Aaq : Option Addr} {caq : Nat} (aq : List Int) (an : List UInt8) (apt : Int) (us : List UInt8) (w : World) (haq : Sl w [] 1 Aaq aq.length caq (aq.map I)) (han_n : an.length ≤ 1099511627776) (hus_n : us.length ≤ 2147483648) : Does Try.prog 50 [.agg #[I c, I ak, .slice Aaq aq.length caq, Str an, I apt, Str us]] w (fun v w' => v = .bool (oldOk c ak aq an apt us) ∧ SH w w' [] []) := by
 refine fn_enter (N := 43) Try.func50 rfl (by kernel_rfl) rfl rfl rfl ?_
 have hs0 : SH w w [] [] := SH.refl w []
 have haq_m : aq.length ≤ 9223372036854775807 := Nat.le_trans haq.cap haq.capMax
 refine sq ?_
 refine rg ?_
 refine bx (v := .agg #[I c, I ak, .slice Aaq aq.length caq, Str an, I apt, Str us]) (cs := [I c, I ak, .slice Aaq aq.length caq, Str an, I apt, Str us]) hs0 rfl rfl trivial rfl (fun b1 w1 (hs1 : SH w w1 [] [.blk b1 54 [I c, I ak, .slice Aaq aq.length caq, Str an, I apt, Str us]]) => ?_)
 refine q trivial rfl rfl (asg (v := .bool false) rfl) ?_
 refine nl ?_
 refine nN ?_
 refine sq ?_
 refine sq ?_
 refine rg ?_
 refine q trivial rfl rfl (fa 0 fo54_0 rfl) ?_
 refine q trivial rfl rfl (ld (v := I c) hs1 0 rfl rfl rfl one3) ?_
 refine cl trivial rfl (sIn (x := c) (lo := 1) (hi := 2) (w := _)) ?_
 rintro _ w2 ⟨rfl, hs2'⟩
 have hs2 : SH w w2 [] [.blk b1 54 [I c, I ak, .slice Aaq aq.length caq, Str an, I apt, Str us]] := hs1.call0 hs2'
 clear hs2'
 refine q trivial rfl rfl (nd (p := 1 ≤ c ∧ c ≤ 2) rfl) ?_
 refine q trivial rfl rfl (mv (v := .bool (decide (¬ (1 ≤ c ∧ c ≤ 2)))) rfl) ?_
 refine spd (p := ¬ (1 ≤ c ∧ c ≤ 2)) 7 rfl (fun h1 => ?_) (fun h1 => ?_)
 · refine gk true rfl rfl rfl rfl rfl ?_
   refine gk true rfl rfl rfl rfl rfl ?_
   refine gk true rfl rfl rfl rfl rfl ?_
   refine gk true rfl rfl rfl rfl rfl ?_
   refine q trivial rfl rfl (pt (v := .bool true) rfl rfl) ?_
   refine q trivial rfl rfl (mv (v := .bool true) rfl) ?_
   refine gk true rfl rfl rfl rfl rfl ?_
   refine gk true rfl rfl rfl rfl rfl ?_
   refine gk true rfl rfl rfl rfl rfl ?_
   refine gk true rfl rfl rfl rfl rfl ?_
   refine q trivial rfl rfl (pt (v := .bool true) rfl rfl) ?_
   refine nl ?_
   refine nN ?_
   refine cdt rfl ?_
   refine sq ?_
   refine rg ?_
   refine q trivial rfl rfl (asg (v := .bool false) rfl) ?_
   refine nl ?_
   refine nN ?_
   refine rt (tR ?_)
   refine fret (v := .bool false) (.tmp .nil) rfl ?_
   have e1 : false = oldOk c ak aq an apt us := by first | exact (oldOk_3 (by first | assumption | exact Decidable.not_not.1 (by assumption)) (by assumption) (by assumption) (by assumption)).symm | exact (oldOk_1s (by first | assumption | exact Decidable.not_not.1 (by assumption)) (by assumption) (by assumption) (by assumption)).symm | (simp [oldOk, h1]; done) | (have hq4 := addr_quad4 (by assumption : addrOk ak aq an apt = true) (by assumption); unfold oldOk; rw [take3_zero hq4.1 hq4.2]; simp [h1]; done) | (simp [oldOk, h1] <;> omega)
   exact ⟨(congrArg (Value.bool) e1), (hs2.pick [] rfl (by decide))⟩
 · refine q ⟨_, rfl, rfl⟩ rfl rfl (fa 1 fo54_1 rfl) ?_
   refine q ⟨_, rfl, rfl⟩ rfl rfl (ldg (vs := [I ak, .slice Aaq aq.length caq, Str an, I apt]) hs2 0 rfl rfl rfl rfl ag52) ?_
   refine cl ⟨_, rfl, rfl⟩ rfl (sAddressValid (ak := ak) (Aaq := Aaq) (caq := caq) (aq := aq) (an := an) (apt := apt) (w := _) (haq := (haq.up0 hs2)) (han_n := (by first | (first | omega | (simp; done) | (simp; omega)) | (have h4_ := (addr_quad4 (by assumption : addrOk ak aq an apt = true) (by assumption)).1; first | omega | (simp; done) | (simp; omega))))) ?_
   rintro _ w3 ⟨rfl, hs3'⟩
   have hs3 : SH w w3 [] [.blk b1 54 [I c, I ak, .slice Aaq aq.length caq, Str an, I apt, Str us]] := hs2.call0 hs3'
   clear hs3'
   refine q ⟨_, rfl, rfl⟩ rfl rfl (nt (b := addrOk ak aq an apt) rfl) ?_
   refine q trivial rfl rfl (pf (v := .bool (!(addrOk ak aq an apt))) rfl rfl) ?_
   refine q trivial rfl rfl (mv (v := .bool (!(addrOk ak aq an apt))) rfl) ?_
   refine spl (b := !(addrOk ak aq an apt)) 13 rfl (fun h2 => ?_) (fun h2 => ?_)
   · have h3 : (addrOk ak aq an apt) = false := by simpa using h2
     refine gk true rfl rfl rfl rfl rfl ?_
     refine gk true rfl rfl rfl rfl rfl ?_
     refine gk true rfl rfl rfl rfl rfl ?_
     refine gk true rfl rfl rfl rfl rfl ?_
     refine q trivial rfl rfl (pt (v := .bool true) rfl rfl) ?_
     refine nl ?_
     refine nN ?_
     refine cdt rfl ?_
     refine sq ?_
     refine rg ?_
     refine q trivial rfl rfl (asg (v := .bool false) rfl) ?_
     refine nl ?_
     refine nN ?_
     refine rt (tR ?_)
     refine fret (v := .bool false) (.tmp .nil) rfl ?_
     have e2 : false = oldOk c ak aq an apt us := by first | exact (oldOk_3 (by first | assumption | exact Decidable.not_not.1 (by assumption)) (by assumption) (by assumption) (by assumption)).symm | exact (oldOk_1s (by first | assumption | exact Decidable.not_not.1 (by assumption)) (by assumption) (by assumption) (by assumption)).symm | (simp [oldOk, h1, h3]; done) | (have hq4 := addr_quad4 (by assumption : addrOk ak aq an apt = true) (by assumption); unfold oldOk; rw [take3_zero hq4.1 hq4.2]; simp [h1, h3]; done) | (simp [oldOk, h1, h3] <;> omega)
     exact ⟨(congrArg (Value.bool) e2), (hs3.pick [] rfl (by decide))⟩
   · have h4 : (addrOk ak aq an apt) = true := by simpa using h2
     refine q ⟨_, rfl, rfl⟩ rfl rfl (fa 5 fo54_2 rfl) ?_
     refine q ⟨_, rfl, rfl⟩ rfl rfl (ld (v := Str us) hs3 0 rfl rfl rfl one9) ?_
     refine cl ⟨_, rfl, rfl⟩ rfl (sUserValid (s := us) (w := _) (hs_n := (by first | (first | omega | (simp; done) | (simp; omega)) | (have h4_ := (addr_quad4 (by assumption : addrOk ak aq an apt = true) (by assumption)).1; first | omega | (simp; done) | (simp; omega))))) ?_
     rintro _ w4 ⟨rfl, hs4'⟩
     have hs4 : SH w w4 [] [.blk b1 54 [I c, I ak, .slice Aaq aq.length caq, Str an, I apt, Str us]] := hs3.call0 hs4'
     clear hs4'
     refine q ⟨_, rfl, rfl⟩ rfl rfl (nt (b := userOk us) rfl) ?_
     refine q trivial rfl rfl (pf (v := .bool (!(userOk us))) rfl rfl) ?_
     refine nl ?_
     refine nN ?_
     refine cd (b := !(userOk us)) rfl (fun h5 => ?_) (fun h5 => ?_)
     · have h6 : (userOk us) = false := by simpa using h5
       refine sq ?_
       refine rg ?_
       refine q trivial rfl rfl (asg (v := .bool false) rfl) ?_
       refine nl ?_
       refine nN ?_
       refine rt (tR ?_)
       refine fret (v := .bool false) (.tmp .nil) rfl ?_
       have e3 : false = oldOk c ak aq an apt us := by first | exact (oldOk_3 (by first | assumption | exact Decidable.not_not.1 (by assumption)) (by assumption) (by assumption) (by assumption)).symm | exact (oldOk_1s (by first | assumption | exact Decidable.not_not.1 (by assumption)) (by assumption) (by assumption) (by assumption)).symm | (simp [oldOk, h1, h4, h6]; done) | (have hq4 := addr_quad4 (by assumption : addrOk ak aq an apt = true) (by assumption); unfold oldOk; rw [take3_zero hq4.1 hq4.2]; simp [h1, h4, h6]; done) | (simp [oldOk, h1, h4, h6] <;> omega)
       exact ⟨(congrArg (Value.bool) e3), (hs4.pick [] rfl (by decide))⟩
     · have h7 : (userOk us) = true := by simpa using h5
       refine sk ?_
       refine nN ?_
       refine sq ?_
       refine rq (fun w' => SH w w' [] [.blk b1 54 [I c, I ak, .slice Aaq aq.length caq, Str an, I apt, Str us]]) mixed (by kernel_rfl) hs4.drew ?_
       refine qq trivial rfl rfl (fun wq hsq => fa 1 fo54_1 rfl) ?_
       refine qq trivial rfl rfl (fun wq hsq => fa 0 fo52_0 rfl) ?_
       refine qq trivial rfl rfl (fun wq hsq => ld (v := I ak) hsq 0 rfl rfl rfl one3) ?_
       refine qq trivial rfl rfl (fun wq hsq => eqi (k := .i64) (a := ak) (b := 3) rfl rfl) ?_
       refine qq trivial rfl rfl (fun wq hsq => mv (v := .bool (decide (ak = 3))) rfl) ?_
       refine qspd (p := ak = 3) 23 rfl (fun h8 => ?_) (fun h8 => ?_)
       · refine qk true rfl rfl rfl rfl rfl ?_
         refine qk true rfl rfl rfl rfl rfl ?_
         refine qk true rfl rfl rfl rfl rfl ?_
         refine qk true rfl rfl rfl rfl rfl ?_
         refine qk true rfl rfl rfl rfl rfl ?_
         refine qk true rfl rfl rfl rfl rfl ?_
         refine qk true rfl rfl rfl rfl rfl ?_
         refine qk true rfl rfl rfl rfl rfl ?_
         refine qk true rfl rfl rfl rfl rfl ?_
         refine qk true rfl rfl rfl rfl rfl ?_
         refine qk true rfl rfl rfl rfl rfl ?_
         refine qk true rfl rfl rfl rfl rfl ?_
         refine qk true rfl rfl rfl rfl rfl ?_
         refine qk true rfl rfl rfl rfl rfl ?_
         refine qk true rfl rfl rfl rfl rfl ?_
         refine qk true rfl rfl rfl rfl rfl ?_
         refine qk true rfl rfl rfl rfl rfl ?_
         refine qk true rfl rfl rfl rfl rfl ?_
         refine qq trivial rfl rfl (fun wq hsq => pt (v := .bool true) rfl rfl) ?_
         refine qq trivial rfl rfl (fun wq hsq => asg (v := .bool true) rfl) ?_
         refine qn (fun w5 hs5 => ?_)
         refine nN ?_
         refine rt ?_
         refine fret (v := .bool true) (.tmp .nil) rfl ?_
         have e4 : true = oldOk c ak aq an apt us := by first | exact (oldOk_3 (by first | assumption | exact Decidable.not_not.1 (by assumption)) (by assumption) (by assumption) (by assumption)).symm | exact (oldOk_1s (by first | assumption | exact Decidable.not_not.1 (by assumption)) (by assumption) (by assumption) (by assumption)).symm | (simp [oldOk, h1, h4, h7, h8]; done) | (have hq4 := addr_quad4 (by assumption : addrOk ak aq an apt = true) (by assumption); unfold oldOk; rw [take3_zero hq4.1 hq4.2]; simp [h1, h4, h7, h8]; done) | (simp [oldOk, h1, h4, h7, h8] <;> omega)
         exact ⟨(congrArg (Value.bool) e4), (hs5.pick [] rfl (by decide))⟩
       · refine qq ⟨_, rfl, rfl⟩ rfl rfl (fun wq hsq => fa 1 fo54_1 rfl) ?_
         refine qq ⟨_, rfl, rfl⟩ rfl rfl (fun wq hsq => fa 1 fo52_1 rfl) ?_
         refine qq ⟨_, rfl, rfl⟩ rfl rfl (fun wq hsq => ld (v := .slice Aaq aq.length caq) hsq 0 rfl rfl rfl one24) ?_
         refine ixq1 0 sl24 rfl rfl haq (by first | (first | omega | (simp; done) | (simp; omega)) | (have h4_ := (addr_quad4 (by assumption : addrOk ak aq an apt = true) (by assumption)).1; first | omega | (simp; done) | (simp; omega))) (getm I 0 (by first | (first | omega | (simp; done) | (simp; omega)) | (have h4_ := (addr_quad4 (by assumption : addrOk ak aq an apt = true) (by assumption)).1; first | omega | (simp; done) | (simp; omega)))) ⟨_, rfl, rfl⟩ rfl (fun a1 ha1 => ?_)
         refine qq ⟨_, rfl, rfl⟩ rfl rfl (fun wq hsq => lda (v := I (aq.getD 0 0)) hsq ha1 (fun _ h => h) rfl rfl one3) ?_
         refine qq ⟨_, rfl, rfl⟩ rfl rfl (fun wq hsq => fa 1 fo54_1 rfl) ?_
         refine qq ⟨_, rfl, rfl⟩ rfl rfl (fun wq hsq => fa 1 fo52_1 rfl) ?_
         refine qq ⟨_, rfl, rfl⟩ rfl rfl (fun wq hsq => ld (v := .slice Aaq aq.length caq) hsq 0 rfl rfl rfl one24) ?_
         refine ixq1 1 sl24 rfl rfl haq (by first | (first | omega | (simp; done) | (simp; omega)) | (have h4_ := (addr_quad4 (by assumption : addrOk ak aq an apt = true) (by assumption)).1; first | omega | (simp; done) | (simp; omega))) (getm I 0 (by first | (first | omega | (simp; done) | (simp; omega)) | (have h4_ := (addr_quad4 (by assumption : addrOk ak aq an apt = true) (by assumption)).1; first | omega | (simp; done) | (simp; omega)))) ⟨_, rfl, rfl⟩ rfl (fun a2 ha2 => ?_)
         refine qq ⟨_, rfl, rfl⟩ rfl rfl (fun wq hsq => lda (v := I (aq.getD 1 0)) hsq ha2 (fun _ h => h) rfl rfl one3) ?_
         refine qq ⟨_, rfl, rfl⟩ rfl rfl (fun wq hsq => add (a := aq.getD 0 0) (b := aq.getD 1 0) rfl rfl (by (have hq4 := addr_quad4 (by assumption : addrOk ak aq an apt = true) (by assumption); have g0 := isBytes_get hq4.2 (k := 0) (by omega); have g1 := isBytes_get hq4.2 (k := 1) (by omega); have g2 := isBytes_get hq4.2 (k := 2) (by omega); exact ⟨by omega, by omega⟩))) ?_
         refine qq ⟨_, rfl, rfl⟩ rfl rfl (fun wq hsq => fa 1 fo54_1 rfl) ?_
         refine qq ⟨_, rfl, rfl⟩ rfl rfl (fun wq hsq => fa 1 fo52_1 rfl) ?_
         refine qq ⟨_, rfl, rfl⟩ rfl rfl (fun wq hsq => ld (v := .slice Aaq aq.length caq) hsq 0 rfl rfl rfl one24) ?_
         refine ixq1 2 sl24 rfl rfl haq (by first | (first | omega | (simp; done) | (simp; omega)) | (have h4_ := (addr_quad4 (by assumption : addrOk ak aq an apt = true) (by assumption)).1; first | omega | (simp; done) | (simp; omega))) (getm I 0 (by first | (first | omega | (simp; done) | (simp; omega)) | (have h4_ := (addr_quad4 (by assumption : addrOk ak aq an apt = true) (by assumption)).1; first | omega | (simp; done) | (simp; omega)))) ⟨_, rfl, rfl⟩ rfl (fun a3 ha3 => ?_)
         refine qq ⟨_, rfl, rfl⟩ rfl rfl (fun wq hsq => lda (v := I (aq.getD 2 0)) hsq ha3 (fun _ h => h) rfl rfl one3) ?_
         refine qq ⟨_, rfl, rfl⟩ rfl rfl (fun wq hsq => add (a := (aq.getD 0 0) + (aq.getD 1 0)) (b := aq.getD 2 0) rfl rfl (by (have hq4 := addr_quad4 (by assumption : addrOk ak aq an apt = true) (by assumption); have g0 := isBytes_get hq4.2 (k := 0) (by omega); have g1 := isBytes_get hq4.2 (k := 1) (by omega); have g2 := isBytes_get hq4.2 (k := 2) (by omega); exact ⟨by omega, by omega⟩))) ?_
         refine qq ⟨_, rfl, rfl⟩ rfl rfl (fun wq hsq => gtr (k := .i64) (a := ((aq.getD 0 0) + (aq.getD 1 0)) + (aq.getD 2 0)) (b := 0) rfl rfl) ?_
         refine qq trivial rfl rfl (fun wq hsq => pf (v := .bool (decide ((0 : Int) < (((aq.getD 0 0) + (aq.getD 1 0)) + (aq.getD 2 0))))) rfl rfl) ?_
         refine qq trivial rfl rfl (fun wq hsq => asg (v := .bool (decide ((0 : Int) < (((aq.getD 0 0) + (aq.getD 1 0)) + (aq.getD 2 0))))) rfl) ?_
         refine qn (fun w6 hs6 => ?_)
         refine nN ?_
         refine rt ?_
         refine fret (v := .bool (decide ((0 : Int) < (((aq.getD 0 0) + (aq.getD 1 0)) + (aq.getD 2 0))))) (.tmp .nil) rfl ?_
         have e5 : (decide ((0 : Int) < (((aq.getD 0 0) + (aq.getD 1 0)) + (aq.getD 2 0)))) = oldOk c ak aq an apt us := by first | exact (oldOk_3 (by first | assumption | exact Decidable.not_not.1 (by assumption)) (by assumption) (by assumption) (by assumption)).symm | exact (oldOk_1s (by first | assumption | exact Decidable.not_not.1 (by assumption)) (by assumption) (by assumption) (by assumption)).symm | (simp [oldOk, h1, h4, h7, h8]; done) | (have hq4 := addr_quad4 (by assumption : addrOk ak aq an apt = true) (by assumption); unfold oldOk; rw [take3_zero hq4.1 hq4.2]; simp [h1, h4, h7, h8]; done) | (simp [oldOk, h1, h4, h7, h8] <;> omega)
         exact ⟨(congrArg (Value.bool) e5), (hs6.pick [] rfl (by decide))⟩

set_option maxHeartbeats 8000000 in
theorem sL4Bytes (c : Int) (ak : Int) {Aaq : Option Addr} {caq : Nat} (aq : List Int) (an : List UInt8) (apt : Int) (us : List UInt8) (w : World) (haq : Sl w [] 1 Aaq aq.length caq (aq.map I)) (han_n : an.length ≤ 1099511627776) (hus_n : us.length ≤ 2147483648) (hok : oldOk c ak aq an apt us = true) : Does Try.prog 51 [.agg #[I c, I ak, .slice Aaq aq.length caq, Str an, I apt, Str us]] w (fun v w' => ∃ Ar : Option Addr, ∃ cr : Nat, v = .slice Ar (oldB c ak aq an apt us).length cr ∧ SH w w' [] [.own Ar ((oldB c ak aq an apt us).length) cr 3 1 ((oldB c ak aq an apt us).map I)]) := by
 refine fn_enter (N := 46) Try.func51 rfl (by kernel_rfl) rfl rfl rfl ?_
 have hs0 : SH w w [] [] := SH.refl w []
 have haq_m : aq.length ≤ 9223372036854775807 := Nat.le_trans haq.cap haq.capMax
 refine sq ?_
 refine rg ?_
 refine bx (v := .agg #[I c, I ak, .slice Aaq aq.length caq, Str an, I apt, Str us]) (cs := [I c, I ak, .slice Aaq aq.length caq, Str an, I apt, Str us]) hs0 rfl rfl trivial rfl (fun b1 w1 (hs1 : SH w w1 [] [.blk b1 54 [I c, I ak, .slice Aaq aq.length caq, Str an, I apt, Str us]]) => ?_)
 refine q trivial rfl rfl (asg (v := ns) rfl) ?_
 refine nl ?_
 refine nN ?_
 refine sq ?_
 refine raJ (fun w' => ∃ L, SH w w' [] L ∧ (.blk b1 54 [I c, I ak, .slice Aaq aq.length caq, Str an, I apt, Str us]) ∈ L ∧ True) (fun f w' => ∃ (A6' : Option Addr) (c6' : Nat) (A7' : Option Addr) (c7' : Nat), Has f [(1, pB b1), (3, .slice A7' ((([4, c] : List Int) ++ (numB apt)).length) c7')] ∧ SH w w' [] [.blk b1 54 [I c, I ak, .slice Aaq aq.length caq, Str an, I apt, Str us], .own A7' ((([4, c] : List Int) ++ (numB apt)).length) c7' 3 1 ((([4, c] : List Int) ++ (numB apt)).map I), .own A6' ((numB apt).length) c6' 3 1 ((numB apt).map I)]) mixed ?_ ?_
 · refine dag (fuel' := 2) (listed' := lbits 9 127) (fun f w' => ∃ (b2' : Nat) (A6' : Option Addr) (c6' : Nat), Has f [(1, pB b1), (6, sb b2' (([4, c] : List Int).length) 2), (10, .slice A6' ((numB apt).length) c6')] ∧ SH w w' [] [.blk b1 54 [I c, I ak, .slice Aaq aq.length caq, Str an, I apt, Str us], oI b2' ([4, c] : List Int) 2 3, .own A6' ((numB apt).length) c6' 3 1 ((numB apt).map I)]) ?_ (fun D_1_0 => ?_)
   · rintro f w2 ⟨b2', A6', c6', hf, hs2⟩
     obtain ⟨g1, rfl⟩ := has_upd hf
     clear hf
     refine aaL [7] (fa_one ?_)
     refine one_ rfl ?_
     refine apm (g := I) (ys := ([4, c] : List Int)) (zs := numB apt) hs2 1 rfl sl24 rfl rfl rfl (hs2.sl0 2 rfl) (fun _ => rfl) (by unfold maxLen; have hop := oldOk_parts hok; have haf := addr_fit2 hop.2.1; have hap := addrOk_fit hop.2.1; have hul := userOk_len hop.2.2.1; have htn := textI_len an; have htu := textI_len us; have hnb : (numB apt).length = 2 := rfl; simp only [List.length_append, List.length_cons, List.length_nil]; omega) (by have hop := oldOk_parts hok; have haf := addr_fit2 hop.2.1; have hap := addrOk_fit hop.2.1; have hul := userOk_len hop.2.2.1; have htn := textI_len an; have htu := textI_len us; have hnb : (numB apt).length = 2 := rfl; simp only [List.length_append, List.length_cons, List.length_nil]; omega) trivial rfl (fun A7' c7' w3 hs3 => ?_)
     refine nl (kq ⟨_, hs3, memi 0 rfl, trivial⟩ ?_)
     refine tk (fuel := 0) (is := [8]) (.cons rfl (.nil)) (by kernel_rfl) (by kernel_rfl) ⟨_, hs3, memi 0 rfl, trivial⟩ ?_
     refine .op trivial rfl rfl (fun wq _ => asg (v := .slice A7' ((([4, c] : List Int) ++ (numB apt)).length) c7') rfl) ?_
     refine .nil ?_
     refine ad (by kernel_rfl) ?_
     exact ⟨A6', c6', A7', c7', ⟨rfl, rfl, trivial⟩, (hs3.pick [0, 2, 1] rfl (by decide))⟩
   refine dag (fuel' := 3) (listed' := lbits 9 63) (fun f w' => ∃ (b2' : Nat), Has f [(1, pB b1), (6, sb b2' (([4, c] : List Int).length) 2), (9, I apt)] ∧ SH w w' [] [.blk b1 54 [I c, I ak, .slice Aaq aq.length caq, Str an, I apt, Str us], oI b2' ([4, c] : List Int) 2 3]) ?_ (fun D_1_1 => ?_)
   · rintro f w4 ⟨b2', hf, hs4⟩
     obtain ⟨g2, rfl⟩ := has_upd hf
     clear hf
     refine aaL [6] (fa_one ?_)
     refine one_ rfl ?_
     refine cl trivial rfl (sL1Number (n := apt) (w := _) (hn := (by have hop := oldOk_parts hok; have haf := addr_fit2 hop.2.1; have hap := addrOk_fit hop.2.1; have hul := userOk_len hop.2.2.1; have htn := textI_len an; have htu := textI_len us; have hnb : (numB apt).length = 2 := rfl; omega))) ?_
     rintro _ w5 ⟨A6', c6', rfl, hs5'⟩
     have hs5 := hs4.call0 hs5'
     clear hs5'
     exact nl (kq ⟨_, hs5, memi 0 rfl, trivial⟩ (alc D_1_0 ⟨b2', A6', c6', ⟨rfl, rfl, rfl, trivial⟩, hs5⟩))
   refine dag (fuel' := 3) (listed' := lbits 9 123) (fun f w' => ∃ (A6' : Option Addr) (c6' : Nat), Has f [(1, pB b1), (5, I c), (10, .slice A6' ((numB apt).length) c6')] ∧ SH w w' [] [.blk b1 54 [I c, I ak, .slice Aaq aq.length caq, Str an, I apt, Str us], .own A6' ((numB apt).length) c6' 3 1 ((numB apt).map I)]) ?_ (fun D_1_2 => ?_)
   · rintro f w6 ⟨A6', c6', hf, hs6⟩
     obtain ⟨g3, rfl⟩ := has_upd hf
     clear hf
     refine aaL [2] (fa_one ?_)
     refine one_ rfl ?_
     refine bsk hs6 sl24 [I 4, I c] [I 4, I c] trivial rfl (fun b2' w7 hs7 => ?_)
     exact nl (kq ⟨_, hs7, memi 0 rfl, trivial⟩ (alc D_1_0 ⟨b2', A6', c6', ⟨rfl, rfl, rfl, trivial⟩, (hs7.pick [0, 2, 1] rfl (by decide))⟩))
   refine dag (fuel' := 4) (listed' := lbits 9 59) (fun f w' => Has f [(1, pB b1), (5, I c), (9, I apt)] ∧ SH w w' [] [.blk b1 54 [I c, I ak, .slice Aaq aq.length caq, Str an, I apt, Str us]]) ?_ (fun D_1_3 => ?_)
   · rintro f w8 ⟨hf, hs8⟩
     obtain ⟨g4, rfl⟩ := has_upd hf
     clear hf
     refine aaL [2, 6] (fa_cons ?_ (fa_one ?_))
     · refine one_ rfl ?_
       refine bsk hs8 sl24 [I 4, I c] [I 4, I c] trivial rfl (fun b2' w9 hs9 => ?_)
       exact nl (kq ⟨_, hs9, memi 0 rfl, trivial⟩ (alc D_1_1 ⟨b2', ⟨rfl, rfl, rfl, trivial⟩, hs9⟩))
     · refine one_ rfl ?_
       refine cl trivial rfl (sL1Number (n := apt) (w := _) (hn := (by have hop := oldOk_parts hok; have haf := addr_fit2 hop.2.1; have hap := addrOk_fit hop.2.1; have hul := userOk_len hop.2.2.1; have htn := textI_len an; have htu := textI_len us; have hnb : (numB apt).length = 2 := rfl; omega))) ?_
       rintro _ w10 ⟨A6', c6', rfl, hs10'⟩
       have hs10 := hs8.call0 hs10'
       clear hs10'
       exact nl (kq ⟨_, hs10, memi 0 rfl, trivial⟩ (alc D_1_2 ⟨A6', c6', ⟨rfl, rfl, rfl, trivial⟩, hs10⟩))
   have hs11 := hs1.drew
   refine tk (fuel := 4) (is := [0, 1, 3, 4, 5]) (.cons rfl (.cons rfl (.cons rfl (.cons rfl (.cons rfl (.nil)))))) (by kernel_rfl) (by kernel_rfl) ⟨_, hs11, memi 0 rfl, trivial⟩ ?_
   refine .op trivial rfl rfl (fun wq _ => fa 0 fo54_0 rfl) ?_
   refine .op trivial rfl rfl (fun wq ⟨Lq, hsq, mh0, _⟩ => ldm (v := I c) hsq mh0 rfl rfl one3) ?_
   refine .op trivial rfl rfl (fun wq _ => fa 1 fo54_1 rfl) ?_
   refine .op trivial rfl rfl (fun wq _ => fa 3 fo52_3 rfl) ?_
   refine .op trivial rfl rfl (fun wq ⟨Lq, hsq, mh0, _⟩ => ldm (v := I apt) hsq mh0 rfl rfl one3) ?_
   refine .nil ?_
   exact alc D_1_3 ⟨⟨rfl, rfl, rfl, trivial⟩, hs11⟩
 rintro f w11 ⟨A6', c6', A7', c7', hf, hs12⟩
 obtain ⟨g5, rfl⟩ := has_upd hf
 clear hf
 refine nN ?_
 refine sq ?_
 refine sq ?_
 refine rg ?_
 refine q trivial rfl rfl (fa 1 fo54_1 rfl) ?_
 refine q trivial rfl rfl (fa 0 fo52_0 rfl) ?_
 refine q trivial rfl rfl (ld (v := I ak) hs12 0 rfl rfl rfl one3) ?_
 refine q trivial rfl rfl (eqi (k := .i64) (a := ak) (b := 1) rfl rfl) ?_
 refine nl ?_
 refine nN ?_
 refine cdd (p := ak = 1) rfl (fun h1 => ?_) (fun h1 => ?_)
 · refine rg ?_
   refine q trivial rfl rfl (mv (v := .slice A7' ((([4, c] : List Int) ++ (numB apt)).length) c7') rfl) ?_
   refine q trivial rfl rfl (fa 1 fo54_1 rfl) ?_
   refine q trivial rfl rfl (fa 1 fo52_1 rfl) ?_
   refine q trivial rfl rfl (ld (v := .slice Aaq aq.length caq) hs12 0 rfl rfl rfl one24) ?_
   refine apm (g := I) (ys := ([4, c] : List Int) ++ (numB apt)) (zs := aq) hs12 1 rfl sl24 rfl rfl rfl (haq.up0 hs12) (fun _ => rfl) (by unfold maxLen; have hop := oldOk_parts hok; have haf := addr_fit2 hop.2.1; have hap := addrOk_fit hop.2.1; have hul := userOk_len hop.2.2.1; have htn := textI_len an; have htu := textI_len us; have hnb : (numB apt).length = 2 := rfl; simp only [List.length_append, List.length_cons, List.length_nil]; omega) (by have hop := oldOk_parts hok; have haf := addr_fit2 hop.2.1; have hap := addrOk_fit hop.2.1; have hul := userOk_len hop.2.2.1; have htn := textI_len an; have htu := textI_len us; have hnb : (numB apt).length = 2 := rfl; simp only [List.length_append, List.length_cons, List.length_nil]; omega) trivial rfl (fun A1 c1 w12 (hs13 : SH w w12 [] [.blk b1 54 [I c, I ak, .slice Aaq aq.length caq, Str an, I apt, Str us], .own A6' ((numB apt).length) c6' 3 1 ((numB apt).map I), .own A1 (((([4, c] : List Int) ++ (numB apt)) ++ aq).length) c1 3 1 (((([4, c] : List Int) ++ (numB apt)) ++ aq).map I)]) => ?_)
   refine q trivial rfl rfl (asg (v := .slice A1 (((([4, c] : List Int) ++ (numB apt)) ++ aq).length) c1) rfl) ?_
   refine nl ?_
   refine nN ?_
   refine sq ?_
   refine rg ?_
   refine q trivial rfl rfl (mv (v := .slice A1 (((([4, c] : List Int) ++ (numB apt)) ++ aq).length) c1) rfl) ?_
   refine q trivial rfl rfl (fa 5 fo54_2 rfl) ?_
   refine q trivial rfl rfl (ld (v := Str us) hs13 0 rfl rfl rfl one9) ?_
   refine cl trivial rfl (sL1Text (s := us) (w := _) (hs_n := (by first | (first | omega | (simp; done) | (simp; omega)) | (have hop := oldOk_parts hok; have haf := addr_fit2 hop.2.1; have hap := addrOk_fit hop.2.1; have hul := userOk_len hop.2.2.1; have htn := textI_len an; have htu := textI_len us; have hnb : (numB apt).length = 2 := rfl; first | omega | (simp; done) | (simp; omega))))) ?_
   rintro _ w13 ⟨A2, c2, rfl, hs14'⟩
   have hs14 : SH w w13 [] [.blk b1 54 [I c, I ak, .slice Aaq aq.length caq, Str an, I apt, Str us], .own A6' ((numB apt).length) c6' 3 1 ((numB apt).map I), .own A1 (((([4, c] : List Int) ++ (numB apt)) ++ aq).length) c1 3 1 (((([4, c] : List Int) ++ (numB apt)) ++ aq).map I), .own A2 ((textI us).length) c2 3 1 ((textI us).map I)] := hs13.call0 hs14'
   clear hs14'
   refine apm (g := I) (ys := (([4, c] : List Int) ++ (numB apt)) ++ aq) (zs := textI us) hs14 2 rfl sl24 rfl rfl rfl (hs14.sl0 3 rfl) (fun _ => rfl) (by unfold maxLen; have hop := oldOk_parts hok; have haf := addr_fit2 hop.2.1; have hap := addrOk_fit hop.2.1; have hul := userOk_len hop.2.2.1; have htn := textI_len an; have htu := textI_len us; have hnb : (numB apt).length = 2 := rfl; simp only [List.length_append, List.length_cons, List.length_nil]; omega) (by have hop := oldOk_parts hok; have haf := addr_fit2 hop.2.1; have hap := addrOk_fit hop.2.1; have hul := userOk_len hop.2.2.1; have htn := textI_len an; have htu := textI_len us; have hnb : (numB apt).length = 2 := rfl; simp only [List.length_append, List.length_cons, List.length_nil]; omega) trivial rfl (fun A3 c3 w14 (hs15 : SH w w14 [] [.blk b1 54 [I c, I ak, .slice Aaq aq.length caq, Str an, I apt, Str us], .own A6' ((numB apt).length) c6' 3 1 ((numB apt).map I), .own A2 ((textI us).length) c2 3 1 ((textI us).map I), .own A3 ((((([4, c] : List Int) ++ (numB apt)) ++ aq) ++ (textI us)).length) c3 3 1 ((((([4, c] : List Int) ++ (numB apt)) ++ aq) ++ (textI us)).map I)]) => ?_)
   refine q trivial rfl rfl (asg (v := .slice A3 ((((([4, c] : List Int) ++ (numB apt)) ++ aq) ++ (textI us)).length) c3) rfl) ?_
   refine nl ?_
   refine nN ?_
   have hs16 : SH w w14 [] [.blk b1 54 [I c, I ak, .slice Aaq aq.length caq, Str an, I apt, Str us], .own A3 ((((([4, c] : List Int) ++ (numB apt)) ++ aq) ++ (textI us)).length) c3 3 1 ((((([4, c] : List Int) ++ (numB apt)) ++ aq) ++ (textI us)).map I)] := hs15.pick [0, 3] rfl (by decide)
   refine sq ?_
   refine rg ?_
   refine q trivial rfl rfl (mv (v := .slice A3 ((((([4, c] : List Int) ++ (numB apt)) ++ aq) ++ (textI us)).length) c3) rfl) ?_
   refine bsk hs16 sl24 [I 0] [I 0] trivial rfl (fun b2 w15 (hs17 : SH w w15 [] [.blk b1 54 [I c, I ak, .slice Aaq aq.length caq, Str an, I apt, Str us], .own A3 ((((([4, c] : List Int) ++ (numB apt)) ++ aq) ++ (textI us)).length) c3 3 1 ((((([4, c] : List Int) ++ (numB apt)) ++ aq) ++ (textI us)).map I), oI b2 ([0] : List Int) 1 3]) => ?_)
   refine apm (g := I) (ys := ((([4, c] : List Int) ++ (numB apt)) ++ aq) ++ (textI us)) (zs := ([0] : List Int)) hs17 1 rfl sl24 rfl rfl rfl (hs17.sl0 2 rfl) (fun _ => rfl) (by unfold maxLen; have hop := oldOk_parts hok; have haf := addr_fit2 hop.2.1; have hap := addrOk_fit hop.2.1; have hul := userOk_len hop.2.2.1; have htn := textI_len an; have htu := textI_len us; have hnb : (numB apt).length = 2 := rfl; simp only [List.length_append, List.length_cons, List.length_nil]; omega) (by have hop := oldOk_parts hok; have haf := addr_fit2 hop.2.1; have hap := addrOk_fit hop.2.1; have hul := userOk_len hop.2.2.1; have htn := textI_len an; have htu := textI_len us; have hnb : (numB apt).length = 2 := rfl; simp only [List.length_append, List.length_cons, List.length_nil]; omega) trivial rfl (fun A4 c4 w16 (hs18 : SH w w16 [] [.blk b1 54 [I c, I ak, .slice Aaq aq.length caq, Str an, I apt, Str us], oI b2 ([0] : List Int) 1 3, .own A4 (((((([4, c] : List Int) ++ (numB apt)) ++ aq) ++ (textI us)) ++ ([0] : List Int)).length) c4 3 1 (((((([4, c] : List Int) ++ (numB apt)) ++ aq) ++ (textI us)) ++ ([0] : List Int)).map I)]) => ?_)
   refine q trivial rfl rfl (asg (v := .slice A4 (((((([4, c] : List Int) ++ (numB apt)) ++ aq) ++ (textI us)) ++ ([0] : List Int)).length) c4) rfl) ?_
   refine nl ?_
   refine nN ?_
   refine sq ?_
   refine sq ?_
   refine rg ?_
   refine q trivial rfl rfl (fa 1 fo54_1 rfl) ?_
   refine q trivial rfl rfl (fa 0 fo52_0 rfl) ?_
   refine q trivial rfl rfl (ld (v := I ak) hs18 0 rfl rfl rfl one3) ?_
   refine q trivial rfl rfl (eqi (k := .i64) (a := ak) (b := 3) rfl rfl) ?_
   refine nl ?_
   refine nN ?_
   refine cdd (p := ak = 3) rfl (fun h2 => ?_) (fun h2 => ?_)
   · refine sq ?_
     refine rg ?_
     refine q trivial rfl rfl (mv (v := .slice A4 (((((([4, c] : List Int) ++ (numB apt)) ++ aq) ++ (textI us)) ++ ([0] : List Int)).length) c4) rfl) ?_
     refine q trivial rfl rfl (fa 1 fo54_1 rfl) ?_
     refine q trivial rfl rfl (fa 2 fo52_2 rfl) ?_
     refine q trivial rfl rfl (ld (v := Str an) hs18 0 rfl rfl rfl one9) ?_
     refine cl trivial rfl (sL1Text (s := an) (w := _) (hs_n := (by first | (first | omega | (simp; done) | (simp; omega)) | (have hop := oldOk_parts hok; have haf := addr_fit2 hop.2.1; have hap := addrOk_fit hop.2.1; have hul := userOk_len hop.2.2.1; have htn := textI_len an; have htu := textI_len us; have hnb : (numB apt).length = 2 := rfl; first | omega | (simp; done) | (simp; omega))))) ?_
     rintro _ w17 ⟨A5, c5, rfl, hs19'⟩
     have hs19 : SH w w17 [] [.blk b1 54 [I c, I ak, .slice Aaq aq.length caq, Str an, I apt, Str us], oI b2 ([0] : List Int) 1 3, .own A4 (((((([4, c] : List Int) ++ (numB apt)) ++ aq) ++ (textI us)) ++ ([0] : List Int)).length) c4 3 1 (((((([4, c] : List Int) ++ (numB apt)) ++ aq) ++ (textI us)) ++ ([0] : List Int)).map I), .own A5 ((textI an).length) c5 3 1 ((textI an).map I)] := hs18.call0 hs19'
     clear hs19'
     refine apm (g := I) (ys := (((([4, c] : List Int) ++ (numB apt)) ++ aq) ++ (textI us)) ++ ([0] : List Int)) (zs := textI an) hs19 2 rfl sl24 rfl rfl rfl (hs19.sl0 3 rfl) (fun _ => rfl) (by unfold maxLen; have hop := oldOk_parts hok; have haf := addr_fit2 hop.2.1; have hap := addrOk_fit hop.2.1; have hul := userOk_len hop.2.2.1; have htn := textI_len an; have htu := textI_len us; have hnb : (numB apt).length = 2 := rfl; simp only [List.length_append, List.length_cons, List.length_nil]; omega) (by have hop := oldOk_parts hok; have haf := addr_fit2 hop.2.1; have hap := addrOk_fit hop.2.1; have hul := userOk_len hop.2.2.1; have htn := textI_len an; have htu := textI_len us; have hnb : (numB apt).length = 2 := rfl; simp only [List.length_append, List.length_cons, List.length_nil]; omega) trivial rfl (fun A6 c6 w18 (hs20 : SH w w18 [] [.blk b1 54 [I c, I ak, .slice Aaq aq.length caq, Str an, I apt, Str us], oI b2 ([0] : List Int) 1 3, .own A5 ((textI an).length) c5 3 1 ((textI an).map I), .own A6 ((((((([4, c] : List Int) ++ (numB apt)) ++ aq) ++ (textI us)) ++ ([0] : List Int)) ++ (textI an)).length) c6 3 1 ((((((([4, c] : List Int) ++ (numB apt)) ++ aq) ++ (textI us)) ++ ([0] : List Int)) ++ (textI an)).map I)]) => ?_)
     refine q trivial rfl rfl (asg (v := .slice A6 ((((((([4, c] : List Int) ++ (numB apt)) ++ aq) ++ (textI us)) ++ ([0] : List Int)) ++ (textI an)).length) c6) rfl) ?_
     refine nl ?_
     refine nN ?_
     have hs21 : SH w w18 [] [.own A6 ((((((([4, c] : List Int) ++ (numB apt)) ++ aq) ++ (textI us)) ++ ([0] : List Int)) ++ (textI an)).length) c6 3 1 ((((((([4, c] : List Int) ++ (numB apt)) ++ aq) ++ (textI us)) ++ ([0] : List Int)) ++ (textI an)).map I)] := hs20.pick [3] rfl (by decide)
     refine rg ?_
     refine q trivial rfl rfl (mv (v := .slice A6 ((((((([4, c] : List Int) ++ (numB apt)) ++ aq) ++ (textI us)) ++ ([0] : List Int)) ++ (textI an)).length) c6) rfl) ?_
     refine bsk hs21 sl24 [I 0] [I 0] trivial rfl (fun b3 w19 (hs22 : SH w w19 [] [.own A6 ((((((([4, c] : List Int) ++ (numB apt)) ++ aq) ++ (textI us)) ++ ([0] : List Int)) ++ (textI an)).length) c6 3 1 ((((((([4, c] : List Int) ++ (numB apt)) ++ aq) ++ (textI us)) ++ ([0] : List Int)) ++ (textI an)).map I), oI b3 ([0] : List Int) 1 3]) => ?_)
     refine apm (g := I) (ys := ((((([4, c] : List Int) ++ (numB apt)) ++ aq) ++ (textI us)) ++ ([0] : List Int)) ++ (textI an)) (zs := ([0] : List Int)) hs22 0 rfl sl24 rfl rfl rfl (hs22.sl0 1 rfl) (fun _ => rfl) (by unfold maxLen; have hop := oldOk_parts hok; have haf := addr_fit2 hop.2.1; have hap := addrOk_fit hop.2.1; have hul := userOk_len hop.2.2.1; have htn := textI_len an; have htu := textI_len us; have hnb : (numB apt).length = 2 := rfl; simp only [List.length_append, List.length_cons, List.length_nil]; omega) (by have hop := oldOk_parts hok; have haf := addr_fit2 hop.2.1; have hap := addrOk_fit hop.2.1; have hul := userOk_len hop.2.2.1; have htn := textI_len an; have htu := textI_len us; have hnb : (numB apt).length = 2 := rfl; simp only [List.length_append, List.length_cons, List.length_nil]; omega) trivial rfl (fun A7 c7 w20 (hs23 : SH w w20 [] [oI b3 ([0] : List Int) 1 3, .own A7 (((((((([4, c] : List Int) ++ (numB apt)) ++ aq) ++ (textI us)) ++ ([0] : List Int)) ++ (textI an)) ++ ([0] : List Int)).length) c7 3 1 (((((((([4, c] : List Int) ++ (numB apt)) ++ aq) ++ (textI us)) ++ ([0] : List Int)) ++ (textI an)) ++ ([0] : List Int)).map I)]) => ?_)
     refine q trivial rfl rfl (asg (v := .slice A7 (((((((([4, c] : List Int) ++ (numB apt)) ++ aq) ++ (textI us)) ++ ([0] : List Int)) ++ (textI an)) ++ ([0] : List Int)).length) c7) rfl) ?_
     refine nl ?_
     refine nN ?_
     refine sq ?_
     refine rg ?_
     refine q trivial rfl rfl (mv (v := .slice A7 (((((((([4, c] : List Int) ++ (numB apt)) ++ aq) ++ (textI us)) ++ ([0] : List Int)) ++ (textI an)) ++ ([0] : List Int)).length) c7) rfl) ?_
     refine q trivial rfl rfl (asg (v := .slice A7 (((((((([4, c] : List Int) ++ (numB apt)) ++ aq) ++ (textI us)) ++ ([0] : List Int)) ++ (textI an)) ++ ([0] : List Int)).length) c7) rfl) ?_
     refine nl ?_
     refine nN ?_
     refine rt ?_
     refine fret (v := .slice A7 (((((((([4, c] : List Int) ++ (numB apt)) ++ aq) ++ (textI us)) ++ ([0] : List Int)) ++ (textI an)) ++ ([0] : List Int)).length) c7) (.tmp .nil) rfl ?_
     have e1 : (((((([4, c] : List Int) ++ (numB apt)) ++ aq) ++ (textI us)) ++ ([0] : List Int)) ++ (textI an)) ++ ([0] : List Int) = oldB c ak aq an apt us := by first | (rw [oldB_3 (by assumption)]; done) | (rw [oldB_1 (by omega)]; done) | (simp [oldB, h1, h2]; done) | (have hop := oldOk_parts hok; have haf := addr_fit2 hop.2.1; have hap := addrOk_fit hop.2.1; have hul := userOk_len hop.2.2.1; have htn := textI_len an; have htu := textI_len us; have hnb : (numB apt).length = 2 := rfl; have h13 := haf.1; simp [oldB, h1, h2] <;> omega) | (exfalso; have hop := oldOk_parts hok; have haf := addr_fit2 hop.2.1; have hap := addrOk_fit hop.2.1; have hul := userOk_len hop.2.2.1; have htn := textI_len an; have htu := textI_len us; have hnb : (numB apt).length = 2 := rfl; have h13 := haf.1; omega)
     have e2 : ((((((([4, c] : List Int) ++ (numB apt)) ++ aq) ++ (textI us)) ++ ([0] : List Int)) ++ (textI an)) ++ ([0] : List Int)).length = (oldB c ak aq an apt us).length := by exact congrArg List.length e1
     exact ⟨A7, c7, (slv rfl e2 rfl), ((hs23.pick [1] rfl (by decide)).cast (lc (own_eq (g := I) rfl e2 rfl e1) rfl))⟩
   · refine sk ?_
     refine nN ?_
     refine sq ?_
     refine rg ?_
     refine q trivial rfl rfl (mv (v := .slice A4 (((((([4, c] : List Int) ++ (numB apt)) ++ aq) ++ (textI us)) ++ ([0] : List Int)).length) c4) rfl) ?_
     refine q trivial rfl rfl (asg (v := .slice A4 (((((([4, c] : List Int) ++ (numB apt)) ++ aq) ++ (textI us)) ++ ([0] : List Int)).length) c4) rfl) ?_
     refine nl ?_
     refine nN ?_
     refine rt ?_
     refine fret (v := .slice A4 (((((([4, c] : List Int) ++ (numB apt)) ++ aq) ++ (textI us)) ++ ([0] : List Int)).length) c4) (.tmp .nil) rfl ?_
     have e3 : (((([4, c] : List Int) ++ (numB apt)) ++ aq) ++ (textI us)) ++ ([0] : List Int) = oldB c ak aq an apt us := by first | (rw [oldB_3 (by assumption)]; done) | (rw [oldB_1 (by omega)]; done) | (simp [oldB, h1, h2]; done) | (have hop := oldOk_parts hok; have haf := addr_fit2 hop.2.1; have hap := addrOk_fit hop.2.1; have hul := userOk_len hop.2.2.1; have htn := textI_len an; have htu := textI_len us; have hnb : (numB apt).length = 2 := rfl; have h13 := haf.1; simp [oldB, h1, h2] <;> omega) | (exfalso; have hop := oldOk_parts hok; have haf := addr_fit2 hop.2.1; have hap := addrOk_fit hop.2.1; have hul := userOk_len hop.2.2.1; have htn := textI_len an; have htu := textI_len us; have hnb : (numB apt).length = 2 := rfl; have h13 := haf.1; omega)
     have e4 : ((((([4, c] : List Int) ++ (numB apt)) ++ aq) ++ (textI us)) ++ ([0] : List Int)).length = (oldB c ak aq an apt us).length := by exact congrArg List.length e3
     exact ⟨A4, c4, (slv rfl e4 rfl), ((hs18.pick [2] rfl (by decide)).cast (lc (own_eq (g := I) rfl e4 rfl e3) rfl))⟩
 · refine rg ?_
   refine q trivial rfl rfl (mv (v := .slice A7' ((([4, c] : List Int) ++ (numB apt)).length) c7') rfl) ?_
   refine bsk hs12 sl24 [I 0, I 0, I 0, I 1] [I 0, I 0, I 0, I 1] trivial rfl (fun b4 w21 (hs24 : SH w w21 [] [.blk b1 54 [I c, I ak, .slice Aaq aq.length caq, Str an, I apt, Str us], .own A7' ((([4, c] : List Int) ++ (numB apt)).length) c7' 3 1 ((([4, c] : List Int) ++ (numB apt)).map I), .own A6' ((numB apt).length) c6' 3 1 ((numB apt).map I), oI b4 ([0, 0, 0, 1] : List Int) 4 3]) => ?_)
   refine apm (g := I) (ys := ([4, c] : List Int) ++ (numB apt)) (zs := ([0, 0, 0, 1] : List Int)) hs24 1 rfl sl24 rfl rfl rfl (hs24.sl0 3 rfl) (fun _ => rfl) (by unfold maxLen; have hop := oldOk_parts hok; have haf := addr_fit2 hop.2.1; have hap := addrOk_fit hop.2.1; have hul := userOk_len hop.2.2.1; have htn := textI_len an; have htu := textI_len us; have hnb : (numB apt).length = 2 := rfl; simp only [List.length_append, List.length_cons, List.length_nil]; omega) (by have hop := oldOk_parts hok; have haf := addr_fit2 hop.2.1; have hap := addrOk_fit hop.2.1; have hul := userOk_len hop.2.2.1; have htn := textI_len an; have htu := textI_len us; have hnb : (numB apt).length = 2 := rfl; simp only [List.length_append, List.length_cons, List.length_nil]; omega) trivial rfl (fun A8 c8 w22 (hs25 : SH w w22 [] [.blk b1 54 [I c, I ak, .slice Aaq aq.length caq, Str an, I apt, Str us], .own A6' ((numB apt).length) c6' 3 1 ((numB apt).map I), oI b4 ([0, 0, 0, 1] : List Int) 4 3, .own A8 (((([4, c] : List Int) ++ (numB apt)) ++ ([0, 0, 0, 1] : List Int)).length) c8 3 1 (((([4, c] : List Int) ++ (numB apt)) ++ ([0, 0, 0, 1] : List Int)).map I)]) => ?_)
   refine q trivial rfl rfl (asg (v := .slice A8 (((([4, c] : List Int) ++ (numB apt)) ++ ([0, 0, 0, 1] : List Int)).length) c8) rfl) ?_
   refine nl ?_
   refine nN ?_
   have hs26 : SH w w22 [] [.blk b1 54 [I c, I ak, .slice Aaq aq.length caq, Str an, I apt, Str us], .own A8 (((([4, c] : List Int) ++ (numB apt)) ++ ([0, 0, 0, 1] : List Int)).length) c8 3 1 (((([4, c] : List Int) ++ (numB apt)) ++ ([0, 0, 0, 1] : List Int)).map I)] := hs25.pick [0, 3] rfl (by decide)
   refine sq ?_
   refine rg ?_
   refine q trivial rfl rfl (mv (v := .slice A8 (((([4, c] : List Int) ++ (numB apt)) ++ ([0, 0, 0, 1] : List Int)).length) c8) rfl) ?_
   refine q trivial rfl rfl (fa 5 fo54_2 rfl) ?_
   refine q trivial rfl rfl (ld (v := Str us) hs26 0 rfl rfl rfl one9) ?_
   refine cl trivial rfl (sL1Text (s := us) (w := _) (hs_n := (by first | (first | omega | (simp; done) | (simp; omega)) | (have hop := oldOk_parts hok; have haf := addr_fit2 hop.2.1; have hap := addrOk_fit hop.2.1; have hul := userOk_len hop.2.2.1; have htn := textI_len an; have htu := textI_len us; have hnb : (numB apt).length = 2 := rfl; first | omega | (simp; done) | (simp; omega))))) ?_
   rintro _ w23 ⟨A9, c9, rfl, hs27'⟩
   have hs27 : SH w w23 [] [.blk b1 54 [I c, I ak, .slice Aaq aq.length caq, Str an, I apt, Str us], .own A8 (((([4, c] : List Int) ++ (numB apt)) ++ ([0, 0, 0, 1] : List Int)).length) c8 3 1 (((([4, c] : List Int) ++ (numB apt)) ++ ([0, 0, 0, 1] : List Int)).map I), .own A9 ((textI us).length) c9 3 1 ((textI us).map I)] := hs26.call0 hs27'
   clear hs27'
   refine apm (g := I) (ys := (([4, c] : List Int) ++ (numB apt)) ++ ([0, 0, 0, 1] : List Int)) (zs := textI us) hs27 1 rfl sl24 rfl rfl rfl (hs27.sl0 2 rfl) (fun _ => rfl) (by unfold maxLen; have hop := oldOk_parts hok; have haf := addr_fit2 hop.2.1; have hap := addrOk_fit hop.2.1; have hul := userOk_len hop.2.2.1; have htn := textI_len an; have htu := textI_len us; have hnb : (numB apt).length = 2 := rfl; simp only [List.length_append, List.length_cons, List.length_nil]; omega) (by have hop := oldOk_parts hok; have haf := addr_fit2 hop.2.1; have hap := addrOk_fit hop.2.1; have hul := userOk_len hop.2.2.1; have htn := textI_len an; have htu := textI_len us; have hnb : (numB apt).length = 2 := rfl; simp only [List.length_append, List.length_cons, List.length_nil]; omega) trivial rfl (fun A10 c10 w24 (hs28 : SH w w24 [] [.blk b1 54 [I c, I ak, .slice Aaq aq.length caq, Str an, I apt, Str us], .own A9 ((textI us).length) c9 3 1 ((textI us).map I), .own A10 ((((([4, c] : List Int) ++ (numB apt)) ++ ([0, 0, 0, 1] : List Int)) ++ (textI us)).length) c10 3 1 ((((([4, c] : List Int) ++ (numB apt)) ++ ([0, 0, 0, 1] : List Int)) ++ (textI us)).map I)]) => ?_)
   refine q trivial rfl rfl (asg (v := .slice A10 ((((([4, c] : List Int) ++ (numB apt)) ++ ([0, 0, 0, 1] : List Int)) ++ (textI us)).length) c10) rfl) ?_
   refine nl ?_
   refine nN ?_
   refine sq ?_
   refine rg ?_
   refine q trivial rfl rfl (mv (v := .slice A10 ((((([4, c] : List Int) ++ (numB apt)) ++ ([0, 0, 0, 1] : List Int)) ++ (textI us)).length) c10) rfl) ?_
   refine bsk hs28 sl24 [I 0] [I 0] trivial rfl (fun b5 w25 (hs29 : SH w w25 [] [.blk b1 54 [I c, I ak, .slice Aaq aq.length caq, Str an, I apt, Str us], .own A9 ((textI us).length) c9 3 1 ((textI us).map I), .own A10 ((((([4, c] : List Int) ++ (numB apt)) ++ ([0, 0, 0, 1] : List Int)) ++ (textI us)).length) c10 3 1 ((((([4, c] : List Int) ++ (numB apt)) ++ ([0, 0, 0, 1] : List Int)) ++ (textI us)).map I), oI b5 ([0] : List Int) 1 3]) => ?_)
   refine apm (g := I) (ys := ((([4, c] : List Int) ++ (numB apt)) ++ ([0, 0, 0, 1] : List Int)) ++ (textI us)) (zs := ([0] : List Int)) hs29 2 rfl sl24 rfl rfl rfl (hs29.sl0 3 rfl) (fun _ => rfl) (by unfold maxLen; have hop := oldOk_parts hok; have haf := addr_fit2 hop.2.1; have hap := addrOk_fit hop.2.1; have hul := userOk_len hop.2.2.1; have htn := textI_len an; have htu := textI_len us; have hnb : (numB apt).length = 2 := rfl; simp only [List.length_append, List.length_cons, List.length_nil]; omega) (by have hop := oldOk_parts hok; have haf := addr_fit2 hop.2.1; have hap := addrOk_fit hop.2.1; have hul := userOk_len hop.2.2.1; have htn := textI_len an; have htu := textI_len us; have hnb : (numB apt).length = 2 := rfl; simp only [List.length_append, List.length_cons, List.length_nil]; omega) trivial rfl (fun A11 c11 w26 (hs30 : SH w w26 [] [.blk b1 54 [I c, I ak, .slice Aaq aq.length caq, Str an, I apt, Str us], .own A9 ((textI us).length) c9 3 1 ((textI us).map I), oI b5 ([0] : List Int) 1 3, .own A11 (((((([4, c] : List Int) ++ (numB apt)) ++ ([0, 0, 0, 1] : List Int)) ++ (textI us)) ++ ([0] : List Int)).length) c11 3 1 (((((([4, c] : List Int) ++ (numB apt)) ++ ([0, 0, 0, 1] : List Int)) ++ (textI us)) ++ ([0] : List Int)).map I)]) => ?_)
   refine q trivial rfl rfl (asg (v := .slice A11 (((((([4, c] : List Int) ++ (numB apt)) ++ ([0, 0, 0, 1] : List Int)) ++ (textI us)) ++ ([0] : List Int)).length) c11) rfl) ?_
   refine nl ?_
   refine nN ?_
   have hs31 : SH w w26 [] [.blk b1 54 [I c, I ak, .slice Aaq aq.length caq, Str an, I apt, Str us], .own A11 (((((([4, c] : List Int) ++ (numB apt)) ++ ([0, 0, 0, 1] : List Int)) ++ (textI us)) ++ ([0] : List Int)).length) c11 3 1 (((((([4, c] : List Int) ++ (numB apt)) ++ ([0, 0, 0, 1] : List Int)) ++ (textI us)) ++ ([0] : List Int)).map I)] := hs30.pick [0, 3] rfl (by decide)
   refine sq ?_
   refine sq ?_
   refine rg ?_
   refine q trivial rfl rfl (fa 1 fo54_1 rfl) ?_
   refine q trivial rfl rfl (fa 0 fo52_0 rfl) ?_
   refine q trivial rfl rfl (ld (v := I ak) hs31 0 rfl rfl rfl one3) ?_
   refine q trivial rfl rfl (eqi (k := .i64) (a := ak) (b := 3) rfl rfl) ?_
   refine nl ?_
   refine nN ?_
   refine cdd (p := ak = 3) rfl (fun h3 => ?_) (fun h3 => ?_)
   · refine sq ?_
     refine rg ?_
     refine q trivial rfl rfl (mv (v := .slice A11 (((((([4, c] : List Int) ++ (numB apt)) ++ ([0, 0, 0, 1] : List Int)) ++ (textI us)) ++ ([0] : List Int)).length) c11) rfl) ?_
     refine q trivial rfl rfl (fa 1 fo54_1 rfl) ?_
     refine q trivial rfl rfl (fa 2 fo52_2 rfl) ?_
     refine q trivial rfl rfl (ld (v := Str an) hs31 0 rfl rfl rfl one9) ?_
     refine cl trivial rfl (sL1Text (s := an) (w := _) (hs_n := (by first | (first | omega | (simp; done) | (simp; omega)) | (have hop := oldOk_parts hok; have haf := addr_fit2 hop.2.1; have hap := addrOk_fit hop.2.1; have hul := userOk_len hop.2.2.1; have htn := textI_len an; have htu := textI_len us; have hnb : (numB apt).length = 2 := rfl; first | omega | (simp; done) | (simp; omega))))) ?_
     rintro _ w27 ⟨A12, c12, rfl, hs32'⟩
     have hs32 : SH w w27 [] [.blk b1 54 [I c, I ak, .slice Aaq aq.length caq, Str an, I apt, Str us], .own A11 (((((([4, c] : List Int) ++ (numB apt)) ++ ([0, 0, 0, 1] : List Int)) ++ (textI us)) ++ ([0] : List Int)).length) c11 3 1 (((((([4, c] : List Int) ++ (numB apt)) ++ ([0, 0, 0, 1] : List Int)) ++ (textI us)) ++ ([0] : List Int)).map I), .own A12 ((textI an).length) c12 3 1 ((textI an).map I)] := hs31.call0 hs32'
     clear hs32'
     refine apm (g := I) (ys := (((([4, c] : List Int) ++ (numB apt)) ++ ([0, 0, 0, 1] : List Int)) ++ (textI us)) ++ ([0] : List Int)) (zs := textI an) hs32 1 rfl sl24 rfl rfl rfl (hs32.sl0 2 rfl) (fun _ => rfl) (by unfold maxLen; have hop := oldOk_parts hok; have haf := addr_fit2 hop.2.1; have hap := addrOk_fit hop.2.1; have hul := userOk_len hop.2.2.1; have htn := textI_len an; have htu := textI_len us; have hnb : (numB apt).length = 2 := rfl; simp only [List.length_append, List.length_cons, List.length_nil]; omega) (by have hop := oldOk_parts hok; have haf := addr_fit2 hop.2.1; have hap := addrOk_fit hop.2.1; have hul := userOk_len hop.2.2.1; have htn := textI_len an; have htu := textI_len us; have hnb : (numB apt).length = 2 := rfl; simp only [List.length_append, List.length_cons, List.length_nil]; omega) trivial rfl (fun A13 c13 w28 (hs33 : SH w w28 [] [.blk b1 54 [I c, I ak, .slice Aaq aq.length caq, Str an, I apt, Str us], .own A12 ((textI an).length) c12 3 1 ((textI an).map I), .own A13 ((((((([4, c] : List Int) ++ (numB apt)) ++ ([0, 0, 0, 1] : List Int)) ++ (textI us)) ++ ([0] : List Int)) ++ (textI an)).length) c13 3 1 ((((((([4, c] : List Int) ++ (numB apt)) ++ ([0, 0, 0, 1] : List Int)) ++ (textI us)) ++ ([0] : List Int)) ++ (textI an)).map I)]) => ?_)
     refine q trivial rfl rfl (asg (v := .slice A13 ((((((([4, c] : List Int) ++ (numB apt)) ++ ([0, 0, 0, 1] : List Int)) ++ (textI us)) ++ ([0] : List Int)) ++ (textI an)).length) c13) rfl) ?_
     refine nl ?_
     refine nN ?_
     refine rg ?_
     refine q trivial rfl rfl (mv (v := .slice A13 ((((((([4, c] : List Int) ++ (numB apt)) ++ ([0, 0, 0, 1] : List Int)) ++ (textI us)) ++ ([0] : List Int)) ++ (textI an)).length) c13) rfl) ?_
     refine bsk hs33 sl24 [I 0] [I 0] trivial rfl (fun b6 w29 (hs34 : SH w w29 [] [.blk b1 54 [I c, I ak, .slice Aaq aq.length caq, Str an, I apt, Str us], .own A12 ((textI an).length) c12 3 1 ((textI an).map I), .own A13 ((((((([4, c] : List Int) ++ (numB apt)) ++ ([0, 0, 0, 1] : List Int)) ++ (textI us)) ++ ([0] : List Int)) ++ (textI an)).length) c13 3 1 ((((((([4, c] : List Int) ++ (numB apt)) ++ ([0, 0, 0, 1] : List Int)) ++ (textI us)) ++ ([0] : List Int)) ++ (textI an)).map I), oI b6 ([0] : List Int) 1 3]) => ?_)
     refine apm (g := I) (ys := ((((([4, c] : List Int) ++ (numB apt)) ++ ([0, 0, 0, 1] : List Int)) ++ (textI us)) ++ ([0] : List Int)) ++ (textI an)) (zs := ([0] : List Int)) hs34 2 rfl sl24 rfl rfl rfl (hs34.sl0 3 rfl) (fun _ => rfl) (by unfold maxLen; have hop := oldOk_parts hok; have haf := addr_fit2 hop.2.1; have hap := addrOk_fit hop.2.1; have hul := userOk_len hop.2.2.1; have htn := textI_len an; have htu := textI_len us; have hnb : (numB apt).length = 2 := rfl; simp only [List.length_append, List.length_cons, List.length_nil]; omega) (by have hop := oldOk_parts hok; have haf := addr_fit2 hop.2.1; have hap := addrOk_fit hop.2.1; have hul := userOk_len hop.2.2.1; have htn := textI_len an; have htu := textI_len us; have hnb : (numB apt).length = 2 := rfl; simp only [List.length_append, List.length_cons, List.length_nil]; omega) trivial rfl (fun A14 c14 w30 (hs35 : SH w w30 [] [.blk b1 54 [I c, I ak, .slice Aaq aq.length caq, Str an, I apt, Str us], .own A12 ((textI an).length) c12 3 1 ((textI an).map I), oI b6 ([0] : List Int) 1 3, .own A14 (((((((([4, c] : List Int) ++ (numB apt)) ++ ([0, 0, 0, 1] : List Int)) ++ (textI us)) ++ ([0] : List Int)) ++ (textI an)) ++ ([0] : List Int)).length) c14 3 1 (((((((([4, c] : List Int) ++ (numB apt)) ++ ([0, 0, 0, 1] : List Int)) ++ (textI us)) ++ ([0] : List Int)) ++ (textI an)) ++ ([0] : List Int)).map I)]) => ?_)
     refine q trivial rfl rfl (asg (v := .slice A14 (((((((([4, c] : List Int) ++ (numB apt)) ++ ([0, 0, 0, 1] : List Int)) ++ (textI us)) ++ ([0] : List Int)) ++ (textI an)) ++ ([0] : List Int)).length) c14) rfl) ?_
     refine nl ?_
     refine nN ?_
     have hs36 : SH w w30 [] [.own A14 (((((((([4, c] : List Int) ++ (numB apt)) ++ ([0, 0, 0, 1] : List Int)) ++ (textI us)) ++ ([0] : List Int)) ++ (textI an)) ++ ([0] : List Int)).length) c14 3 1 (((((((([4, c] : List Int) ++ (numB apt)) ++ ([0, 0, 0, 1] : List Int)) ++ (textI us)) ++ ([0] : List Int)) ++ (textI an)) ++ ([0] : List Int)).map I)] := hs35.pick [3] rfl (by decide)
     refine sq ?_
     refine rg ?_
     refine q trivial rfl rfl (mv (v := .slice A14 (((((((([4, c] : List Int) ++ (numB apt)) ++ ([0, 0, 0, 1] : List Int)) ++ (textI us)) ++ ([0] : List Int)) ++ (textI an)) ++ ([0] : List Int)).length) c14) rfl) ?_
     refine q trivial rfl rfl (asg (v := .slice A14 (((((((([4, c] : List Int) ++ (numB apt)) ++ ([0, 0, 0, 1] : List Int)) ++ (textI us)) ++ ([0] : List Int)) ++ (textI an)) ++ ([0] : List Int)).length) c14) rfl) ?_
     refine nl ?_
     refine nN ?_
     refine rt ?_
     refine fret (v := .slice A14 (((((((([4, c] : List Int) ++ (numB apt)) ++ ([0, 0, 0, 1] : List Int)) ++ (textI us)) ++ ([0] : List Int)) ++ (textI an)) ++ ([0] : List Int)).length) c14) (.tmp .nil) rfl ?_
     have e5 : (((((([4, c] : List Int) ++ (numB apt)) ++ ([0, 0, 0, 1] : List Int)) ++ (textI us)) ++ ([0] : List Int)) ++ (textI an)) ++ ([0] : List Int) = oldB c ak aq an apt us := by first | (rw [oldB_3 (by assumption)]; done) | (rw [oldB_1 (by omega)]; done) | (simp [oldB, h1, h3]; done) | (have hop := oldOk_parts hok; have haf := addr_fit2 hop.2.1; have hap := addrOk_fit hop.2.1; have hul := userOk_len hop.2.2.1; have htn := textI_len an; have htu := textI_len us; have hnb : (numB apt).length = 2 := rfl; have h13 := haf.1; simp [oldB, h1, h3] <;> omega) | (exfalso; have hop := oldOk_parts hok; have haf := addr_fit2 hop.2.1; have hap := addrOk_fit hop.2.1; have hul := userOk_len hop.2.2.1; have htn := textI_len an; have htu := textI_len us; have hnb : (numB apt).length = 2 := rfl; have h13 := haf.1; omega)
     have e6 : ((((((([4, c] : List Int) ++ (numB apt)) ++ ([0, 0, 0, 1] : List Int)) ++ (textI us)) ++ ([0] : List Int)) ++ (textI an)) ++ ([0] : List Int)).length = (oldB c ak aq an apt us).length := by exact congrArg List.length e5
     exact ⟨A14, c14, (slv rfl e6 rfl), (hs36.cast (lc (own_eq (g := I) rfl e6 rfl e5) rfl))⟩
   · refine sk ?_
     refine nN ?_
     refine sq ?_
     refine rg ?_
     refine q trivial rfl rfl (mv (v := .slice A11 (((((([4, c] : List Int) ++ (numB apt)) ++ ([0, 0, 0, 1] : List Int)) ++ (textI us)) ++ ([0] : List Int)).length) c11) rfl) ?_
     refine q trivial rfl rfl (asg (v := .slice A11 (((((([4, c] : List Int) ++ (numB apt)) ++ ([0, 0, 0, 1] : List Int)) ++ (textI us)) ++ ([0] : List Int)).length) c11) rfl) ?_
     refine nl ?_
     refine nN ?_
     refine rt ?_
     refine fret (v := .slice A11 (((((([4, c] : List Int) ++ (numB apt)) ++ ([0, 0, 0, 1] : List Int)) ++ (textI us)) ++ ([0] : List Int)).length) c11) (.tmp .nil) rfl ?_
     have e7 : (((([4, c] : List Int) ++ (numB apt)) ++ ([0, 0, 0, 1] : List Int)) ++ (textI us)) ++ ([0] : List Int) = oldB c ak aq an apt us := by first | (rw [oldB_3 (by assumption)]; done) | (rw [oldB_1 (by omega)]; done) | (simp [oldB, h1, h3]; done) | (have hop := oldOk_parts hok; have haf := addr_fit2 hop.2.1; have hap := addrOk_fit hop.2.1; have hul := userOk_len hop.2.2.1; have htn := textI_len an; have htu := textI_len us; have hnb : (numB apt).length = 2 := rfl; have h13 := haf.1; simp [oldB, h1, h3] <;> omega) | (exfalso; have hop := oldOk_parts hok; have haf := addr_fit2 hop.2.1; have hap := addrOk_fit hop.2.1; have hul := userOk_len hop.2.2.1; have htn := textI_len an; have htu := textI_len us; have hnb : (numB apt).length = 2 := rfl; have h13 := haf.1; omega)
     have e8 : ((((([4, c] : List Int) ++ (numB apt)) ++ ([0, 0, 0, 1] : List Int)) ++ (textI us)) ++ ([0] : List Int)).length = (oldB c ak aq an apt us).length := by exact congrArg List.length e7
     exact ⟨A11, c11, (slv rfl e8 rfl), ((hs31.pick [1] rfl (by decide)).cast (lc (own_eq (g := I) rfl e8 rfl e7) rfl))⟩

theorem sOldBytes (c : Int) (ak : Int) {Aaq : Option Addr} {caq : Nat} (aq : List Int) (an : List UInt8) (apt : Int) (us : List UInt8) (w : World) (haq : Sl w [] 1 Aaq aq.length caq (aq.map I)) (han_n : an.length ≤ 1099511627776) (hus_n : us.length ≤ 2147483648) : Does Try.prog 34 [.agg #[I c, I ak, .slice Aaq aq.length caq, Str an, I apt, Str us]] w (fun v w' => ∃ Ar : Option Addr, ∃ cr : Nat, v = .tuple #[.slice Ar ((oldP c ak aq an apt us).1).length cr, .bool ((oldP c ak aq an apt us).2)] ∧ SH w w' [] [.own Ar (((oldP c ak aq an apt us).1).length) cr 3 1 (((oldP c ak aq an apt us).1).map I)]) := by
 refine fn_enter (N := 10) Try.func34 rfl (by kernel_rfl) rfl rfl rfl ?_
 have hs0 : SH w w [] [] := SH.refl w []
 have haq_m : aq.length ≤ 9223372036854775807 := Nat.le_trans haq.cap haq.capMax
 refine sq ?_
 refine rg ?_
 refine bx (v := .agg #[I c, I ak, .slice Aaq aq.length caq, Str an, I apt, Str us]) (cs := [I c, I ak, .slice Aaq aq.length caq, Str an, I apt, Str us]) hs0 rfl rfl trivial rfl (fun b1 w1 (hs1 : SH w w1 [] [.blk b1 54 [I c, I ak, .slice Aaq aq.length caq, Str an, I apt, Str us]]) => ?_)
 refine q trivial rfl rfl (asg (v := ns) rfl) ?_
 refine q trivial rfl rfl (asg (v := .bool false) rfl) ?_
 refine nl ?_
 refine nN ?_
 refine sq ?_
 refine sq ?_
 refine rg ?_
 refine q trivial rfl rfl (ldg (vs := [I c, I ak, .slice Aaq aq.length caq, Str an, I apt, Str us]) hs1 0 rfl rfl rfl rfl ag54) ?_
 refine cl trivial rfl (sL4Ok (c := c) (ak := ak) (Aaq := Aaq) (caq := caq) (aq := aq) (an := an) (apt := apt) (us := us) (w := _) (haq := (haq.up0 hs1)) (han_n := (by first | omega | (simp; done) | (simp; omega))) (hus_n := (by first | omega | (simp; done) | (simp; omega)))) ?_
 rintro _ w2 ⟨rfl, hs2'⟩
 have hs2 : SH w w2 [] [.blk b1 54 [I c, I ak, .slice Aaq aq.length caq, Str an, I apt, Str us]] := hs1.call0 hs2'
 clear hs2'
 refine q trivial rfl rfl (nt (b := oldOk c ak aq an apt us) rfl) ?_
 refine nl ?_
 refine nN ?_
 refine cd (b := !(oldOk c ak aq an apt us)) rfl (fun h1 => ?_) (fun h1 => ?_)
 · have h2 : (oldOk c ak aq an apt us) = false := by simpa using h1
   refine sq ?_
   refine rg ?_
   refine bsk hs2 sl24 [] [] trivial rfl (fun b2 w3 (hs3 : SH w w3 [] [.blk b1 54 [I c, I ak, .slice Aaq aq.length caq, Str an, I apt, Str us], oI b2 ([] : List Int) 0 3]) => ?_)
   refine q trivial rfl rfl (asg (v := sb b2 (([] : List Int).length) 0) rfl) ?_
   refine q trivial rfl rfl (asg (v := .bool false) rfl) ?_
   refine nl ?_
   refine nN ?_
   refine rt (tR ?_)
   refine fret (v := .tuple #[sb b2 (([] : List Int).length) 0, .bool false]) (.tmp (.tmp .nil)) rfl ?_
   have e1 : oldP c ak aq an apt us = (([] : List Int), false) := by simp [oldP, h2]
   have e2 : ([] : List Int) = (oldP c ak aq an apt us).1 := by rw [e1]
   have e3 : ([] : List Int).length = ((oldP c ak aq an apt us).1).length := by exact congrArg List.length e2
   have e4 : false = (oldP c ak aq an apt us).2 := by rw [e1]
   exact ⟨(some ⟨b2, 0, none⟩), 0, (tup2 (slv rfl e3 rfl) (congrArg (Value.bool) e4)), ((hs3.pick [1] rfl (by decide)).cast (lc (own_eq (g := I) rfl e3 rfl e2) rfl))⟩
 · have h3 : (oldOk c ak aq an apt us) = true := by simpa using h1
   refine sk ?_
   refine nN ?_
   refine sq ?_
   refine rg ?_
   refine q trivial rfl rfl (ldg (vs := [I c, I ak, .slice Aaq aq.length caq, Str an, I apt, Str us]) hs2 0 rfl rfl rfl rfl ag54) ?_
   refine cl trivial rfl (sL4Bytes (c := c) (ak := ak) (Aaq := Aaq) (caq := caq) (aq := aq) (an := an) (apt := apt) (us := us) (w := _) (haq := (haq.up0 hs2)) (han_n := (by first | omega | (simp; done) | (simp; omega))) (hus_n := (by first | omega | (simp; done) | (simp; omega))) (hok := (by first | omega | assumption | (simp; done) | (simp; omega)))) ?_
   rintro _ w4 ⟨A1, c1, rfl, hs4'⟩
   have hs4 : SH w w4 [] [.blk b1 54 [I c, I ak, .slice Aaq aq.length caq, Str an, I apt, Str us], .own A1 ((oldB c ak aq an apt us).length) c1 3 1 ((oldB c ak aq an apt us).map I)] := hs2.call0 hs4'
   clear hs4'
   refine q trivial rfl rfl (asg (v := .slice A1 ((oldB c ak aq an apt us).length) c1) rfl) ?_
   refine q trivial rfl rfl (asg (v := .bool true) rfl) ?_
   refine nl ?_
   refine nN ?_
   refine rt ?_
   refine fret (v := .tuple #[.slice A1 ((oldB c ak aq an apt us).length) c1, .bool true]) (.tmp (.tmp .nil)) rfl ?_
   have e5 : oldP c ak aq an apt us = (oldB c ak aq an apt us, true) := by simp [oldP, h3]
   have e6 : oldB c ak aq an apt us = (oldP c ak aq an apt us).1 := by rw [e5]
   have e7 : (oldB c ak aq an apt us).length = ((oldP c ak aq an apt us).1).length := by exact congrArg List.length e6
   have e8 : true = (oldP c ak aq an apt us).2 := by rw [e5]
   exact ⟨A1, c1, (tup2 (slv rfl e7 rfl) (congrArg (Value.bool) e8)), ((hs4.pick [1] rfl (by decide)).cast (lc (own_eq (g := I) rfl e7 rfl e6) rfl))⟩

set_option maxHeartbeats 8000000 in
theorem sAddressText (ak : Int) {Aaq : Option Addr} {caq : Nat} (aq : List Int) (an : List UInt8) (apt : Int) (w : World) (haq : Sl w [] 1 Aaq aq.length caq (aq.map I)) (han_n : an.length ≤ 1099511627776) : Does Try.prog 56 [.agg #[I ak, .slice Aaq aq.length caq, Str an, I apt]] w (fun v w' => v = Str (addrT ak aq an apt) ∧ SH w w' [] []) := by
 refine fn_enter (N := 13) Try.func56 rfl (by kernel_rfl) rfl rfl rfl ?_
 have hs0 : SH w w [] [] := SH.refl w []
 have haq_m : aq.length ≤ 9223372036854775807 := Nat.le_trans haq.cap haq.capMax
 refine sq ?_
 refine rg ?_
 refine bx (v := .agg #[I ak, .slice Aaq aq.length caq, Str an, I apt]) (cs := [I ak, .slice Aaq aq.length caq, Str an, I apt]) hs0 rfl rfl trivial rfl (fun b1 w1 (hs1 : SH w w1 [] [.blk b1 52 [I ak, .slice Aaq aq.length caq, Str an, I apt]]) => ?_)
 refine q trivial rfl rfl (asg (v := Str []) rfl) ?_
 refine nl ?_
 refine nN ?_
 refine sq ?_
 refine sq ?_
 refine rg ?_
 refine q trivial rfl rfl (ldg (vs := [I ak, .slice Aaq aq.length caq, Str an, I apt]) hs1 0 rfl rfl rfl rfl ag52) ?_
 refine cl trivial rfl (sAddressValid (ak := ak) (Aaq := Aaq) (caq := caq) (aq := aq) (an := an) (apt := apt) (w := _) (haq := (haq.up0 hs1)) (han_n := (by first | omega | (simp; done) | (simp; omega)))) ?_
 rintro _ w2 ⟨rfl, hs2'⟩
 have hs2 : SH w w2 [] [.blk b1 52 [I ak, .slice Aaq aq.length caq, Str an, I apt]] := hs1.call0 hs2'
 clear hs2'
 refine q trivial rfl rfl (nt (b := addrOk ak aq an apt) rfl) ?_
 refine nl ?_
 refine nN ?_
 refine cd (b := !(addrOk ak aq an apt)) rfl (fun h1 => ?_) (fun h1 => ?_)
 · have h2 : (addrOk ak aq an apt) = false := by simpa using h1
   refine sq ?_
   refine rg ?_
   refine q trivial rfl rfl (asg (v := Str []) rfl) ?_
   refine nl ?_
   refine nN ?_
   refine rt (tR ?_)
   refine fret (v := Str []) (.tmp .nil) rfl ?_
   have e1 : [] = addrT ak aq an apt := by simp [addrT, h2]
   exact ⟨(congrArg (Str) e1), (hs2.pick [] rfl (by decide))⟩
 · have h3 : (addrOk ak aq an apt) = true := by simpa using h1
   refine sk ?_
   refine nN ?_
   refine sq ?_
   refine rq (fun w' => SH w w' [] [.blk b1 52 [I ak, .slice Aaq aq.length caq, Str an, I apt]]) mixed (by kernel_rfl) hs2.drew ?_
   refine qq trivial rfl rfl (fun wq hsq => ldg (vs := [I ak, .slice Aaq aq.length caq, Str an, I apt]) hsq 0 rfl rfl rfl rfl ag52) ?_
   refine qc (Str (hostT ak aq an)) trivial rfl (fun wq hsq => (sL3Host (ak := ak) (Aaq := Aaq) (caq := caq) (aq := aq) (an := an) (apt := apt) (w := _) (haq := (haq.up0 hsq)) (han_n := (by first | omega | (simp; done) | (simp; omega))) (hok := (by first | omega | assumption | (simp; done) | (simp; omega)))).mono (fun v w' h => ⟨h.1, by simpa using hsq.call0 h.2⟩)) ?_
   refine qq trivial rfl rfl (fun wq hsq => cat (l := hostT ak aq an) (m := [58]) rfl rfl (by have haf := addrOk_fit (by assumption : addrOk ak aq an apt = true); have hhl := hostT_len (by assumption : addrOk ak aq an apt = true); have hil := Lib.itoa_length_le apt (by omega) (by omega); simp only [List.length_append, List.length_cons, List.length_nil]; omega)) ?_
   refine qq trivial rfl rfl (fun wq hsq => fa 3 fo52_3 rfl) ?_
   refine qq trivial rfl rfl (fun wq hsq => ld (v := I apt) hsq 0 rfl rfl rfl one3) ?_
   refine qc (Str (Lib.itoa apt)) trivial rfl (fun wq hsq => (l6Dec (n := apt) (w := _) (hn := (by have haf := addrOk_fit (by assumption : addrOk ak aq an apt = true); omega))).mono (fun v w' h => ⟨h.1, by simpa using hsq.call0 h.2⟩)) ?_
   refine qq trivial rfl rfl (fun wq hsq => cat (l := (hostT ak aq an) ++ [58]) (m := Lib.itoa apt) rfl rfl (by have haf := addrOk_fit (by assumption : addrOk ak aq an apt = true); have hhl := hostT_len (by assumption : addrOk ak aq an apt = true); have hil := Lib.itoa_length_le apt (by omega) (by omega); simp only [List.length_append, List.length_cons, List.length_nil]; omega)) ?_
   refine qq trivial rfl rfl (fun wq hsq => asg (v := Str (((hostT ak aq an) ++ [58]) ++ (Lib.itoa apt))) rfl) ?_
   refine qn (fun w3 hs3 => ?_)
   refine nN ?_
   refine rt ?_
   refine fret (v := Str (((hostT ak aq an) ++ [58]) ++ (Lib.itoa apt))) (.tmp .nil) rfl ?_
   have e2 : ((hostT ak aq an) ++ [58]) ++ (Lib.itoa apt) = addrT ak aq an apt := by simp [addrT, h3]
   exact ⟨(congrArg (Str) e2), (hs3.pick [] rfl (by decide))⟩

theorem sL14Connect (s : List UInt8) (w : World) (hs_n : s.length ≤ 2000) : Does Try.prog 55 [Str s] w (fun v w' => v = Str (connW s) ∧ SH w w' [] []) := by
 refine fn_enter (N := 9) Try.func55 rfl (by kernel_rfl) rfl rfl rfl ?_
 have hs0 : SH w w [] [] := SH.refl w []
 refine sq ?_
 refine rg ?_
 refine q trivial rfl rfl (asg (v := Str []) rfl) ?_
 refine nl ?_
 refine nN ?_
 refine sq ?_
 refine rg ?_
 refine q trivial rfl rfl (mv (v := Str s) rfl) ?_
 refine q trivial rfl rfl (cat (l := [67, 79, 78, 78, 69, 67, 84, 32]) (m := s) rfl rfl (by simp only [List.length_append, List.length_cons, List.length_nil]; omega)) ?_
 refine q trivial rfl rfl (cat (l := [67, 79, 78, 78, 69, 67, 84, 32] ++ s) (m := [32, 72, 84, 84, 80, 47, 49, 46, 49, 13, 10, 72, 111, 115, 116, 58, 32]) rfl rfl (by simp only [List.length_append, List.length_cons, List.length_nil]; omega)) ?_
 refine q trivial rfl rfl (mv (v := Str s) rfl) ?_
 refine q trivial rfl rfl (cat (l := ([67, 79, 78, 78, 69, 67, 84, 32] ++ s) ++ [32, 72, 84, 84, 80, 47, 49, 46, 49, 13, 10, 72, 111, 115, 116, 58, 32]) (m := s) rfl rfl (by simp only [List.length_append, List.length_cons, List.length_nil]; omega)) ?_
 refine q trivial rfl rfl (cat (l := (([67, 79, 78, 78, 69, 67, 84, 32] ++ s) ++ [32, 72, 84, 84, 80, 47, 49, 46, 49, 13, 10, 72, 111, 115, 116, 58, 32]) ++ s) (m := [13, 10, 13, 10]) rfl rfl (by simp only [List.length_append, List.length_cons, List.length_nil]; omega)) ?_
 refine q trivial rfl rfl (asg (v := Str (((([67, 79, 78, 78, 69, 67, 84, 32] ++ s) ++ [32, 72, 84, 84, 80, 47, 49, 46, 49, 13, 10, 72, 111, 115, 116, 58, 32]) ++ s) ++ [13, 10, 13, 10])) rfl) ?_
 refine nl ?_
 refine nN ?_
 refine rt ?_
 refine fret (v := Str (((([67, 79, 78, 78, 69, 67, 84, 32] ++ s) ++ [32, 72, 84, 84, 80, 47, 49, 46, 49, 13, 10, 72, 111, 115, 116, 58, 32]) ++ s) ++ [13, 10, 13, 10])) (.tmp .nil) rfl ?_
 have e1 : ((([67, 79, 78, 78, 69, 67, 84, 32] ++ s) ++ [32, 72, 84, 84, 80, 47, 49, 46, 49, 13, 10, 72, 111, 115, 116, 58, 32]) ++ s) ++ [13, 10, 13, 10] = connW s := by simp [connW]
 exact ⟨(congrArg (Str) e1), hs0⟩

theorem sConnectText (ak : Int) {Aaq : Option Addr} {caq : Nat} (aq : List Int) (an : List UInt8) (apt : Int) (w : World) (haq : Sl w [] 1 Aaq aq.length caq (aq.map I)) (han_n : an.length ≤ 1099511627776) : Does Try.prog 39 [.agg #[I ak, .slice Aaq aq.length caq, Str an, I apt]] w (fun v w' => v = Str (connT ak aq an apt) ∧ SH w w' [] []) := by
 refine fn_enter (N := 9) Try.func39 rfl (by kernel_rfl) rfl rfl rfl ?_
 have hs0 : SH w w [] [] := SH.refl w []
 have haq_m : aq.length ≤ 9223372036854775807 := Nat.le_trans haq.cap haq.capMax
 refine sq ?_
 refine rg ?_
 refine bx (v := .agg #[I ak, .slice Aaq aq.length caq, Str an, I apt]) (cs := [I ak, .slice Aaq aq.length caq, Str an, I apt]) hs0 rfl rfl trivial rfl (fun b1 w1 (hs1 : SH w w1 [] [.blk b1 52 [I ak, .slice Aaq aq.length caq, Str an, I apt]]) => ?_)
 refine q trivial rfl rfl (asg (v := Str []) rfl) ?_
 refine nl ?_
 refine nN ?_
 refine sq ?_
 refine sq ?_
 refine rg ?_
 refine q trivial rfl rfl (ldg (vs := [I ak, .slice Aaq aq.length caq, Str an, I apt]) hs1 0 rfl rfl rfl rfl ag52) ?_
 refine cl trivial rfl (sAddressValid (ak := ak) (Aaq := Aaq) (caq := caq) (aq := aq) (an := an) (apt := apt) (w := _) (haq := (haq.up0 hs1)) (han_n := (by first | omega | (simp; done) | (have hat := addrT_len ak aq an apt; omega)))) ?_
 rintro _ w2 ⟨rfl, hs2'⟩
 have hs2 : SH w w2 [] [.blk b1 52 [I ak, .slice Aaq aq.length caq, Str an, I apt]] := hs1.call0 hs2'
 clear hs2'
 refine q trivial rfl rfl (nt (b := addrOk ak aq an apt) rfl) ?_
 refine nl ?_
 refine nN ?_
 refine cd (b := !(addrOk ak aq an apt)) rfl (fun h1 => ?_) (fun h1 => ?_)
 · have h2 : (addrOk ak aq an apt) = false := by simpa using h1
   refine sq ?_
   refine rg ?_
   refine q trivial rfl rfl (asg (v := Str []) rfl) ?_
   refine nl ?_
   refine nN ?_
   refine rt (tR ?_)
   refine fret (v := Str []) (.tmp .nil) rfl ?_
   have e1 : [] = connT ak aq an apt := by simp [connT, h2]
   exact ⟨(congrArg (Str) e1), (hs2.pick [] rfl (by decide))⟩
 · have h3 : (addrOk ak aq an apt) = true := by simpa using h1
   refine sk ?_
   refine nN ?_
   refine sq ?_
   refine rg ?_
   refine q trivial rfl rfl (ldg (vs := [I ak, .slice Aaq aq.length caq, Str an, I apt]) hs2 0 rfl rfl rfl rfl ag52) ?_
   refine cl trivial rfl (sAddressText (ak := ak) (Aaq := Aaq) (caq := caq) (aq := aq) (an := an) (apt := apt) (w := _) (haq := (haq.up0 hs2)) (han_n := (by first | omega | (simp; done) | (have hat := addrT_len ak aq an apt; omega)))) ?_
   rintro _ w3 ⟨rfl, hs3'⟩
   have hs3 : SH w w3 [] [.blk b1 52 [I ak, .slice Aaq aq.length caq, Str an, I apt]] := hs2.call0 hs3'
   clear hs3'
   refine cl trivial rfl (sL14Connect (s := addrT ak aq an apt) (w := _) (hs_n := (by first | omega | (simp; done) | (have hat := addrT_len ak aq an apt; omega)))) ?_
   rintro _ w4 ⟨rfl, hs4'⟩
   have hs4 : SH w w4 [] [.blk b1 52 [I ak, .slice Aaq aq.length caq, Str an, I apt]] := hs3.call0 hs4'
   clear hs4'
   refine q trivial rfl rfl (asg (v := Str (connW (addrT ak aq an apt))) rfl) ?_
   refine nl ?_
   refine nN ?_
   refine rt ?_
   refine fret (v := Str (connW (addrT ak aq an apt))) (.tmp .nil) rfl ?_
   have e2 : connW (addrT ak aq an apt) = connT ak aq an apt := by simp [connT, h3]
   exact ⟨(congrArg (Str) e2), (hs4.pick [] rfl (by decide))⟩

theorem l91Changed {rb : Nat} {Ab : Option Addr} {cb : Nat} {bs : List UInt8} {p : Nat} {Axs : Option Addr} {cxs : Nat} (xs : List Int) (w : World) (hr : w.heap[rb]? = some (.cells [.slice Ab bs.length cb, .int .i64 ((p : Nat) : Int)].toArray 47 (0, 0))) (hb : Sl w ([rb] ++ (ownM Axs cxs ++ [])) 1 Ab bs.length cb (bs.map U)) (hbn : bs.length ≤ 2000) (hp : p ≤ 68719476736) (hxr : ∀ k, (It.own Axs xs.length cxs 3 1 (xs.map I)).has k → ¬ (It.blk rb 47 [.slice Ab bs.length cb, .int .i64 ((p : Nat) : Int)]).has k) (hxs : OwnR w Axs xs.length cxs 3 1 (xs.map I)) (hxs_n : xs.length ≤ 2147483648) : Does Try.prog 23 [pB rb, .slice Axs xs.length cxs] w (fun v w' => ∃ Ar : Option Addr, ∃ cr : Nat, ∃ r : List Int, ∃ q : Nat, v = .slice Ar r.length cr ∧ (r.length ≤ xs.length + 3) ∧ (q ≤ p + 40) ∧ SH w w' ([rb] ++ (ownM Axs cxs ++ [])) [.blk rb 47 [.slice Ab bs.length cb, I ((q : Nat) : Int)], .own Ar r.length cr 3 1 (r.map I)]) := by
 refine fn_enter (N := 36) Try.func23 rfl (by kernel_rfl) rfl rfl rfl ?_
 have hs0 : SH w w ([rb] ++ (ownM Axs cxs ++ [])) [.blk rb 47 [.slice Ab bs.length cb, I ((p : Nat) : Int)], .own Axs xs.length cxs 3 1 (xs.map I)] := entryB hr hxs hxr
 have hxs_m : xs.length ≤ 9223372036854775807 := Nat.le_trans hxs.2.1 hxs.2.2.1
 refine sq ?_
 refine rg ?_
 refine q trivial rfl rfl (asg (v := ns) rfl) ?_
 refine nl ?_
 refine nN ?_
 refine sq ?_
 refine sq ?_
 refine rg ?_
 refine q trivial rfl rfl (mv (v := .slice Axs xs.length cxs) rfl) ?_
 refine q trivial rfl rfl (lnA (n := xs.length) sl24 rfl) ?_
 refine q trivial rfl rfl (eqi (k := .i64) (a := ((xs.length : Nat) : Int)) (b := 0) rfl rfl) ?_
 refine nl ?_
 refine nN ?_
 refine cdd (p := ((xs.length : Nat) : Int) = 0) rfl (fun h1 => ?_) (fun h1 => ?_)
 · refine sq ?_
   refine rg ?_
   refine bsk hs0 sl24 [I 5, I 1, I 0] [I 5, I 1, I 0] trivial rfl (fun b1 w1 (hs1 : SH w w1 ([rb] ++ (ownM Axs cxs ++ [])) [.blk rb 47 [.slice Ab bs.length cb, I ((p : Nat) : Int)], .own Axs xs.length cxs 3 1 (xs.map I), oI b1 ([5, 1, 0] : List Int) 3 3]) => ?_)
   refine q trivial rfl rfl (asg (v := sb b1 (([5, 1, 0] : List Int).length) 3) rfl) ?_
   refine nl ?_
   refine nN ?_
   refine rt (tR ?_)
   refine fret (v := sb b1 (([5, 1, 0] : List Int).length) 3) (.tmp .nil) rfl ?_
   exact ⟨(some ⟨b1, 0, none⟩), 3, ([5, 1, 0] : List Int), p, rfl, (by first | omega | (simp; done) | (simp; omega)), (by omega), (hs1.pick [0, 2] rfl (by decide))⟩
 · refine sk ?_
   refine nN ?_
   refine sq ?_
   refine rg ?_
   refine q trivial rfl rfl (mv (v := pB rb) rfl) ?_
   refine q trivial rfl rfl (mv (v := .slice Axs xs.length cxs) rfl) ?_
   refine q trivial rfl rfl (lnA (n := xs.length) sl24 rfl) ?_
   refine cl trivial rfl (pick (rb := rb) (Ab := Ab) (cb := cb) (bs := bs) (p := p) (n := ((xs.length : Nat) : Int)) (w := _) (hr := (blk_heap hs0 0 rfl)) (hb := (hb.up hs0 (fun _ h => h) (fun _ h => .inl (List.mem_append_left _ h)))) (hbn := (by first | assumption | (simp; omega))) (hp := (by omega))) ?_
   rintro _ w2 ⟨r1, q1, rfl, p1, p2, hs2'⟩
   have hs2 : SH w w2 ([rb] ++ (ownM Axs cxs ++ [])) [.own Axs xs.length cxs 3 1 (xs.map I), .blk rb 47 [.slice Ab bs.length cb, I ((q1 : Nat) : Int)]] := hs0.callM 0 rfl hs2' (by intro k hk; simp at hk; exact hk.symm)
   clear hs2'
   refine q trivial rfl rfl (asg (v := I r1) rfl) ?_
   refine nl ?_
   refine nN ?_
   refine sq ?_
   refine sq ?_
   refine rg ?_
   refine q trivial rfl rfl (mv (v := pB rb) rfl) ?_
   refine cl trivial rfl (pick (rb := rb) (Ab := Ab) (cb := cb) (bs := bs) (p := q1) (n := 7) (w := _) (hr := (blk_heap hs2 1 rfl)) (hb := (hb.up hs2 (fun _ h => h) (fun _ h => .inl (List.mem_append_left _ h)))) (hbn := (by first | assumption | (simp; omega))) (hp := (by omega))) ?_
   rintro _ w3 ⟨r2, q2, rfl, p3, p4, hs3'⟩
   have hs3 : SH w w3 ([rb] ++ (ownM Axs cxs ++ [])) [.own Axs xs.length cxs 3 1 (xs.map I), .blk rb 47 [.slice Ab bs.length cb, I ((q2 : Nat) : Int)]] := hs2.callM 1 rfl hs3' (by intro k hk; simp at hk; exact hk.symm)
   clear hs3'
   refine nl ?_
   refine nN ?_
   refine bl ?_
   refine sq ?_
   refine rg ?_
   refine q trivial rfl rfl (eqi (k := .i64) (a := r2) (b := 0) rfl rfl) ?_
   refine q trivial rfl rfl (asg (v := .bool (decide (r2 = 0))) rfl) ?_
   refine nl ?_
   refine nN ?_
   refine cdd (p := r2 = 0) rfl (fun h2 => ?_) (fun h2 => ?_)
   · refine rg ?_
     refine q trivial rfl rfl (mv (v := .slice Axs xs.length cxs) rfl) ?_
     refine q trivial rfl rfl (mv (v := I r1) rfl) ?_
     refine q trivial rfl rfl (mv (v := pB rb) rfl) ?_
     refine cl trivial rfl (pick (rb := rb) (Ab := Ab) (cb := cb) (bs := bs) (p := q2) (n := 256) (w := _) (hr := (blk_heap hs3 1 rfl)) (hb := (hb.up hs3 (fun _ h => h) (fun _ h => .inl (List.mem_append_left _ h)))) (hbn := (by first | assumption | (simp; omega))) (hp := (by omega))) ?_
     rintro _ w4 ⟨r3, q3, rfl, p5, p6, hs4'⟩
     have hs4 : SH w w4 ([rb] ++ (ownM Axs cxs ++ [])) [.own Axs xs.length cxs 3 1 (xs.map I), .blk rb 47 [.slice Ab bs.length cb, I ((q3 : Nat) : Int)]] := hs3.callM 1 rfl hs4' (by intro k hk; simp at hk; exact hk.symm)
     clear hs4'
     obtain ⟨b2, rfl⟩ := own_form hs4 0 rfl (by first | omega | (simp; done) | (simp; omega))
     refine q trivial rfl rfl (ixo r1.toNat sl24 rfl (ieq (x := r1) (by omega)) (by first | omega | (simp; done) | (simp; omega))) ?_
     refine stomn (g := I) (ys := xs) (o := r1.toNat) (u := r3) hs4 0 rfl rfl rfl rfl (by first | omega | (simp; done) | (simp; omega)) rfl one3 trivial (fun w5 (hs5 : SH w w5 ([rb] ++ (ownM (some ⟨b2, 0, none⟩) cxs ++ [])) [.blk rb 47 [.slice Ab bs.length cb, I ((q3 : Nat) : Int)], .own (some ⟨b2, 0, none⟩) xs.length cxs 3 1 ((xs.set r1.toNat r3).map I)]) => ?_)
     refine nl ?_
     refine bN ?_
     refine nN ?_
     refine sq ?_
     refine rg ?_
     refine q trivial rfl rfl (mv (v := sb b2 xs.length cxs) rfl) ?_
     refine q trivial rfl rfl (asg (v := sb b2 xs.length cxs) rfl) ?_
     have e1 : xs.length = (xs.set r1.toNat r3).length := by first | rfl | (simp; done) | (simp; omega) | (simp at *; omega)
     have hs6 : SH w w5 ([rb] ++ (ownM (some ⟨b2, 0, none⟩) cxs ++ [])) [.blk rb 47 [.slice Ab bs.length cb, I ((q3 : Nat) : Int)], oI b2 (xs.set r1.toNat r3) cxs 3] := (hs5.cast (lc rfl (lc (own_eq (g := I) rfl e1 rfl rfl) rfl)))
     refine re 4 (v := sb b2 ((xs.set r1.toNat r3).length) cxs) (show (sb b2 xs.length cxs : Value) = sb b2 ((xs.set r1.toNat r3).length) cxs from slv rfl e1 rfl) ?_
     refine nl ?_
     refine nN ?_
     refine rt ?_
     refine fret (v := sb b2 ((xs.set r1.toNat r3).length) cxs) (.tmp .nil) rfl ?_
     exact ⟨(some ⟨b2, 0, none⟩), cxs, xs.set r1.toNat r3, q3, rfl, (by first | omega | (simp; done) | (simp; omega)), (by omega), hs6⟩
   · refine sq ?_
     refine rg ?_
     refine q trivial rfl rfl (eqi (k := .i64) (a := r2) (b := 1) rfl rfl) ?_
     refine q trivial rfl rfl (asg (v := .bool (decide (r2 = 1))) rfl) ?_
     refine nl ?_
     refine nN ?_
     refine cdd (p := r2 = 1) rfl (fun h3 => ?_) (fun h3 => ?_)
     · refine sq ?_
       refine rg ?_
       refine q trivial rfl rfl (mv (v := .slice Axs xs.length cxs) rfl) ?_
       refine q trivial rfl rfl (mv (v := I r1) rfl) ?_
       have e2 : (xs.map I).take (r1.toNat * 1) = (xs.take r1.toNat).map I := by first | rfl | simp [List.map_take]
       have hs7 : SH w w3 ([rb] ++ (ownM Axs cxs ++ [])) [.blk rb 47 [.slice Ab bs.length cb, I ((q2 : Nat) : Int)], .own Axs r1.toNat cxs 3 1 ((xs.take r1.toNat).map I)] := e2 ▸ SH.trunc hs3 0 (r1.toNat) rfl (by first | omega | (simp; done) | (simp; omega))
       refine q trivial rfl rfl (cuh r1.toNat sl24 rfl (ieq (x := r1) (by omega)) (Nat.le_trans (by first | omega | (simp; done) | (simp; omega)) (own_cap hs3 0 rfl).1)) ?_
       refine q trivial rfl rfl (asg (v := .slice Axs r1.toNat cxs) rfl) ?_
       have e3 : r1.toNat = (xs.take r1.toNat).length := by first | rfl | (simp; done) | (simp; omega) | (simp at *; omega)
       have hs8 : SH w w3 ([rb] ++ (ownM Axs cxs ++ [])) [.blk rb 47 [.slice Ab bs.length cb, I ((q2 : Nat) : Int)], .own Axs ((xs.take r1.toNat).length) cxs 3 1 ((xs.take r1.toNat).map I)] := (hs7.cast (lc rfl (lc (own_eq (g := I) rfl e3 rfl rfl) rfl)))
       refine re 4 (v := .slice Axs ((xs.take r1.toNat).length) cxs) (show (.slice Axs r1.toNat cxs : Value) = .slice Axs ((xs.take r1.toNat).length) cxs from slv rfl e3 rfl) ?_
       refine nl ?_
       refine nN ?_
       refine rt (bR (tR ?_))
       refine fret (v := .slice Axs ((xs.take r1.toNat).length) cxs) (.tmp .nil) rfl ?_
       exact ⟨Axs, cxs, xs.take r1.toNat, q2, rfl, (by first | omega | (simp; done) | (simp; omega)), (by omega), hs8⟩
     · refine sq ?_
       refine sq ?_
       refine rg ?_
       refine q trivial rfl rfl (eqi (k := .i64) (a := r2) (b := 2) rfl rfl) ?_
       refine q trivial rfl rfl (asg (v := .bool (decide (r2 = 2))) rfl) ?_
       refine nl ?_
       refine nN ?_
       refine cdd (p := r2 = 2) rfl (fun h4 => ?_) (fun h4 => ?_)
       · refine sk ?_
         refine nN ?_
         refine cdd (p := r2 = 2) rfl (fun h5 => ?_) (fun h5 => ?_)
         · refine sq ?_
           refine rg ?_
           refine q trivial rfl rfl (mv (v := .slice Axs xs.length cxs) rfl) ?_
           refine q trivial rfl rfl (mv (v := pB rb) rfl) ?_
           refine cl trivial rfl (l91Bytes (rb := rb) (Ab := Ab) (cb := cb) (bs := bs) (p := q2) (n := 3) (w := _) (hr := (blk_heap hs3 1 rfl)) (hb := (hb.up hs3 (fun _ h => h) (fun _ h => .inl (List.mem_append_left _ h)))) (hbn := (by first | assumption | (simp; omega))) (hp := (by omega)) (hn := (by first | omega | assumption | (simp; done) | (simp; omega)))) ?_
           rintro _ w6 ⟨A1, c1, r4, q4, rfl, p7, p8, hs9'⟩
           have hs9 : SH w w6 ([rb] ++ (ownM Axs cxs ++ [])) [.own Axs xs.length cxs 3 1 (xs.map I), .blk rb 47 [.slice Ab bs.length cb, I ((q4 : Nat) : Int)], .own A1 r4.length c1 3 1 (r4.map I)] := hs3.callM 1 rfl hs9' (by intro k hk; simp at hk; exact hk.symm)
           clear hs9'
           refine apm (g := I) (ys := xs) (zs := r4) hs9 0 rfl sl24 rfl rfl rfl (hs9.sl0 2 rfl) (fun _ => rfl) (by unfold maxLen; first | omega | (simp; done) | (simp; omega)) (by first | omega | (simp; done) | (simp; omega)) trivial rfl (fun A2 c2 w7 (hs10 : SH w w7 ([rb] ++ (ownM Axs cxs ++ [])) [.blk rb 47 [.slice Ab bs.length cb, I ((q4 : Nat) : Int)], .own A1 r4.length c1 3 1 (r4.map I), .own A2 ((xs ++ r4).length) c2 3 1 ((xs ++ r4).map I)]) => ?_)
           refine q trivial rfl rfl (asg (v := .slice A2 ((xs ++ r4).length) c2) rfl) ?_
           refine nl ?_
           refine nN ?_
           refine rt (bR (tR ?_))
           refine fret (v := .slice A2 ((xs ++ r4).length) c2) (.tmp .nil) rfl ?_
           exact ⟨A2, c2, xs ++ r4, q4, rfl, (by first | omega | (simp; done) | (simp; omega)), (by omega), (hs10.pick [0, 2] rfl (by decide))⟩
         · refine sk ?_
           refine bN ?_
           refine nN ?_
           refine sq ?_
           refine rg ?_
           refine q trivial rfl rfl (mv (v := .slice Axs xs.length cxs) rfl) ?_
           refine q trivial rfl rfl (asg (v := .slice Axs xs.length cxs) rfl) ?_
           refine nl ?_
           refine nN ?_
           refine rt ?_
           refine fret (v := .slice Axs xs.length cxs) (.tmp .nil) rfl ?_
           exact ⟨Axs, cxs, xs, q2, rfl, (by first | omega | (simp; done) | (simp; omega)), (by omega), (hs3.pick [1, 0] rfl (by decide))⟩
       · refine rg ?_
         refine q trivial rfl rfl (eqi (k := .i64) (a := r2) (b := 3) rfl rfl) ?_
         refine q trivial rfl rfl (asg (v := .bool (decide (r2 = 3))) rfl) ?_
         refine nl ?_
         refine nN ?_
         refine cdd (p := r2 = 3) rfl (fun h6 => ?_) (fun h6 => ?_)
         · refine sq ?_
           refine rg ?_
           refine q trivial rfl rfl (mv (v := .slice Axs xs.length cxs) rfl) ?_
           refine q trivial rfl rfl (mv (v := pB rb) rfl) ?_
           refine cl trivial rfl (l91Bytes (rb := rb) (Ab := Ab) (cb := cb) (bs := bs) (p := q2) (n := 3) (w := _) (hr := (blk_heap hs3 1 rfl)) (hb := (hb.up hs3 (fun _ h => h) (fun _ h => .inl (List.mem_append_left _ h)))) (hbn := (by first | assumption | (simp; omega))) (hp := (by omega)) (hn := (by first | omega | assumption | (simp; done) | (simp; omega)))) ?_
           rintro _ w8 ⟨A3, c3, r5, q5, rfl, p9, p10, hs11'⟩
           have hs11 : SH w w8 ([rb] ++ (ownM Axs cxs ++ [])) [.own Axs xs.length cxs 3 1 (xs.map I), .blk rb 47 [.slice Ab bs.length cb, I ((q5 : Nat) : Int)], .own A3 r5.length c3 3 1 (r5.map I)] := hs3.callM 1 rfl hs11' (by intro k hk; simp at hk; exact hk.symm)
           clear hs11'
           refine apm (g := I) (ys := xs) (zs := r5) hs11 0 rfl sl24 rfl rfl rfl (hs11.sl0 2 rfl) (fun _ => rfl) (by unfold maxLen; first | omega | (simp; done) | (simp; omega)) (by first | omega | (simp; done) | (simp; omega)) trivial rfl (fun A4 c4 w9 (hs12 : SH w w9 ([rb] ++ (ownM Axs cxs ++ [])) [.blk rb 47 [.slice Ab bs.length cb, I ((q5 : Nat) : Int)], .own A3 r5.length c3 3 1 (r5.map I), .own A4 ((xs ++ r5).length) c4 3 1 ((xs ++ r5).map I)]) => ?_)
           refine q trivial rfl rfl (asg (v := .slice A4 ((xs ++ r5).length) c4) rfl) ?_
           refine nl ?_
           refine nN ?_
           refine rt (bR (tR ?_))
           refine fret (v := .slice A4 ((xs ++ r5).length) c4) (.tmp .nil) rfl ?_
           exact ⟨A4, c4, xs ++ r5, q5, rfl, (by first | omega | (simp; done) | (simp; omega)), (by omega), (hs12.pick [0, 2] rfl (by decide))⟩
         · refine sk ?_
           refine bN ?_
           refine nN ?_
           refine sq ?_
           refine rg ?_
           refine q trivial rfl rfl (mv (v := .slice Axs xs.length cxs) rfl) ?_
           refine q trivial rfl rfl (asg (v := .slice Axs xs.length cxs) rfl) ?_
           refine nl ?_
           refine nN ?_
           refine rt ?_
           refine fret (v := .slice Axs xs.length cxs) (.tmp .nil) rfl ?_
           exact ⟨Axs, cxs, xs, q2, rfl, (by first | omega | (simp; done) | (simp; omega)), (by omega), (hs3.pick [1, 0] rfl (by decide))⟩

theorem l91User {rb : Nat} {Ab : Option Addr} {cb : Nat} {bs : List UInt8} {p : Nat} (w : World) (hr : w.heap[rb]? = some (.cells [.slice Ab bs.length cb, .int .i64 ((p : Nat) : Int)].toArray 47 (0, 0))) (hb : Sl w [rb] 1 Ab bs.length cb (bs.map U)) (hbn : bs.length ≤ 2000) (hp : p ≤ 274877906944) : Does Try.prog 52 [pB rb] w (fun v w' => ∃ s : List UInt8, ∃ q : Nat, v = Str s ∧ (s.length ≤ 9) ∧ (q ≤ p + 10) ∧ SH w w' [rb] [.blk rb 47 [.slice Ab bs.length cb, I ((q : Nat) : Int)]]) := by
 refine fn_enter (N := 12) Try.func52 rfl (by kernel_rfl) rfl rfl rfl ?_
 have hs0 : SH w w [rb] [.blk rb 47 [.slice Ab bs.length cb, I ((p : Nat) : Int)]] := SH.entry1 hr
 refine sq ?_
 refine rg ?_
 refine q trivial rfl rfl (asg (v := Str []) rfl) ?_
 refine nl ?_
 refine nN ?_
 refine sq ?_
 refine sq ?_
 refine rg ?_
 refine q trivial rfl rfl (mv (v := pB rb) rfl) ?_
 refine cl trivial rfl (pick (rb := rb) (Ab := Ab) (cb := cb) (bs := bs) (p := p) (n := 24) (w := _) (hr := (blk_heap hs0 0 rfl)) (hb := (hb.up hs0 (fun _ h => h) (fun _ h => .inl h))) (hbn := (by first | assumption | (simp; omega))) (hp := (by omega))) ?_
 rintro _ w1 ⟨r1, q1, rfl, p1, p2, hs1'⟩
 have hs1 : SH w w1 [rb] [.blk rb 47 [.slice Ab bs.length cb, I ((q1 : Nat) : Int)]] := hs0.callM 0 rfl hs1' (by intro k hk; simp at hk; exact hk.symm)
 clear hs1'
 refine q trivial rfl rfl (eqi (k := .i64) (a := r1) (b := 0) rfl rfl) ?_
 refine nl ?_
 refine nN ?_
 refine cdd (p := r1 = 0) rfl (fun h1 => ?_) (fun h1 => ?_)
 · refine sq ?_
   refine rg ?_
   refine q trivial rfl rfl (mv (v := pB rb) rfl) ?_
   refine bsk hs1 sl81 [Str [65], Str [97, 32, 98], Str [97, 98, 99, 100, 101, 102, 103, 104, 105], Str [97, 45, 98]] [Str [65], Str [97, 32, 98], Str [97, 98, 99, 100, 101, 102, 103, 104, 105], Str [97, 45, 98]] trivial rfl (fun b1 w2 (hs2 : SH w w2 [rb] [.blk rb 47 [.slice Ab bs.length cb, I ((q1 : Nat) : Int)], .own (some ⟨b1, 0, none⟩) (([[65], [97, 32, 98], [97, 98, 99, 100, 101, 102, 103, 104, 105], [97, 45, 98]] : List (List UInt8)).length) 4 9 1 (([[65], [97, 32, 98], [97, 98, 99, 100, 101, 102, 103, 104, 105], [97, 45, 98]] : List (List UInt8)).map Str)]) => ?_)
   refine cl trivial rfl (rdOf (rb := rb) (Ab := Ab) (cb := cb) (bs := bs) (p := q1) (Ass := (some ⟨b1, 0, none⟩)) (css := 4) (ss := ([[65], [97, 32, 98], [97, 98, 99, 100, 101, 102, 103, 104, 105], [97, 45, 98]] : List (List UInt8))) (w := _) (hr := (blk_heap hs2 0 rfl)) (hb := (hb.up hs2 (fun _ h => h) (fun _ h => .inl h))) (hbn := (by first | assumption | (simp; omega))) (hp := (by omega)) (hss := (hs2.sl 1 rfl (by intro k hk; simp at hk; subst hk; exact ⟨_, memi 0 rfl, rfl⟩))) (hne := (by first | omega | assumption | (simp; done) | (simp; omega)))) ?_
   rintro _ w3 ⟨s1, q2, rfl, p3, p4, hs3'⟩
   have hs3 : SH w w3 [rb] [.own (some ⟨b1, 0, none⟩) (([[65], [97, 32, 98], [97, 98, 99, 100, 101, 102, 103, 104, 105], [97, 45, 98]] : List (List UInt8)).length) 4 9 1 (([[65], [97, 32, 98], [97, 98, 99, 100, 101, 102, 103, 104, 105], [97, 45, 98]] : List (List UInt8)).map Str), .blk rb 47 [.slice Ab bs.length cb, I ((q2 : Nat) : Int)]] := hs2.callM 0 rfl hs3' (by intro k hk; simp at hk; exact hk.symm)
   clear hs3'
   refine q trivial rfl rfl (asg (v := Str s1) rfl) ?_
   refine nl ?_
   refine nN ?_
   refine rt (tR ?_)
   refine fret (v := Str s1) (.tmp .nil) rfl ?_
   exact ⟨s1, q2, rfl, (by first | exact usersA (by assumption) | exact usersB (by assumption)), (by omega), (hs3.pick [1] rfl (by decide))⟩
 · refine sk ?_
   refine nN ?_
   refine sq ?_
   refine rg ?_
   refine q trivial rfl rfl (mv (v := pB rb) rfl) ?_
   refine bsk hs1 sl81 [Str [97, 110, 110], Str [98, 111, 98], Str [], Str [120, 57], Str [97, 98, 99, 100, 101, 102, 103, 104]] [Str [97, 110, 110], Str [98, 111, 98], Str [], Str [120, 57], Str [97, 98, 99, 100, 101, 102, 103, 104]] trivial rfl (fun b2 w4 (hs4 : SH w w4 [rb] [.blk rb 47 [.slice Ab bs.length cb, I ((q1 : Nat) : Int)], .own (some ⟨b2, 0, none⟩) (([[97, 110, 110], [98, 111, 98], [], [120, 57], [97, 98, 99, 100, 101, 102, 103, 104]] : List (List UInt8)).length) 5 9 1 (([[97, 110, 110], [98, 111, 98], [], [120, 57], [97, 98, 99, 100, 101, 102, 103, 104]] : List (List UInt8)).map Str)]) => ?_)
   refine cl trivial rfl (rdOf (rb := rb) (Ab := Ab) (cb := cb) (bs := bs) (p := q1) (Ass := (some ⟨b2, 0, none⟩)) (css := 5) (ss := ([[97, 110, 110], [98, 111, 98], [], [120, 57], [97, 98, 99, 100, 101, 102, 103, 104]] : List (List UInt8))) (w := _) (hr := (blk_heap hs4 0 rfl)) (hb := (hb.up hs4 (fun _ h => h) (fun _ h => .inl h))) (hbn := (by first | assumption | (simp; omega))) (hp := (by omega)) (hss := (hs4.sl 1 rfl (by intro k hk; simp at hk; subst hk; exact ⟨_, memi 0 rfl, rfl⟩))) (hne := (by first | omega | assumption | (simp; done) | (simp; omega)))) ?_
   rintro _ w5 ⟨s2, q3, rfl, p5, p6, hs5'⟩
   have hs5 : SH w w5 [rb] [.own (some ⟨b2, 0, none⟩) (([[97, 110, 110], [98, 111, 98], [], [120, 57], [97, 98, 99, 100, 101, 102, 103, 104]] : List (List UInt8)).length) 5 9 1 (([[97, 110, 110], [98, 111, 98], [], [120, 57], [97, 98, 99, 100, 101, 102, 103, 104]] : List (List UInt8)).map Str), .blk rb 47 [.slice Ab bs.length cb, I ((q3 : Nat) : Int)]] := hs4.callM 0 rfl hs5' (by intro k hk; simp at hk; exact hk.symm)
   clear hs5'
   refine q trivial rfl rfl (asg (v := Str s2) rfl) ?_
   refine nl ?_
   refine nN ?_
   refine rt ?_
   refine fret (v := Str s2) (.tmp .nil) rfl ?_
   exact ⟨s2, q3, rfl, (by first | exact usersA (by assumption) | exact usersB (by assumption)), (by omega), (hs5.pick [1] rfl (by decide))⟩

set_option maxHeartbeats 8000000 in
theorem l91Old {rb : Nat} {Ab : Option Addr} {cb : Nat} {bs : List UInt8} {p : Nat} (w : World) (hr : w.heap[rb]? = some (.cells [.slice Ab bs.length cb, .int .i64 ((p : Nat) : Int)].toArray 47 (0, 0))) (hb : Sl w [rb] 1 Ab bs.length cb (bs.map U)) (hbn : bs.length ≤ 2000) (hp : p ≤ 68719476736) : Does Try.prog 35 [pB rb] w (fun v w' => ∃ Aqr : Option Addr, ∃ cqr : Nat, ∃ c : Int, ∃ ak : Int, ∃ aq : List Int, ∃ an : List UInt8, ∃ apt : Int, ∃ us : List UInt8, ∃ q : Nat, v = .agg #[.int .i64 c, .int .i64 ak, .slice Aqr aq.length cqr, Str an, .int .i64 apt, Str us] ∧ (aq.length ≤ 4) ∧ (an.length ≤ 21) ∧ (us.length ≤ 9) ∧ (q ≤ p + 100) ∧ SH w w' [rb] [.blk rb 47 [.slice Ab bs.length cb, I ((q : Nat) : Int)], .own Aqr aq.length cqr 3 1 (aq.map I)]) := by
 refine fn_enter (N := 22) Try.func35 rfl (by kernel_rfl) rfl rfl rfl ?_
 have hs0 : SH w w [rb] [.blk rb 47 [.slice Ab bs.length cb, I ((p : Nat) : Int)]] := SH.entry1 hr
 refine sq ?_
 refine rg ?_
 refine al (v := .agg #[I 0, I 0, ns, Str [], I 0, Str []]) (cs := [I 0, I 0, ns, Str [], I 0, Str []]) hs0 tz54 rfl trivial rfl (fun b1 w1 (hs1 : SH w w1 [rb] [.blk rb 47 [.slice Ab bs.length cb, I ((p : Nat) : Int)], .blk b1 54 [I 0, I 0, ns, Str [], I 0, Str []]]) => ?_)
 refine nl ?_
 refine nN ?_
 refine sq ?_
 refine rg ?_
 refine q trivial rfl rfl (mv (v := pB rb) rfl) ?_
 refine cl trivial rfl (pick (rb := rb) (Ab := Ab) (cb := cb) (bs := bs) (p := p) (n := 2) (w := _) (hr := (blk_heap hs1 0 rfl)) (hb := (hb.up hs1 (fun _ h => h) (fun _ h => .inl h))) (hbn := (by first | assumption | (simp; omega))) (hp := (by omega))) ?_
 rintro _ w2 ⟨r1, q1, rfl, p1, p2, hs2'⟩
 have hs2 : SH w w2 [rb] [.blk b1 54 [I 0, I 0, ns, Str [], I 0, Str []], .blk rb 47 [.slice Ab bs.length cb, I ((q1 : Nat) : Int)]] := hs1.callM 0 rfl hs2' (by intro k hk; simp at hk; exact hk.symm)
 clear hs2'
 refine q trivial rfl rfl (add (a := 1) (b := r1) rfl rfl (by exact ⟨by omega, by omega⟩)) ?_
 refine q trivial rfl rfl (mv (v := pB rb) rfl) ?_
 refine cl trivial rfl (l91Address (rb := rb) (Ab := Ab) (cb := cb) (bs := bs) (p := q1) (w := _) (hr := (blk_heap hs2 1 rfl)) (hb := (hb.up hs2 (fun _ h => h) (fun _ h => .inl h))) (hbn := (by first | assumption | (simp; omega))) (hp := (by omega))) ?_
 rintro _ w3 ⟨Aq1, cq1, ak1, aq1, an1, apt1, q2, rfl, p3, p4, p5, hs3'⟩
 have hs3 : SH w w3 [rb] [.blk b1 54 [I 0, I 0, ns, Str [], I 0, Str []], .blk rb 47 [.slice Ab bs.length cb, I ((q2 : Nat) : Int)], .own Aq1 aq1.length cq1 3 1 (aq1.map I)] := hs2.callM 1 rfl hs3' (by intro k hk; simp at hk; exact hk.symm)
 clear hs3'
 refine q trivial rfl rfl (mv (v := pB rb) rfl) ?_
 refine cl trivial rfl (l91User (rb := rb) (Ab := Ab) (cb := cb) (bs := bs) (p := q2) (w := _) (hr := (blk_heap hs3 1 rfl)) (hb := (hb.up hs3 (fun _ h => h) (fun _ h => .inl h))) (hbn := (by first | assumption | (simp; omega))) (hp := (by omega))) ?_
 rintro _ w4 ⟨s1, q3, rfl, p6, p7, hs4'⟩
 have hs4 : SH w w4 [rb] [.blk b1 54 [I 0, I 0, ns, Str [], I 0, Str []], .own Aq1 aq1.length cq1 3 1 (aq1.map I), .blk rb 47 [.slice Ab bs.length cb, I ((q3 : Nat) : Int)]] := hs3.callM 1 rfl hs4' (by intro k hk; simp at hk; exact hk.symm)
 clear hs4'
 refine q trivial rfl rfl (bdv (v := .agg #[I (1 + r1), I ak1, .slice Aq1 aq1.length cq1, Str an1, I apt1, Str s1]) [(0, I (1 + r1)), (1, .agg #[I ak1, .slice Aq1 aq1.length cq1, Str an1, I apt1]), (2, Str s1)] rfl (fun _ => by kernel_rfl)) ?_
 refine al (v := .agg #[I 0, I 0, ns, Str [], I 0, Str []]) (cs := [I 0, I 0, ns, Str [], I 0, Str []]) hs4 tz54 rfl trivial rfl (fun b2 w5 (hs5 : SH w w5 [rb] [.blk b1 54 [I 0, I 0, ns, Str [], I 0, Str []], .own Aq1 aq1.length cq1 3 1 (aq1.map I), .blk rb 47 [.slice Ab bs.length cb, I ((q3 : Nat) : Int)], .blk b2 54 [I 0, I 0, ns, Str [], I 0, Str []]]) => ?_)
 refine stg (vs := [I (1 + r1), I ak1, .slice Aq1 aq1.length cq1, Str an1, I apt1, Str s1]) hs5 3 rfl rfl rfl rfl rfl rfl rfl ag54 trivial (fun w6 (hs6 : SH w w6 [rb] [.blk b1 54 [I 0, I 0, ns, Str [], I 0, Str []], .own Aq1 aq1.length cq1 3 1 (aq1.map I), .blk rb 47 [.slice Ab bs.length cb, I ((q3 : Nat) : Int)], .blk b2 54 [I (1 + r1), I ak1, .slice Aq1 aq1.length cq1, Str an1, I apt1, Str s1]]) => ?_)
 refine nl ?_
 refine nN ?_
 refine sq ?_
 refine sq ?_
 refine rg ?_
 refine q trivial rfl rfl (mv (v := pB rb) rfl) ?_
 refine cl trivial rfl (pick (rb := rb) (Ab := Ab) (cb := cb) (bs := bs) (p := q3) (n := 30) (w := _) (hr := (blk_heap hs6 2 rfl)) (hb := (hb.up hs6 (fun _ h => h) (fun _ h => .inl h))) (hbn := (by first | assumption | (simp; omega))) (hp := (by omega))) ?_
 rintro _ w7 ⟨r2, q4, rfl, p8, p9, hs7'⟩
 have hs7 : SH w w7 [rb] [.blk b1 54 [I 0, I 0, ns, Str [], I 0, Str []], .own Aq1 aq1.length cq1 3 1 (aq1.map I), .blk b2 54 [I (1 + r1), I ak1, .slice Aq1 aq1.length cq1, Str an1, I apt1, Str s1], .blk rb 47 [.slice Ab bs.length cb, I ((q4 : Nat) : Int)]] := hs6.callM 2 rfl hs7' (by intro k hk; simp at hk; exact hk.symm)
 clear hs7'
 refine q trivial rfl rfl (eqi (k := .i64) (a := r2) (b := 0) rfl rfl) ?_
 refine nl ?_
 refine nN ?_
 refine cdd (p := r2 = 0) rfl (fun h1 => ?_) (fun h1 => ?_)
 · refine rg ?_
   refine bsk hs7 sl24 [I 0, I 3] [I 0, I 3] trivial rfl (fun b3 w8 (hs8 : SH w w8 [rb] [.blk b1 54 [I 0, I 0, ns, Str [], I 0, Str []], .own Aq1 aq1.length cq1 3 1 (aq1.map I), .blk b2 54 [I (1 + r1), I ak1, .slice Aq1 aq1.length cq1, Str an1, I apt1, Str s1], .blk rb 47 [.slice Ab bs.length cb, I ((q4 : Nat) : Int)], oI b3 ([0, 3] : List Int) 2 3]) => ?_)
   refine q trivial rfl rfl (mv (v := pB rb) rfl) ?_
   refine cl trivial rfl (pick (rb := rb) (Ab := Ab) (cb := cb) (bs := bs) (p := q4) (n := 2) (w := _) (hr := (blk_heap hs8 3 rfl)) (hb := (hb.up hs8 (fun _ h => h) (fun _ h => .inl h))) (hbn := (by first | assumption | (simp; omega))) (hp := (by omega))) ?_
   rintro _ w9 ⟨r3, q5, rfl, p10, p11, hs9'⟩
   have hs9 : SH w w9 [rb] [.blk b1 54 [I 0, I 0, ns, Str [], I 0, Str []], .own Aq1 aq1.length cq1 3 1 (aq1.map I), .blk b2 54 [I (1 + r1), I ak1, .slice Aq1 aq1.length cq1, Str an1, I apt1, Str s1], oI b3 ([0, 3] : List Int) 2 3, .blk rb 47 [.slice Ab bs.length cb, I ((q5 : Nat) : Int)]] := hs8.callM 3 rfl hs9' (by intro k hk; simp at hk; exact hk.symm)
   clear hs9'
   refine q trivial rfl rfl (ixo r3.toNat sl24 rfl (ieq (x := r3) (by omega)) (by first | omega | (simp; done) | (simp; omega))) ?_
   refine q trivial rfl rfl (ldo1n (g := I) (ys := ([0, 3] : List Int)) (o := r3.toNat) 0 hs9 3 rfl rfl (by first | omega | (simp; done) | (simp; omega)) one3) ?_
   refine q trivial rfl rfl (fa 0 fo54_0 rfl) ?_
   refine st (v := I (([0, 3] : List Int).getD r3.toNat 0)) hs9 2 rfl rfl rfl rfl rfl one3 trivial (fun w10 (hs10 : SH w w10 [rb] [.blk b1 54 [I 0, I 0, ns, Str [], I 0, Str []], .own Aq1 aq1.length cq1 3 1 (aq1.map I), oI b3 ([0, 3] : List Int) 2 3, .blk rb 47 [.slice Ab bs.length cb, I ((q5 : Nat) : Int)], .blk b2 54 [I (([0, 3] : List Int).getD r3.toNat 0), I ak1, .slice Aq1 aq1.length cq1, Str an1, I apt1, Str s1]]) => ?_)
   refine nl ?_
   refine nN ?_
   refine sq ?_
   refine rg ?_
   refine q trivial rfl rfl (ldg (vs := [I (([0, 3] : List Int).getD r3.toNat 0), I ak1, .slice Aq1 aq1.length cq1, Str an1, I apt1, Str s1]) hs10 4 rfl rfl rfl rfl ag54) ?_
   refine stg (vs := [I (([0, 3] : List Int).getD r3.toNat 0), I ak1, .slice Aq1 aq1.length cq1, Str an1, I apt1, Str s1]) hs10 0 rfl rfl rfl rfl rfl rfl rfl ag54 trivial (fun w11 (hs11 : SH w w11 [rb] [.own Aq1 aq1.length cq1 3 1 (aq1.map I), oI b3 ([0, 3] : List Int) 2 3, .blk rb 47 [.slice Ab bs.length cb, I ((q5 : Nat) : Int)], .blk b2 54 [I (([0, 3] : List Int).getD r3.toNat 0), I ak1, .slice Aq1 aq1.length cq1, Str an1, I apt1, Str s1], .blk b1 54 [I (([0, 3] : List Int).getD r3.toNat 0), I ak1, .slice Aq1 aq1.length cq1, Str an1, I apt1, Str s1]]) => ?_)
   refine nl ?_
   refine nN ?_
   have hs12 : SH w w11 [rb] [.own Aq1 aq1.length cq1 3 1 (aq1.map I), .blk rb 47 [.slice Ab bs.length cb, I ((q5 : Nat) : Int)], .blk b1 54 [I (([0, 3] : List Int).getD r3.toNat 0), I ak1, .slice Aq1 aq1.length cq1, Str an1, I apt1, Str s1]] := hs11.pick [0, 2, 4] rfl (by decide)
   refine rt ?_
   refine fret (v := .agg #[I (([0, 3] : List Int).getD r3.toNat 0), I ak1, .slice Aq1 aq1.length cq1, Str an1, I apt1, Str s1]) (resC hs12 2 rfl rfl ag54 rfl .nil) rfl ?_
   exact ⟨Aq1, cq1, ([0, 3] : List Int).getD r3.toNat 0, ak1, aq1, an1, apt1, s1, q5, rfl, (by first | assumption | omega | (simp; done)), (by first | assumption | omega | (simp; done)), (by first | assumption | omega | (simp; done)), (by first | assumption | omega | (simp; done)), (hs12.pick [1, 0] rfl (by decide))⟩
 · refine sk ?_
   refine nN ?_
   refine sq ?_
   refine rg ?_
   refine q trivial rfl rfl (ldg (vs := [I (1 + r1), I ak1, .slice Aq1 aq1.length cq1, Str an1, I apt1, Str s1]) hs7 2 rfl rfl rfl rfl ag54) ?_
   refine stg (vs := [I (1 + r1), I ak1, .slice Aq1 aq1.length cq1, Str an1, I apt1, Str s1]) hs7 0 rfl rfl rfl rfl rfl rfl rfl ag54 trivial (fun w12 (hs13 : SH w w12 [rb] [.own Aq1 aq1.length cq1 3 1 (aq1.map I), .blk b2 54 [I (1 + r1), I ak1, .slice Aq1 aq1.length cq1, Str an1, I apt1, Str s1], .blk rb 47 [.slice Ab bs.length cb, I ((q4 : Nat) : Int)], .blk b1 54 [I (1 + r1), I ak1, .slice Aq1 aq1.length cq1, Str an1, I apt1, Str s1]]) => ?_)
   refine nl ?_
   refine nN ?_
   refine rt ?_
   refine fret (v := .agg #[I (1 + r1), I ak1, .slice Aq1 aq1.length cq1, Str an1, I apt1, Str s1]) (resC hs13 3 rfl rfl ag54 rfl .nil) rfl ?_
   exact ⟨Aq1, cq1, 1 + r1, ak1, aq1, an1, apt1, s1, q4, rfl, (by first | assumption | omega | (simp; done)), (by first | assumption | omega | (simp; done)), (by first | assumption | omega | (simp; done)), (by first | assumption | omega | (simp; done)), (hs13.pick [2, 0] rfl (by decide))⟩

set_option maxHeartbeats 8000000 in
theorem l91Methods {rb : Nat} {Ab : Option Addr} {cb : Nat} {bs : List UInt8} {p : Nat} (w : World) (hr : w.heap[rb]? = some (.cells [.slice Ab bs.length cb, .int .i64 ((p : Nat) : Int)].toArray 47 (0, 0))) (hb : Sl w [rb] 1 Ab bs.length cb (bs.map U)) (hbn : bs.length ≤ 2000) (hp : p ≤ 68719476736) : Does Try.prog 37 [pB rb] w (fun v w' => ∃ Ar : Option Addr, ∃ cr : Nat, ∃ r : List Int, ∃ q : Nat, v = .slice Ar r.length cr ∧ (r.length ≤ 6) ∧ (q ≤ p + 40) ∧ SH w w' [rb] [.blk rb 47 [.slice Ab bs.length cb, I ((q : Nat) : Int)], .own Ar r.length cr 3 1 (r.map I)]) := by
 refine fn_enter (N := 48) Try.func37 rfl (by kernel_rfl) rfl rfl rfl ?_
 have hs0 : SH w w [rb] [.blk rb 47 [.slice Ab bs.length cb, I ((p : Nat) : Int)]] := SH.entry1 hr
 refine sq ?_
 refine rg ?_
 refine q trivial rfl rfl (asg (v := ns) rfl) ?_
 refine nl ?_
 refine nN ?_
 refine sq ?_
 refine rg ?_
 refine bsk hs0 sl24 [] [] trivial rfl (fun b1 w1 (hs1 : SH w w1 [rb] [.blk rb 47 [.slice Ab bs.length cb, I ((p : Nat) : Int)], oI b1 ([] : List Int) 0 3]) => ?_)
 refine q trivial rfl rfl (asg (v := sb b1 (([] : List Int).length) 0) rfl) ?_
 refine nl ?_
 refine nN ?_
 refine sq ?_
 refine rg ?_
 refine bsk hs1 sl24 [I 2, I 0, I 1, I 3, I 128] [I 2, I 0, I 1, I 3, I 128] trivial rfl (fun b2 w2 (hs2 : SH w w2 [rb] [.blk rb 47 [.slice Ab bs.length cb, I ((p : Nat) : Int)], oI b1 ([] : List Int) 0 3, oI b2 ([2, 0, 1, 3, 128] : List Int) 5 3]) => ?_)
 refine q trivial rfl rfl (asg (v := sb b2 (([2, 0, 1, 3, 128] : List Int).length) 5) rfl) ?_
 refine nl ?_
 refine nN ?_
 refine sq ?_
 refine sq ?_
 refine rg ?_
 refine q trivial rfl rfl (asg (v := I 0) rfl) ?_
 refine nl ?_
 refine nN ?_
 refine bl ?_
 refine lp (σ := (Option Addr) × Nat × Nat × Nat × (List Int)) (fun ⟨Ag3, cg3, q0, k, zs⟩ f w' => Has f [(0, pB rb), (3, .slice Ag3 zs.length cg3), (4, sb b2 (([2, 0, 1, 3, 128] : List Int).length) 5), (5, I ((k : Nat) : Int))] ∧ (k ≤ ([2, 0, 1, 3, 128] : List Int).length) ∧ (zs.length ≤ k) ∧ (q0 ≤ p + k + 1) ∧ (k ≤ 5) ∧ SH w w' [rb] [.blk rb 47 [.slice Ab bs.length cb, I ((q0 : Nat) : Int)], .own Ag3 zs.length cg3 3 1 (zs.map I), oI b2 ([2, 0, 1, 3, 128] : List Int) 5 3]) (fun ⟨Ag3, cg3, q0, k, zs⟩ => ([2, 0, 1, 3, 128] : List Int).length - k) ((some ⟨b1, 0, none⟩), 0, p, 0, ([] : List Int)) ⟨⟨rfl, rfl, rfl, rfl, trivial⟩, (by omega), (by simp), (by omega), (by omega), hs2⟩ ?_
 rintro ⟨Ag3, cg3, q0, k, zs⟩ f w3 ⟨hf, hk, hz, hq, hk5, hs3⟩
 obtain ⟨g1, rfl⟩ := has_upd hf
 clear hf
 refine sq ?_
 refine sq ?_
 refine rg ?_
 refine q trivial rfl rfl (mv (v := I ((k : Nat) : Int)) rfl) ?_
 refine q trivial rfl rfl (mv (v := sb b2 (([2, 0, 1, 3, 128] : List Int).length) 5) rfl) ?_
 refine q trivial rfl rfl (lnA (n := ([2, 0, 1, 3, 128] : List Int).length) sl24 rfl) ?_
 refine q trivial rfl rfl (lss (k := .i64) (a := ((k : Nat) : Int)) (b := ((([2, 0, 1, 3, 128] : List Int).length : Nat) : Int)) rfl rfl) ?_
 refine nl ?_
 refine nN ?_
 refine cdd (p := ((k : Nat) : Int) < ((([2, 0, 1, 3, 128] : List Int).length : Nat) : Int)) rfl (fun h1 => ?_) (fun h1 => ?_)
 · refine sk ?_
   refine nN ?_
   refine sq ?_
   refine bl ?_
   refine sq ?_
   refine rg ?_
   refine q trivial rfl rfl (mv (v := pB rb) rfl) ?_
   refine cl trivial rfl (pick (rb := rb) (Ab := Ab) (cb := cb) (bs := bs) (p := q0) (n := 2) (w := _) (hr := (blk_heap hs3 0 rfl)) (hb := (hb.up hs3 (fun _ h => h) (fun _ h => .inl h))) (hbn := (by first | assumption | (simp; omega))) (hp := (by omega))) ?_
   rintro _ w4 ⟨r1, q1, rfl, p1, p2, hs4'⟩
   have hs4 : SH w w4 [rb] [.own Ag3 zs.length cg3 3 1 (zs.map I), oI b2 ([2, 0, 1, 3, 128] : List Int) 5 3, .blk rb 47 [.slice Ab bs.length cb, I ((q1 : Nat) : Int)]] := hs3.callM 0 rfl hs4' (by intro k hk; simp at hk; exact hk.symm)
   clear hs4'
   refine q trivial rfl rfl (eqi (k := .i64) (a := r1) (b := 0) rfl rfl) ?_
   refine nl ?_
   refine nN ?_
   refine cdd (p := r1 = 0) rfl (fun h2 => ?_) (fun h2 => ?_)
   · refine rg ?_
     refine q trivial rfl rfl (mv (v := .slice Ag3 zs.length cg3) rfl) ?_
     refine q trivial rfl rfl (mv (v := sb b2 (([2, 0, 1, 3, 128] : List Int).length) 5) rfl) ?_
     refine q trivial rfl rfl (mv (v := I ((k : Nat) : Int)) rfl) ?_
     refine q trivial rfl rfl (ixo k sl24 rfl rfl (by first | (first | omega | (simp; done) | (simp; omega)) | (have hl5 : ([2, 0, 1, 3, 128] : List Int).length = 5 := rfl; first | omega | (simp; done) | (simp; omega)))) ?_
     refine q trivial rfl rfl (ldo1n (g := I) (ys := ([2, 0, 1, 3, 128] : List Int)) (o := k) 0 hs4 1 rfl rfl (by first | (first | omega | (simp; done) | (simp; omega)) | (have hl5 : ([2, 0, 1, 3, 128] : List Int).length = 5 := rfl; first | omega | (simp; done) | (simp; omega))) one3) ?_
     refine bsk hs4 sl24 [I (([2, 0, 1, 3, 128] : List Int).getD k 0)] [I (([2, 0, 1, 3, 128] : List Int).getD k 0)] trivial rfl (fun b3 w5 (hs5 : SH w w5 [rb] [.own Ag3 zs.length cg3 3 1 (zs.map I), oI b2 ([2, 0, 1, 3, 128] : List Int) 5 3, .blk rb 47 [.slice Ab bs.length cb, I ((q1 : Nat) : Int)], oI b3 ([([2, 0, 1, 3, 128] : List Int).getD k 0] : List Int) 1 3]) => ?_)
     refine apm (g := I) (ys := zs) (zs := ([([2, 0, 1, 3, 128] : List Int).getD k 0] : List Int)) hs5 0 rfl sl24 rfl rfl rfl (hs5.sl0 3 rfl) (fun _ => rfl) (by unfold maxLen; first | (first | omega | (simp; done) | (simp; omega)) | (have hl5 : ([2, 0, 1, 3, 128] : List Int).length = 5 := rfl; first | omega | (simp; done) | (simp; omega))) (by first | (first | omega | (simp; done) | (simp; omega)) | (have hl5 : ([2, 0, 1, 3, 128] : List Int).length = 5 := rfl; first | omega | (simp; done) | (simp; omega))) trivial rfl (fun A1 c1 w6 (hs6 : SH w w6 [rb] [oI b2 ([2, 0, 1, 3, 128] : List Int) 5 3, .blk rb 47 [.slice Ab bs.length cb, I ((q1 : Nat) : Int)], oI b3 ([([2, 0, 1, 3, 128] : List Int).getD k 0] : List Int) 1 3, .own A1 ((zs ++ ([([2, 0, 1, 3, 128] : List Int).getD k 0] : List Int)).length) c1 3 1 ((zs ++ ([([2, 0, 1, 3, 128] : List Int).getD k 0] : List Int)).map I)]) => ?_)
     refine q trivial rfl rfl (asg (v := .slice A1 ((zs ++ ([([2, 0, 1, 3, 128] : List Int).getD k 0] : List Int)).length) c1) rfl) ?_
     refine nl ?_
     refine bN ?_
     refine nN ?_
     refine rg ?_
     refine q trivial rfl rfl (mv (v := I ((k : Nat) : Int)) rfl) ?_
     refine q trivial rfl rfl (add (a := ((k : Nat) : Int)) (b := 1) rfl rfl (by first | (exact ⟨by omega, by omega⟩) | (have hl5 : ([2, 0, 1, 3, 128] : List Int).length = 5 := rfl; exact ⟨by omega, by omega⟩))) ?_
     refine q trivial rfl rfl (asg (v := I (((k : Nat) : Int) + 1)) rfl) ?_
     refine nl ?_
     refine nN ?_
     refine ⟨(A1, c1, q1, k + 1, (zs ++ ([([2, 0, 1, 3, 128] : List Int).getD k 0] : List Int))), ⟨⟨rfl, rfl, rfl, rfl, trivial⟩, (by omega), (by simp; omega), (by omega), (by have hl5 : ([2, 0, 1, 3, 128] : List Int).length = 5 := rfl; omega), (hs6.pick [1, 3, 0] rfl (by decide))⟩, ?_⟩
     show ([2, 0, 1, 3, 128] : List Int).length - (k + 1) < ([2, 0, 1, 3, 128] : List Int).length - k
     omega
   · refine sk ?_
     refine bN ?_
     refine nN ?_
     refine rg ?_
     refine q trivial rfl rfl (mv (v := I ((k : Nat) : Int)) rfl) ?_
     refine q trivial rfl rfl (add (a := ((k : Nat) : Int)) (b := 1) rfl rfl (by first | (exact ⟨by omega, by omega⟩) | (have hl5 : ([2, 0, 1, 3, 128] : List Int).length = 5 := rfl; exact ⟨by omega, by omega⟩))) ?_
     refine q trivial rfl rfl (asg (v := I (((k : Nat) : Int) + 1)) rfl) ?_
     refine nl ?_
     refine nN ?_
     refine ⟨(Ag3, cg3, q1, k + 1, zs), ⟨⟨rfl, rfl, rfl, rfl, trivial⟩, (by omega), (by omega), (by omega), (by have hl5 : ([2, 0, 1, 3, 128] : List Int).length = 5 := rfl; omega), (hs4.pick [2, 0, 1] rfl (by decide))⟩, ?_⟩
     show ([2, 0, 1, 3, 128] : List Int).length - (k + 1) < ([2, 0, 1, 3, 128] : List Int).length - k
     omega
 · refine ex (tE (tE (bE ?_)))
   refine nN ?_
   refine sq ?_
   refine sq ?_
   refine rg ?_
   refine q trivial rfl rfl (mv (v := .slice Ag3 zs.length cg3) rfl) ?_
   refine q trivial rfl rfl (lnA (n := zs.length) sl24 rfl) ?_
   refine q trivial rfl rfl (eqi (k := .i64) (a := ((zs.length : Nat) : Int)) (b := 0) rfl rfl) ?_
   refine nl ?_
   refine nN ?_
   refine cdd (p := ((zs.length : Nat) : Int) = 0) rfl (fun h3 => ?_) (fun h3 => ?_)
   · refine rg ?_
     refine q trivial rfl rfl (mv (v := .slice Ag3 zs.length cg3) rfl) ?_
     refine bsk hs3 sl24 [I 0] [I 0] trivial rfl (fun b4 w7 (hs7 : SH w w7 [rb] [.blk rb 47 [.slice Ab bs.length cb, I ((q0 : Nat) : Int)], .own Ag3 zs.length cg3 3 1 (zs.map I), oI b2 ([2, 0, 1, 3, 128] : List Int) 5 3, oI b4 ([0] : List Int) 1 3]) => ?_)
     refine apm (g := I) (ys := zs) (zs := ([0] : List Int)) hs7 1 rfl sl24 rfl rfl rfl (hs7.sl0 3 rfl) (fun _ => rfl) (by unfold maxLen; first | (first | omega | (simp; done) | (simp; omega)) | (have hl5 : ([2, 0, 1, 3, 128] : List Int).length = 5 := rfl; first | omega | (simp; done) | (simp; omega))) (by first | (first | omega | (simp; done) | (simp; omega)) | (have hl5 : ([2, 0, 1, 3, 128] : List Int).length = 5 := rfl; first | omega | (simp; done) | (simp; omega))) trivial rfl (fun A2 c2 w8 (hs8 : SH w w8 [rb] [.blk rb 47 [.slice Ab bs.length cb, I ((q0 : Nat) : Int)], oI b2 ([2, 0, 1, 3, 128] : List Int) 5 3, oI b4 ([0] : List Int) 1 3, .own A2 ((zs ++ ([0] : List Int)).length) c2 3 1 ((zs ++ ([0] : List Int)).map I)]) => ?_)
     refine q trivial rfl rfl (asg (v := .slice A2 ((zs ++ ([0] : List Int)).length) c2) rfl) ?_
     refine nl ?_
     refine nN ?_
     have hs9 : SH w w8 [rb] [.blk rb 47 [.slice Ab bs.length cb, I ((q0 : Nat) : Int)], .own A2 ((zs ++ ([0] : List Int)).length) c2 3 1 ((zs ++ ([0] : List Int)).map I)] := hs8.pick [0, 3] rfl (by decide)
     refine sq ?_
     refine sq ?_
     refine rg ?_
     refine q trivial rfl rfl (mv (v := pB rb) rfl) ?_
     refine cl trivial rfl (pick (rb := rb) (Ab := Ab) (cb := cb) (bs := bs) (p := q0) (n := 30) (w := _) (hr := (blk_heap hs9 0 rfl)) (hb := (hb.up hs9 (fun _ h => h) (fun _ h => .inl h))) (hbn := (by first | assumption | (simp; omega))) (hp := (by omega))) ?_
     rintro _ w9 ⟨r2, q2, rfl, p3, p4, hs10'⟩
     have hs10 : SH w w9 [rb] [.own A2 ((zs ++ ([0] : List Int)).length) c2 3 1 ((zs ++ ([0] : List Int)).map I), .blk rb 47 [.slice Ab bs.length cb, I ((q2 : Nat) : Int)]] := hs9.callM 0 rfl hs10' (by intro k hk; simp at hk; exact hk.symm)
     clear hs10'
     refine nl ?_
     refine nN ?_
     refine bl ?_
     refine sq ?_
     refine rg ?_
     refine q trivial rfl rfl (eqi (k := .i64) (a := r2) (b := 0) rfl rfl) ?_
     refine q trivial rfl rfl (asg (v := .bool (decide (r2 = 0))) rfl) ?_
     refine nl ?_
     refine nN ?_
     refine cdd (p := r2 = 0) rfl (fun h4 => ?_) (fun h4 => ?_)
     · refine rg ?_
       refine q trivial rfl rfl (mv (v := .slice A2 ((zs ++ ([0] : List Int)).length) c2) rfl) ?_
       obtain ⟨b5, rfl⟩ := own_form hs10 0 rfl (by first | (first | omega | (simp; done) | (simp; omega)) | (have hl5 : ([2, 0, 1, 3, 128] : List Int).length = 5 := rfl; first | omega | (simp; done) | (simp; omega)))
       refine q trivial rfl rfl (ixo 0 sl24 rfl rfl (by first | (first | omega | (simp; done) | (simp; omega)) | (have hl5 : ([2, 0, 1, 3, 128] : List Int).length = 5 := rfl; first | omega | (simp; done) | (simp; omega)))) ?_
       refine stomn (g := I) (ys := zs ++ ([0] : List Int)) (o := 0) (u := 255) hs10 0 rfl rfl rfl rfl (by first | (first | omega | (simp; done) | (simp; omega)) | (have hl5 : ([2, 0, 1, 3, 128] : List Int).length = 5 := rfl; first | omega | (simp; done) | (simp; omega))) rfl one3 trivial (fun w10 (hs11 : SH w w10 [rb] [.blk rb 47 [.slice Ab bs.length cb, I ((q2 : Nat) : Int)], .own (some ⟨b5, 0, none⟩) ((zs ++ ([0] : List Int)).length) c2 3 1 (((zs ++ ([0] : List Int)).set 0 255).map I)]) => ?_)
       refine nl ?_
       refine bN ?_
       refine nN ?_
       refine sq ?_
       refine rg ?_
       refine q trivial rfl rfl (mv (v := sb b5 ((zs ++ ([0] : List Int)).length) c2) rfl) ?_
       refine q trivial rfl rfl (asg (v := sb b5 ((zs ++ ([0] : List Int)).length) c2) rfl) ?_
       have e1 : (zs ++ ([0] : List Int)).length = ((zs ++ ([0] : List Int)).set 0 255).length := by first | (first | rfl | (simp; done) | (simp; omega) | (simp at *; omega)) | (have hl5 : ([2, 0, 1, 3, 128] : List Int).length = 5 := rfl; first | rfl | (simp; done) | (simp; omega) | (simp at *; omega))
       have hs12 : SH w w10 [rb] [.blk rb 47 [.slice Ab bs.length cb, I ((q2 : Nat) : Int)], oI b5 ((zs ++ ([0] : List Int)).set 0 255) c2 3] := (hs11.cast (lc rfl (lc (own_eq (g := I) rfl e1 rfl rfl) rfl)))
       refine re 2 (v := sb b5 (((zs ++ ([0] : List Int)).set 0 255).length) c2) (show (sb b5 ((zs ++ ([0] : List Int)).length) c2 : Value) = sb b5 (((zs ++ ([0] : List Int)).set 0 255).length) c2 from slv rfl e1 rfl) ?_
       refine nl ?_
       refine nN ?_
       refine rt ?_
       refine fret (v := sb b5 (((zs ++ ([0] : List Int)).set 0 255).length) c2) (.tmp .nil) rfl ?_
       exact ⟨(some ⟨b5, 0, none⟩), c2, (zs ++ ([0] : List Int)).set 0 255, q2, rfl, (by have hl5 : ([2, 0, 1, 3, 128] : List Int).length = 5 := rfl; first | omega | (simp; done) | (simp; omega)), (by have hl5 : ([2, 0, 1, 3, 128] : List Int).length = 5 := rfl; omega), hs12⟩
     · refine sq ?_
       refine rg ?_
       refine q trivial rfl rfl (eqi (k := .i64) (a := r2) (b := 1) rfl rfl) ?_
       refine q trivial rfl rfl (asg (v := .bool (decide (r2 = 1))) rfl) ?_
       refine nl ?_
       refine nN ?_
       refine cdd (p := r2 = 1) rfl (fun h5 => ?_) (fun h5 => ?_)
       · refine rg ?_
         refine q trivial rfl rfl (mv (v := .slice A2 ((zs ++ ([0] : List Int)).length) c2) rfl) ?_
         refine q trivial rfl rfl (mv (v := .slice A2 ((zs ++ ([0] : List Int)).length) c2) rfl) ?_
         refine ixw1 0 sl24 rfl rfl (hs10.sl0 0 rfl) (by first | (first | omega | (simp; done) | (simp; omega)) | (have hl5 : ([2, 0, 1, 3, 128] : List Int).length = 5 := rfl; first | omega | (simp; done) | (simp; omega))) (getm I 0 (by first | (first | omega | (simp; done) | (simp; omega)) | (have hl5 : ([2, 0, 1, 3, 128] : List Int).length = 5 := rfl; first | omega | (simp; done) | (simp; omega)))) trivial rfl (fun a1 ha1 => ?_)
         refine q trivial rfl rfl (lda (v := I ((zs ++ ([0] : List Int)).getD 0 0)) (SH.refl w9 []) ha1 (fun _ h => h) rfl rfl one3) ?_
         refine bsk hs10 sl24 [I ((zs ++ ([0] : List Int)).getD 0 0)] [I ((zs ++ ([0] : List Int)).getD 0 0)] trivial rfl (fun b6 w11 (hs13 : SH w w11 [rb] [.own A2 ((zs ++ ([0] : List Int)).length) c2 3 1 ((zs ++ ([0] : List Int)).map I), .blk rb 47 [.slice Ab bs.length cb, I ((q2 : Nat) : Int)], oI b6 ([(zs ++ ([0] : List Int)).getD 0 0] : List Int) 1 3]) => ?_)
         refine apm (g := I) (ys := zs ++ ([0] : List Int)) (zs := ([(zs ++ ([0] : List Int)).getD 0 0] : List Int)) hs13 0 rfl sl24 rfl rfl rfl (hs13.sl0 2 rfl) (fun _ => rfl) (by unfold maxLen; first | (first | omega | (simp; done) | (simp; omega)) | (have hl5 : ([2, 0, 1, 3, 128] : List Int).length = 5 := rfl; first | omega | (simp; done) | (simp; omega))) (by first | (first | omega | (simp; done) | (simp; omega)) | (have hl5 : ([2, 0, 1, 3, 128] : List Int).length = 5 := rfl; first | omega | (simp; done) | (simp; omega))) trivial rfl (fun A3 c3 w12 (hs14 : SH w w12 [rb] [.blk rb 47 [.slice Ab bs.length cb, I ((q2 : Nat) : Int)], oI b6 ([(zs ++ ([0] : List Int)).getD 0 0] : List Int) 1 3, .own A3 (((zs ++ ([0] : List Int)) ++ ([(zs ++ ([0] : List Int)).getD 0 0] : List Int)).length) c3 3 1 (((zs ++ ([0] : List Int)) ++ ([(zs ++ ([0] : List Int)).getD 0 0] : List Int)).map I)]) => ?_)
         refine q trivial rfl rfl (asg (v := .slice A3 (((zs ++ ([0] : List Int)) ++ ([(zs ++ ([0] : List Int)).getD 0 0] : List Int)).length) c3) rfl) ?_
         refine nl ?_
         refine bN ?_
         refine nN ?_
         refine sq ?_
         refine rg ?_
         refine q trivial rfl rfl (mv (v := .slice A3 (((zs ++ ([0] : List Int)) ++ ([(zs ++ ([0] : List Int)).getD 0 0] : List Int)).length) c3) rfl) ?_
         refine q trivial rfl rfl (asg (v := .slice A3 (((zs ++ ([0] : List Int)) ++ ([(zs ++ ([0] : List Int)).getD 0 0] : List Int)).length) c3) rfl) ?_
         refine nl ?_
         refine nN ?_
         refine rt ?_
         refine fret (v := .slice A3 (((zs ++ ([0] : List Int)) ++ ([(zs ++ ([0] : List Int)).getD 0 0] : List Int)).length) c3) (.tmp .nil) rfl ?_
         exact ⟨A3, c3, (zs ++ ([0] : List Int)) ++ ([(zs ++ ([0] : List Int)).getD 0 0] : List Int), q2, rfl, (by have hl5 : ([2, 0, 1, 3, 128] : List Int).length = 5 := rfl; first | omega | (simp; done) | (simp; omega)), (by have hl5 : ([2, 0, 1, 3, 128] : List Int).length = 5 := rfl; omega), (hs14.pick [0, 2] rfl (by decide))⟩
       · refine sq ?_
         refine rg ?_
         refine q trivial rfl rfl (eqi (k := .i64) (a := r2) (b := 2) rfl rfl) ?_
         refine q trivial rfl rfl (asg (v := .bool (decide (r2 = 2))) rfl) ?_
         refine nl ?_
         refine nN ?_
         refine cdd (p := r2 = 2) rfl (fun h6 => ?_) (fun h6 => ?_)
         · refine sq ?_
           refine rg ?_
           refine bsk hs10 sl24 [] [] trivial rfl (fun b7 w13 (hs15 : SH w w13 [rb] [.own A2 ((zs ++ ([0] : List Int)).length) c2 3 1 ((zs ++ ([0] : List Int)).map I), .blk rb 47 [.slice Ab bs.length cb, I ((q2 : Nat) : Int)], oI b7 ([] : List Int) 0 3]) => ?_)
           refine q trivial rfl rfl (asg (v := sb b7 (([] : List Int).length) 0) rfl) ?_
           refine nl ?_
           refine nN ?_
           refine rt (bR (tR ?_))
           refine fret (v := sb b7 (([] : List Int).length) 0) (.tmp .nil) rfl ?_
           exact ⟨(some ⟨b7, 0, none⟩), 0, ([] : List Int), q2, rfl, (by have hl5 : ([2, 0, 1, 3, 128] : List Int).length = 5 := rfl; first | omega | (simp; done) | (simp; omega)), (by have hl5 : ([2, 0, 1, 3, 128] : List Int).length = 5 := rfl; omega), (hs15.pick [1, 2] rfl (by decide))⟩
         · refine sk ?_
           refine bN ?_
           refine nN ?_
           refine sq ?_
           refine rg ?_
           refine q trivial rfl rfl (mv (v := .slice A2 ((zs ++ ([0] : List Int)).length) c2) rfl) ?_
           refine q trivial rfl rfl (asg (v := .slice A2 ((zs ++ ([0] : List Int)).length) c2) rfl) ?_
           refine nl ?_
           refine nN ?_
           refine rt ?_
           refine fret (v := .slice A2 ((zs ++ ([0] : List Int)).length) c2) (.tmp .nil) rfl ?_
           exact ⟨A2, c2, zs ++ ([0] : List Int), q2, rfl, (by have hl5 : ([2, 0, 1, 3, 128] : List Int).length = 5 := rfl; first | omega | (simp; done) | (simp; omega)), (by have hl5 : ([2, 0, 1, 3, 128] : List Int).length = 5 := rfl; omega), (hs10.pick [1, 0] rfl (by decide))⟩
   · refine sk ?_
     refine nN ?_
     refine sq ?_
     refine sq ?_
     refine rg ?_
     refine q trivial rfl rfl (mv (v := pB rb) rfl) ?_
     refine cl trivial rfl (pick (rb := rb) (Ab := Ab) (cb := cb) (bs := bs) (p := q0) (n := 30) (w := _) (hr := (blk_heap hs3 0 rfl)) (hb := (hb.up hs3 (fun _ h => h) (fun _ h => .inl h))) (hbn := (by first | assumption | (simp; omega))) (hp := (by omega))) ?_
     rintro _ w14 ⟨r3, q3, rfl, p5, p6, hs16'⟩
     have hs16 : SH w w14 [rb] [.own Ag3 zs.length cg3 3 1 (zs.map I), oI b2 ([2, 0, 1, 3, 128] : List Int) 5 3, .blk rb 47 [.slice Ab bs.length cb, I ((q3 : Nat) : Int)]] := hs3.callM 0 rfl hs16' (by intro k hk; simp at hk; exact hk.symm)
     clear hs16'
     refine nl ?_
     refine nN ?_
     refine bl ?_
     refine sq ?_
     refine rg ?_
     refine q trivial rfl rfl (eqi (k := .i64) (a := r3) (b := 0) rfl rfl) ?_
     refine q trivial rfl rfl (asg (v := .bool (decide (r3 = 0))) rfl) ?_
     refine nl ?_
     refine nN ?_
     refine cdd (p := r3 = 0) rfl (fun h7 => ?_) (fun h7 => ?_)
     · refine rg ?_
       refine q trivial rfl rfl (mv (v := .slice Ag3 zs.length cg3) rfl) ?_
       obtain ⟨b8, rfl⟩ := own_form hs16 0 rfl (by first | (first | omega | (simp; done) | (simp; omega)) | (have hl5 : ([2, 0, 1, 3, 128] : List Int).length = 5 := rfl; first | omega | (simp; done) | (simp; omega)))
       refine q trivial rfl rfl (ixo 0 sl24 rfl rfl (by first | (first | omega | (simp; done) | (simp; omega)) | (have hl5 : ([2, 0, 1, 3, 128] : List Int).length = 5 := rfl; first | omega | (simp; done) | (simp; omega)))) ?_
       refine stomn (g := I) (ys := zs) (o := 0) (u := 255) hs16 0 rfl rfl rfl rfl (by first | (first | omega | (simp; done) | (simp; omega)) | (have hl5 : ([2, 0, 1, 3, 128] : List Int).length = 5 := rfl; first | omega | (simp; done) | (simp; omega))) rfl one3 trivial (fun w15 (hs17 : SH w w15 [rb] [oI b2 ([2, 0, 1, 3, 128] : List Int) 5 3, .blk rb 47 [.slice Ab bs.length cb, I ((q3 : Nat) : Int)], .own (some ⟨b8, 0, none⟩) zs.length cg3 3 1 ((zs.set 0 255).map I)]) => ?_)
       refine nl ?_
       refine bN ?_
       refine nN ?_
       refine sq ?_
       refine rg ?_
       refine q trivial rfl rfl (mv (v := sb b8 zs.length cg3) rfl) ?_
       refine q trivial rfl rfl (asg (v := sb b8 zs.length cg3) rfl) ?_
       have e2 : zs.length = (zs.set 0 255).length := by first | (first | rfl | (simp; done) | (simp; omega) | (simp at *; omega)) | (have hl5 : ([2, 0, 1, 3, 128] : List Int).length = 5 := rfl; first | rfl | (simp; done) | (simp; omega) | (simp at *; omega))
       have hs18 : SH w w15 [rb] [oI b2 ([2, 0, 1, 3, 128] : List Int) 5 3, .blk rb 47 [.slice Ab bs.length cb, I ((q3 : Nat) : Int)], oI b8 (zs.set 0 255) cg3 3] := (hs17.cast (lc rfl (lc rfl (lc (own_eq (g := I) rfl e2 rfl rfl) rfl))))
       refine re 2 (v := sb b8 ((zs.set 0 255).length) cg3) (show (sb b8 zs.length cg3 : Value) = sb b8 ((zs.set 0 255).length) cg3 from slv rfl e2 rfl) ?_
       refine nl ?_
       refine nN ?_
       refine rt ?_
       refine fret (v := sb b8 ((zs.set 0 255).length) cg3) (.tmp .nil) rfl ?_
       exact ⟨(some ⟨b8, 0, none⟩), cg3, zs.set 0 255, q3, rfl, (by have hl5 : ([2, 0, 1, 3, 128] : List Int).length = 5 := rfl; first | omega | (simp; done) | (simp; omega)), (by have hl5 : ([2, 0, 1, 3, 128] : List Int).length = 5 := rfl; omega), (hs18.pick [1, 2] rfl (by decide))⟩
     · refine sq ?_
       refine rg ?_
       refine q trivial rfl rfl (eqi (k := .i64) (a := r3) (b := 1) rfl rfl) ?_
       refine q trivial rfl rfl (asg (v := .bool (decide (r3 = 1))) rfl) ?_
       refine nl ?_
       refine nN ?_
       refine cdd (p := r3 = 1) rfl (fun h8 => ?_) (fun h8 => ?_)
       · refine rg ?_
         refine q trivial rfl rfl (mv (v := .slice Ag3 zs.length cg3) rfl) ?_
         refine q trivial rfl rfl (mv (v := .slice Ag3 zs.length cg3) rfl) ?_
         refine ixw1 0 sl24 rfl rfl (hs16.sl0 0 rfl) (by first | (first | omega | (simp; done) | (simp; omega)) | (have hl5 : ([2, 0, 1, 3, 128] : List Int).length = 5 := rfl; first | omega | (simp; done) | (simp; omega))) (getm I 0 (by first | (first | omega | (simp; done) | (simp; omega)) | (have hl5 : ([2, 0, 1, 3, 128] : List Int).length = 5 := rfl; first | omega | (simp; done) | (simp; omega)))) trivial rfl (fun a2 ha2 => ?_)
         refine q trivial rfl rfl (lda (v := I (zs.getD 0 0)) (SH.refl w14 []) ha2 (fun _ h => h) rfl rfl one3) ?_
         refine bsk hs16 sl24 [I (zs.getD 0 0)] [I (zs.getD 0 0)] trivial rfl (fun b9 w16 (hs19 : SH w w16 [rb] [.own Ag3 zs.length cg3 3 1 (zs.map I), oI b2 ([2, 0, 1, 3, 128] : List Int) 5 3, .blk rb 47 [.slice Ab bs.length cb, I ((q3 : Nat) : Int)], oI b9 ([zs.getD 0 0] : List Int) 1 3]) => ?_)
         refine apm (g := I) (ys := zs) (zs := ([zs.getD 0 0] : List Int)) hs19 0 rfl sl24 rfl rfl rfl (hs19.sl0 3 rfl) (fun _ => rfl) (by unfold maxLen; first | (first | omega | (simp; done) | (simp; omega)) | (have hl5 : ([2, 0, 1, 3, 128] : List Int).length = 5 := rfl; first | omega | (simp; done) | (simp; omega))) (by first | (first | omega | (simp; done) | (simp; omega)) | (have hl5 : ([2, 0, 1, 3, 128] : List Int).length = 5 := rfl; first | omega | (simp; done) | (simp; omega))) trivial rfl (fun A4 c4 w17 (hs20 : SH w w17 [rb] [oI b2 ([2, 0, 1, 3, 128] : List Int) 5 3, .blk rb 47 [.slice Ab bs.length cb, I ((q3 : Nat) : Int)], oI b9 ([zs.getD 0 0] : List Int) 1 3, .own A4 ((zs ++ ([zs.getD 0 0] : List Int)).length) c4 3 1 ((zs ++ ([zs.getD 0 0] : List Int)).map I)]) => ?_)
         refine q trivial rfl rfl (asg (v := .slice A4 ((zs ++ ([zs.getD 0 0] : List Int)).length) c4) rfl) ?_
         refine nl ?_
         refine bN ?_
         refine nN ?_
         have hs21 : SH w w17 [rb] [.blk rb 47 [.slice Ab bs.length cb, I ((q3 : Nat) : Int)], .own A4 ((zs ++ ([zs.getD 0 0] : List Int)).length) c4 3 1 ((zs ++ ([zs.getD 0 0] : List Int)).map I)] := hs20.pick [1, 3] rfl (by decide)
         refine sq ?_
         refine rg ?_
         refine q trivial rfl rfl (mv (v := .slice A4 ((zs ++ ([zs.getD 0 0] : List Int)).length) c4) rfl) ?_
         refine q trivial rfl rfl (asg (v := .slice A4 ((zs ++ ([zs.getD 0 0] : List Int)).length) c4) rfl) ?_
         refine nl ?_
         refine nN ?_
         refine rt ?_
         refine fret (v := .slice A4 ((zs ++ ([zs.getD 0 0] : List Int)).length) c4) (.tmp .nil) rfl ?_
         exact ⟨A4, c4, zs ++ ([zs.getD 0 0] : List Int), q3, rfl, (by have hl5 : ([2, 0, 1, 3, 128] : List Int).length = 5 := rfl; first | omega | (simp; done) | (simp; omega)), (by have hl5 : ([2, 0, 1, 3, 128] : List Int).length = 5 := rfl; omega), hs21⟩
       · refine sq ?_
         refine rg ?_
         refine q trivial rfl rfl (eqi (k := .i64) (a := r3) (b := 2) rfl rfl) ?_
         refine q trivial rfl rfl (asg (v := .bool (decide (r3 = 2))) rfl) ?_
         refine nl ?_
         refine nN ?_
         refine cdd (p := r3 = 2) rfl (fun h9 => ?_) (fun h9 => ?_)
         · refine sq ?_
           refine rg ?_
           refine bsk hs16 sl24 [] [] trivial rfl (fun b10 w18 (hs22 : SH w w18 [rb] [.own Ag3 zs.length cg3 3 1 (zs.map I), oI b2 ([2, 0, 1, 3, 128] : List Int) 5 3, .blk rb 47 [.slice Ab bs.length cb, I ((q3 : Nat) : Int)], oI b10 ([] : List Int) 0 3]) => ?_)
           refine q trivial rfl rfl (asg (v := sb b10 (([] : List Int).length) 0) rfl) ?_
           refine nl ?_
           refine nN ?_
           have hs23 : SH w w18 [rb] [.blk rb 47 [.slice Ab bs.length cb, I ((q3 : Nat) : Int)], oI b10 ([] : List Int) 0 3] := hs22.pick [2, 3] rfl (by decide)
           refine rt (bR (tR ?_))
           refine fret (v := sb b10 (([] : List Int).length) 0) (.tmp .nil) rfl ?_
           exact ⟨(some ⟨b10, 0, none⟩), 0, ([] : List Int), q3, rfl, (by have hl5 : ([2, 0, 1, 3, 128] : List Int).length = 5 := rfl; first | omega | (simp; done) | (simp; omega)), (by have hl5 : ([2, 0, 1, 3, 128] : List Int).length = 5 := rfl; omega), hs23⟩
         · refine sk ?_
           refine bN ?_
           refine nN ?_
           refine sq ?_
           refine rg ?_
           refine q trivial rfl rfl (mv (v := .slice Ag3 zs.length cg3) rfl) ?_
           refine q trivial rfl rfl (asg (v := .slice Ag3 zs.length cg3) rfl) ?_
           refine nl ?_
           refine nN ?_
           refine rt ?_
           refine fret (v := .slice Ag3 zs.length cg3) (.tmp .nil) rfl ?_
           exact ⟨Ag3, cg3, zs, q3, rfl, (by have hl5 : ([2, 0, 1, 3, 128] : List Int).length = 5 := rfl; first | omega | (simp; done) | (simp; omega)), (by have hl5 : ([2, 0, 1, 3, 128] : List Int).length = 5 := rfl; omega), (hs16.pick [2, 0] rfl (by decide))⟩

set_option maxHeartbeats 8000000 in
theorem l92Pair {rb : Nat} {Ab : Option Addr} {cb : Nat} {bs : List UInt8} {p : Nat} (w : World) (hr : w.heap[rb]? = some (.cells [.slice Ab bs.length cb, .int .i64 ((p : Nat) : Int)].toArray 47 (0, 0))) (hb : Sl w [rb] 1 Ab bs.length cb (bs.map U)) (hbn : bs.length ≤ 2000) (hp : p ≤ 68719476736) : Does Try.prog 42 [pB rb] w (fun v w' => ∃ Aqar : Option Addr, ∃ cqar : Nat, ∃ Aqbr : Option Addr, ∃ cqbr : Nat, ∃ ka : Int, ∃ qa : List Int, ∃ na : List UInt8, ∃ pa : Int, ∃ kb : Int, ∃ qb : List Int, ∃ nb : List UInt8, ∃ pb : Int, ∃ q : Nat, v = .agg #[.int .i64 ka, .slice Aqar qa.length cqar, Str na, .int .i64 pa, .int .i64 kb, .slice Aqbr qb.length cqbr, Str nb, .int .i64 pb] ∧ (qa.length ≤ 4) ∧ (na.length ≤ 21) ∧ (qb.length ≤ 4) ∧ (nb.length ≤ 21) ∧ (q ≤ p + 100) ∧ SH w w' [rb] [.blk rb 47 [.slice Ab bs.length cb, I ((q : Nat) : Int)], .own Aqar qa.length cqar 3 1 (qa.map I), .own Aqbr qb.length cqbr 3 1 (qb.map I)]) := by
 refine fn_enter (N := 25) Try.func42 rfl (by kernel_rfl) rfl rfl rfl ?_
 have hs0 : SH w w [rb] [.blk rb 47 [.slice Ab bs.length cb, I ((p : Nat) : Int)]] := SH.entry1 hr
 refine sq ?_
 refine rg ?_
 refine al (v := .agg #[I 0, ns, Str [], I 0, I 0, ns, Str [], I 0]) (cs := [I 0, ns, Str [], I 0, I 0, ns, Str [], I 0]) hs0 tz61 rfl trivial rfl (fun b1 w1 (hs1 : SH w w1 [rb] [.blk rb 47 [.slice Ab bs.length cb, I ((p : Nat) : Int)], .blk b1 61 [I 0, ns, Str [], I 0, I 0, ns, Str [], I 0]]) => ?_)
 refine nl ?_
 refine nN ?_
 refine sq ?_
 refine rg ?_
 refine q trivial rfl rfl (mv (v := pB rb) rfl) ?_
 refine cl trivial rfl (l91Quad (rb := rb) (Ab := Ab) (cb := cb) (bs := bs) (p := p) (w := _) (hr := (blk_heap hs1 0 rfl)) (hb := (hb.up hs1 (fun _ h => h) (fun _ h => .inl h))) (hbn := (by first | assumption | (simp; omega))) (hp := (by omega))) ?_
 rintro _ w2 ⟨A1, c1, r1, q1, rfl, p1, p2, hs2'⟩
 have hs2 : SH w w2 [rb] [.blk b1 61 [I 0, ns, Str [], I 0, I 0, ns, Str [], I 0], .blk rb 47 [.slice Ab bs.length cb, I ((q1 : Nat) : Int)], .own A1 r1.length c1 3 1 (r1.map I)] := hs1.callM 0 rfl hs2' (by intro k hk; simp at hk; exact hk.symm)
 clear hs2'
 refine q trivial rfl rfl (mv (v := pB rb) rfl) ?_
 refine cl trivial rfl (l91Port (rb := rb) (Ab := Ab) (cb := cb) (bs := bs) (p := q1) (w := _) (hr := (blk_heap hs2 1 rfl)) (hb := (hb.up hs2 (fun _ h => h) (fun _ h => .inl h))) (hbn := (by first | assumption | (simp; omega))) (hp := (by omega))) ?_
 rintro _ w3 ⟨r2, q2, rfl, p3, hs3'⟩
 have hs3 : SH w w3 [rb] [.blk b1 61 [I 0, ns, Str [], I 0, I 0, ns, Str [], I 0], .own A1 r1.length c1 3 1 (r1.map I), .blk rb 47 [.slice Ab bs.length cb, I ((q2 : Nat) : Int)]] := hs2.callM 1 rfl hs3' (by intro k hk; simp at hk; exact hk.symm)
 clear hs3'
 refine q trivial rfl rfl (bdv (v := .agg #[I 1, .slice A1 r1.length c1, Str [], I r2]) [(0, I 1), (1, .slice A1 r1.length c1), (3, I r2)] rfl (fun _ => by kernel_rfl)) ?_
 refine al (v := .agg #[I 0, ns, Str [], I 0]) (cs := [I 0, ns, Str [], I 0]) hs3 tz52 rfl trivial rfl (fun b2 w4 (hs4 : SH w w4 [rb] [.blk b1 61 [I 0, ns, Str [], I 0, I 0, ns, Str [], I 0], .own A1 r1.length c1 3 1 (r1.map I), .blk rb 47 [.slice Ab bs.length cb, I ((q2 : Nat) : Int)], .blk b2 52 [I 0, ns, Str [], I 0]]) => ?_)
 refine stg (vs := [I 1, .slice A1 r1.length c1, Str [], I r2]) hs4 3 rfl rfl rfl rfl rfl rfl rfl ag52 trivial (fun w5 (hs5 : SH w w5 [rb] [.blk b1 61 [I 0, ns, Str [], I 0, I 0, ns, Str [], I 0], .own A1 r1.length c1 3 1 (r1.map I), .blk rb 47 [.slice Ab bs.length cb, I ((q2 : Nat) : Int)], .blk b2 52 [I 1, .slice A1 r1.length c1, Str [], I r2]]) => ?_)
 refine nl ?_
 refine nN ?_
 refine sq ?_
 refine rg ?_
 refine q trivial rfl rfl (mv (v := pB rb) rfl) ?_
 refine cl trivial rfl (l91Quad (rb := rb) (Ab := Ab) (cb := cb) (bs := bs) (p := q2) (w := _) (hr := (blk_heap hs5 2 rfl)) (hb := (hb.up hs5 (fun _ h => h) (fun _ h => .inl h))) (hbn := (by first | assumption | (simp; omega))) (hp := (by omega))) ?_
 rintro _ w6 ⟨A2, c2, r3, q3, rfl, p4, p5, hs6'⟩
 have hs6 : SH w w6 [rb] [.blk b1 61 [I 0, ns, Str [], I 0, I 0, ns, Str [], I 0], .own A1 r1.length c1 3 1 (r1.map I), .blk b2 52 [I 1, .slice A1 r1.length c1, Str [], I r2], .blk rb 47 [.slice Ab bs.length cb, I ((q3 : Nat) : Int)], .own A2 r3.length c2 3 1 (r3.map I)] := hs5.callM 2 rfl hs6' (by intro k hk; simp at hk; exact hk.symm)
 clear hs6'
 refine q trivial rfl rfl (mv (v := pB rb) rfl) ?_
 refine cl trivial rfl (l91Port (rb := rb) (Ab := Ab) (cb := cb) (bs := bs) (p := q3) (w := _) (hr := (blk_heap hs6 3 rfl)) (hb := (hb.up hs6 (fun _ h => h) (fun _ h => .inl h))) (hbn := (by first | assumption | (simp; omega))) (hp := (by omega))) ?_
 rintro _ w7 ⟨r4, q4, rfl, p6, hs7'⟩
 have hs7 : SH w w7 [rb] [.blk b1 61 [I 0, ns, Str [], I 0, I 0, ns, Str [], I 0], .own A1 r1.length c1 3 1 (r1.map I), .blk b2 52 [I 1, .slice A1 r1.length c1, Str [], I r2], .own A2 r3.length c2 3 1 (r3.map I), .blk rb 47 [.slice Ab bs.length cb, I ((q4 : Nat) : Int)]] := hs6.callM 3 rfl hs7' (by intro k hk; simp at hk; exact hk.symm)
 clear hs7'
 refine q trivial rfl rfl (bdv (v := .agg #[I 1, .slice A2 r3.length c2, Str [], I r4]) [(0, I 1), (1, .slice A2 r3.length c2), (3, I r4)] rfl (fun _ => by kernel_rfl)) ?_
 refine al (v := .agg #[I 0, ns, Str [], I 0]) (cs := [I 0, ns, Str [], I 0]) hs7 tz52 rfl trivial rfl (fun b3 w8 (hs8 : SH w w8 [rb] [.blk b1 61 [I 0, ns, Str [], I 0, I 0, ns, Str [], I 0], .own A1 r1.length c1 3 1 (r1.map I), .blk b2 52 [I 1, .slice A1 r1.length c1, Str [], I r2], .own A2 r3.length c2 3 1 (r3.map I), .blk rb 47 [.slice Ab bs.length cb, I ((q4 : Nat) : Int)], .blk b3 52 [I 0, ns, Str [], I 0]]) => ?_)
 refine stg (vs := [I 1, .slice A2 r3.length c2, Str [], I r4]) hs8 5 rfl rfl rfl rfl rfl rfl rfl ag52 trivial (fun w9 (hs9 : SH w w9 [rb] [.blk b1 61 [I 0, ns, Str [], I 0, I 0, ns, Str [], I 0], .own A1 r1.length c1 3 1 (r1.map I), .blk b2 52 [I 1, .slice A1 r1.length c1, Str [], I r2], .own A2 r3.length c2 3 1 (r3.map I), .blk rb 47 [.slice Ab bs.length cb, I ((q4 : Nat) : Int)], .blk b3 52 [I 1, .slice A2 r3.length c2, Str [], I r4]]) => ?_)
 refine nl ?_
 refine nN ?_
 refine sq ?_
 refine sq ?_
 refine rg ?_
 refine q trivial rfl rfl (mv (v := pB rb) rfl) ?_
 refine cl trivial rfl (pick (rb := rb) (Ab := Ab) (cb := cb) (bs := bs) (p := q4) (n := 20) (w := _) (hr := (blk_heap hs9 4 rfl)) (hb := (hb.up hs9 (fun _ h => h) (fun _ h => .inl h))) (hbn := (by first | assumption | (simp; omega))) (hp := (by omega))) ?_
 rintro _ w10 ⟨r5, q5, rfl, p7, p8, hs10'⟩
 have hs10 : SH w w10 [rb] [.blk b1 61 [I 0, ns, Str [], I 0, I 0, ns, Str [], I 0], .own A1 r1.length c1 3 1 (r1.map I), .blk b2 52 [I 1, .slice A1 r1.length c1, Str [], I r2], .own A2 r3.length c2 3 1 (r3.map I), .blk b3 52 [I 1, .slice A2 r3.length c2, Str [], I r4], .blk rb 47 [.slice Ab bs.length cb, I ((q5 : Nat) : Int)]] := hs9.callM 4 rfl hs10' (by intro k hk; simp at hk; exact hk.symm)
 clear hs10'
 refine q trivial rfl rfl (eqi (k := .i64) (a := r5) (b := 0) rfl rfl) ?_
 refine nl ?_
 refine nN ?_
 refine cdd (p := r5 = 0) rfl (fun h1 => ?_) (fun h1 => ?_)
 · refine sq ?_
   refine raJ (fun w' => ∃ L, SH w w' [rb] L ∧ (.blk b2 52 [I 1, .slice A1 r1.length c1, Str [], I r2]) ∈ L ∧ (.blk b3 52 [I 1, .slice A2 r3.length c2, Str [], I r4]) ∈ L ∧ True) (fun f w' => ∃ (Aq2' : Option Addr) (cq2' : Nat) (ak2' : Int) (aq2' : List Int) (an2' : List UInt8) (apt2' : Int) (q2' : Nat), Has f [(2, pB b1)] ∧ (aq2'.length ≤ 4) ∧ (an2'.length ≤ 21) ∧ (q2' ≤ q5 + 40) ∧ SH w w' [rb] [.blk b1 61 [I 1, .slice A1 r1.length c1, Str [], I r2, I ak2', .slice Aq2' aq2'.length cq2', Str an2', I apt2'], .own A1 r1.length c1 3 1 (r1.map I), .blk b2 52 [I 1, .slice A1 r1.length c1, Str [], I r2], .own A2 r3.length c2 3 1 (r3.map I), .blk b3 52 [I 1, .slice A2 r3.length c2, Str [], I r4], .blk rb 47 [.slice Ab bs.length cb, I ((q2' : Nat) : Int)], .own Aq2' aq2'.length cq2' 3 1 (aq2'.map I)]) mixed ?_ ?_
   · refine dag (fuel' := 1) (listed' := lbits 5 15) (fun f w' => ∃ (Aq2' : Option Addr) (cq2' : Nat) (ak2' : Int) (aq2' : List Int) (an2' : List UInt8) (apt2' : Int) (q2' : Nat), Has f [(2, pB b1), (21, .agg #[I 1, .slice A1 r1.length c1, Str [], I r2, I ak2', .slice Aq2' aq2'.length cq2', Str an2', I apt2'])] ∧ (aq2'.length ≤ 4) ∧ (an2'.length ≤ 21) ∧ (q2' ≤ q5 + 40) ∧ SH w w' [rb] [.blk b1 61 [I 0, ns, Str [], I 0, I 0, ns, Str [], I 0], .own A1 r1.length c1 3 1 (r1.map I), .blk b2 52 [I 1, .slice A1 r1.length c1, Str [], I r2], .own A2 r3.length c2 3 1 (r3.map I), .blk b3 52 [I 1, .slice A2 r3.length c2, Str [], I r4], .blk rb 47 [.slice Ab bs.length cb, I ((q2' : Nat) : Int)], .own Aq2' aq2'.length cq2' 3 1 (aq2'.map I)]) ?_ (fun D_4_0 => ?_)
     · rintro f w11 ⟨Aq2', cq2', ak2', aq2', an2', apt2', q2', hf, p9, p10, p11, hs11⟩
       obtain ⟨g1, rfl⟩ := has_upd hf
       clear hf
       refine aaL [4] (fa_one ?_)
       refine one_ rfl ?_
       refine stg (vs := [I 1, .slice A1 r1.length c1, Str [], I r2, I ak2', .slice Aq2' aq2'.length cq2', Str an2', I apt2']) hs11 0 rfl rfl rfl rfl rfl rfl rfl ag61 trivial (fun w12 hs12 => ?_)
       refine nl (kq ⟨_, hs12, memi 1 rfl, memi 3 rfl, trivial⟩ ?_)
       refine ad (by kernel_rfl) ?_
       exact ⟨Aq2', cq2', ak2', aq2', an2', apt2', q2', ⟨rfl, trivial⟩, p9, p10, p11, (hs12.pick [6, 0, 1, 2, 3, 4, 5] rfl (by decide))⟩
     refine dag (fuel' := 3) (listed' := lbits 5 3) (fun f w' => Has f [(2, pB b1), (18, .agg #[I 1, .slice A1 r1.length c1, Str [], I r2]), (19, pB rb)] ∧ SH w w' [rb] [.blk b1 61 [I 0, ns, Str [], I 0, I 0, ns, Str [], I 0], .own A1 r1.length c1 3 1 (r1.map I), .blk b2 52 [I 1, .slice A1 r1.length c1, Str [], I r2], .own A2 r3.length c2 3 1 (r3.map I), .blk b3 52 [I 1, .slice A2 r3.length c2, Str [], I r4], .blk rb 47 [.slice Ab bs.length cb, I ((q5 : Nat) : Int)]]) ?_ (fun D_4_1 => ?_)
     · rintro f w13 ⟨hf, hs13⟩
       obtain ⟨g2, rfl⟩ := has_upd hf
       clear hf
       refine aaL [2] (fa_one ?_)
       refine one_ rfl ?_
       refine cl trivial rfl (l91Address (rb := rb) (Ab := Ab) (cb := cb) (bs := bs) (p := q5) (w := _) (hr := (blk_heap hs13 5 rfl)) (hb := (hb.up hs13 (fun _ h => h) (fun _ h => .inl h))) (hbn := (by first | assumption | (simp; omega))) (hp := (by omega))) ?_
       rintro _ w14 ⟨Aq2', cq2', ak2', aq2', an2', apt2', q2', rfl, p12, p13, p14, hs14'⟩
       have hs14 := hs13.callM 5 rfl hs14' (by intro k hk; simp at hk; exact hk.symm)
       clear hs14'
       refine nl (kq ⟨_, hs14, memi 2 rfl, memi 4 rfl, trivial⟩ ?_)
       refine tk (fuel := 1) (is := [3]) (.cons rfl (.nil)) (by kernel_rfl) (by kernel_rfl) ⟨_, hs14, memi 2 rfl, memi 4 rfl, trivial⟩ ?_
       refine .op trivial rfl rfl (fun wq _ => bdv (v := .agg #[I 1, .slice A1 r1.length c1, Str [], I r2, I ak2', .slice Aq2' aq2'.length cq2', Str an2', I apt2']) [(0, .agg #[I 1, .slice A1 r1.length c1, Str [], I r2]), (1, .agg #[I ak2', .slice Aq2' aq2'.length cq2', Str an2', I apt2'])] rfl (fun _ => by kernel_rfl)) ?_
       refine .nil ?_
       exact alc D_4_0 ⟨Aq2', cq2', ak2', aq2', an2', apt2', q2', ⟨rfl, rfl, trivial⟩, p12, p13, p14, hs14⟩
     have hs15 := hs10.drew
     refine tk (fuel := 3) (is := [0, 1]) (.cons rfl (.cons rfl (.nil))) (by kernel_rfl) (by kernel_rfl) ⟨_, hs15, memi 2 rfl, memi 4 rfl, trivial⟩ ?_
     refine .op trivial rfl rfl (fun wq ⟨Lq, hsq, mh0, mh1, _⟩ => ldgm (vs := [I 1, .slice A1 r1.length c1, Str [], I r2]) hsq mh0 rfl rfl rfl ag52) ?_
     refine .op trivial rfl rfl (fun wq _ => mv (v := pB rb) rfl) ?_
     refine .nil ?_
     exact alc D_4_1 ⟨⟨rfl, rfl, rfl, trivial⟩, hs15⟩
   rintro f w15 ⟨Aq2', cq2', ak2', aq2', an2', apt2', q2', hf, p15, p16, p17, hs16⟩
   obtain ⟨g3, rfl⟩ := has_upd hf
   clear hf
   refine nN ?_
   have hs17 : SH w w15 [rb] [.blk b1 61 [I 1, .slice A1 r1.length c1, Str [], I r2, I ak2', .slice Aq2' aq2'.length cq2', Str an2', I apt2'], .own A1 r1.length c1 3 1 (r1.map I), .blk rb 47 [.slice Ab bs.length cb, I ((q2' : Nat) : Int)], .own Aq2' aq2'.length cq2' 3 1 (aq2'.map I)] := hs16.pick [0, 1, 5, 6] rfl (by decide)
   refine rt (tR ?_)
   refine fret (v := .agg #[I 1, .slice A1 r1.length c1, Str [], I r2, I ak2', .slice Aq2' aq2'.length cq2', Str an2', I apt2']) (resC hs17 0 rfl rfl ag61 rfl .nil) rfl ?_
   exact ⟨A1, c1, Aq2', cq2', 1, r1, [], r2, ak2', aq2', an2', apt2', q2', rfl, (by first | assumption | omega | (simp; done)), (by first | assumption | omega | (simp; done)), (by first | assumption | omega | (simp; done)), (by first | assumption | omega | (simp; done)), (by first | assumption | omega | (simp; done)), (hs17.pick [2, 1, 3] rfl (by decide))⟩
 · refine sk ?_
   refine nN ?_
   refine sq ?_
   refine rg ?_
   refine q trivial rfl rfl (ldg (vs := [I 1, .slice A1 r1.length c1, Str [], I r2]) hs10 2 rfl rfl rfl rfl ag52) ?_
   refine q trivial rfl rfl (ldg (vs := [I 1, .slice A2 r3.length c2, Str [], I r4]) hs10 4 rfl rfl rfl rfl ag52) ?_
   refine q trivial rfl rfl (bdv (v := .agg #[I 1, .slice A1 r1.length c1, Str [], I r2, I 1, .slice A2 r3.length c2, Str [], I r4]) [(0, .agg #[I 1, .slice A1 r1.length c1, Str [], I r2]), (1, .agg #[I 1, .slice A2 r3.length c2, Str [], I r4])] rfl (fun _ => by kernel_rfl)) ?_
   refine stg (vs := [I 1, .slice A1 r1.length c1, Str [], I r2, I 1, .slice A2 r3.length c2, Str [], I r4]) hs10 0 rfl rfl rfl rfl rfl rfl rfl ag61 trivial (fun w16 (hs18 : SH w w16 [rb] [.own A1 r1.length c1 3 1 (r1.map I), .blk b2 52 [I 1, .slice A1 r1.length c1, Str [], I r2], .own A2 r3.length c2 3 1 (r3.map I), .blk b3 52 [I 1, .slice A2 r3.length c2, Str [], I r4], .blk rb 47 [.slice Ab bs.length cb, I ((q5 : Nat) : Int)], .blk b1 61 [I 1, .slice A1 r1.length c1, Str [], I r2, I 1, .slice A2 r3.length c2, Str [], I r4]]) => ?_)
   refine nl ?_
   refine nN ?_
   have hs19 : SH w w16 [rb] [.own A1 r1.length c1 3 1 (r1.map I), .own A2 r3.length c2 3 1 (r3.map I), .blk rb 47 [.slice Ab bs.length cb, I ((q5 : Nat) : Int)], .blk b1 61 [I 1, .slice A1 r1.length c1, Str [], I r2, I 1, .slice A2 r3.length c2, Str [], I r4]] := hs18.pick [0, 2, 4, 5] rfl (by decide)
   refine rt ?_
   refine fret (v := .agg #[I 1, .slice A1 r1.length c1, Str [], I r2, I 1, .slice A2 r3.length c2, Str [], I r4]) (resC hs19 3 rfl rfl ag61 rfl .nil) rfl ?_
   exact ⟨A1, c1, A2, c2, 1, r1, [], r2, 1, r3, [], r4, q5, rfl, (by first | assumption | omega | (simp; done)), (by first | assumption | omega | (simp; done)), (by first | assumption | omega | (simp; done)), (by first | assumption | omega | (simp; done)), (by first | assumption | omega | (simp; done)), (hs19.pick [2, 0, 1] rfl (by decide))⟩

theorem sPairValid (ka : Int) {Aqa : Option Addr} {cqa : Nat} (qa : List Int) (na : List UInt8) (pa : Int) (kb : Int) {Aqb : Option Addr} {cqb : Nat} (qb : List Int) (nb : List UInt8) (pb : Int) (w : World) (hqa : Sl w [] 1 Aqa qa.length cqa (qa.map I)) (hna_n : na.length ≤ 1099511627776) (hqb : Sl w [] 1 Aqb qb.length cqb (qb.map I)) (hnb_n : nb.length ≤ 1099511627776) : Does Try.prog 60 [.agg #[I ka, .slice Aqa qa.length cqa, Str na, I pa, I kb, .slice Aqb qb.length cqb, Str nb, I pb]] w (fun v w' => v = .bool (pairB ka qa na pa kb qb nb pb) ∧ SH w w' [] []) := by
 refine fn_enter (N := 23) Try.func60 rfl (by kernel_rfl) rfl rfl rfl ?_
 have hs0 : SH w w [] [] := SH.refl w []
 have hqa_m : qa.length ≤ 9223372036854775807 := Nat.le_trans hqa.cap hqa.capMax
 have hqb_m : qb.length ≤ 9223372036854775807 := Nat.le_trans hqb.cap hqb.capMax
 refine sq ?_
 refine rg ?_
 refine bx (v := .agg #[I ka, .slice Aqa qa.length cqa, Str na, I pa, I kb, .slice Aqb qb.length cqb, Str nb, I pb]) (cs := [I ka, .slice Aqa qa.length cqa, Str na, I pa, I kb, .slice Aqb qb.length cqb, Str nb, I pb]) hs0 rfl rfl trivial rfl (fun b1 w1 (hs1 : SH w w1 [] [.blk b1 61 [I ka, .slice Aqa qa.length cqa, Str na, I pa, I kb, .slice Aqb qb.length cqb, Str nb, I pb]]) => ?_)
 refine q trivial rfl rfl (asg (v := .bool false) rfl) ?_
 refine nl ?_
 refine nN ?_
 refine sq ?_
 refine rg ?_
 refine q trivial rfl rfl (fa 0 fo61_0 rfl) ?_
 refine q trivial rfl rfl (ldg (vs := [I ka, .slice Aqa qa.length cqa, Str na, I pa]) hs1 0 rfl rfl rfl rfl ag52) ?_
 refine cl trivial rfl (sAddressValid (ak := ka) (Aaq := Aqa) (caq := cqa) (aq := qa) (an := na) (apt := pa) (w := _) (haq := (hqa.up0 hs1)) (han_n := (by first | omega | (simp; done) | (simp; omega)))) ?_
 rintro _ w2 ⟨rfl, hs2'⟩
 have hs2 : SH w w2 [] [.blk b1 61 [I ka, .slice Aqa qa.length cqa, Str na, I pa, I kb, .slice Aqb qb.length cqb, Str nb, I pb]] := hs1.call0 hs2'
 clear hs2'
 refine q trivial rfl rfl (mv (v := .bool (addrOk ka qa na pa)) rfl) ?_
 refine spl (b := addrOk ka qa na pa) 6 rfl (fun h1 => ?_) (fun h1 => ?_)
 · refine q ⟨_, rfl, rfl⟩ rfl rfl (fa 4 fo61_1 rfl) ?_
   refine q ⟨_, rfl, rfl⟩ rfl rfl (ldg (vs := [I kb, .slice Aqb qb.length cqb, Str nb, I pb]) hs2 0 rfl rfl rfl rfl ag52) ?_
   refine cl ⟨_, rfl, rfl⟩ rfl (sAddressValid (ak := kb) (Aaq := Aqb) (caq := cqb) (aq := qb) (an := nb) (apt := pb) (w := _) (haq := (hqb.up0 hs2)) (han_n := (by first | omega | (simp; done) | (simp; omega)))) ?_
   rintro _ w3 ⟨rfl, hs3'⟩
   have hs3 : SH w w3 [] [.blk b1 61 [I ka, .slice Aqa qa.length cqa, Str na, I pa, I kb, .slice Aqb qb.length cqb, Str nb, I pb]] := hs2.call0 hs3'
   clear hs3'
   refine q trivial rfl rfl (pt (v := .bool (addrOk kb qb nb pb)) rfl rfl) ?_
   refine q trivial rfl rfl (mv (v := .bool (addrOk kb qb nb pb)) rfl) ?_
   refine spl (b := addrOk kb qb nb pb) 11 rfl (fun h2 => ?_) (fun h2 => ?_)
   · refine q ⟨_, rfl, rfl⟩ rfl rfl (fa 0 fo61_0 rfl) ?_
     refine q ⟨_, rfl, rfl⟩ rfl rfl (fa 0 fo52_0 rfl) ?_
     refine q ⟨_, rfl, rfl⟩ rfl rfl (ld (v := I ka) hs3 0 rfl rfl rfl one3) ?_
     refine q ⟨_, rfl, rfl⟩ rfl rfl (eqi (k := .i64) (a := ka) (b := 1) rfl rfl) ?_
     refine q trivial rfl rfl (pt (v := .bool (decide (ka = 1))) rfl rfl) ?_
     refine q trivial rfl rfl (mv (v := .bool (decide (ka = 1))) rfl) ?_
     refine spd (p := ka = 1) 17 rfl (fun h3 => ?_) (fun h3 => ?_)
     · refine q ⟨_, rfl, rfl⟩ rfl rfl (fa 4 fo61_1 rfl) ?_
       refine q ⟨_, rfl, rfl⟩ rfl rfl (fa 0 fo52_0 rfl) ?_
       refine q ⟨_, rfl, rfl⟩ rfl rfl (ld (v := I kb) hs3 0 rfl rfl rfl one3) ?_
       refine q ⟨_, rfl, rfl⟩ rfl rfl (eqi (k := .i64) (a := kb) (b := 1) rfl rfl) ?_
       refine q trivial rfl rfl (pt (v := .bool (decide (kb = 1))) rfl rfl) ?_
       refine q trivial rfl rfl (asg (v := .bool (decide (kb = 1))) rfl) ?_
       refine nl ?_
       refine nN ?_
       refine rt ?_
       refine fret (v := .bool (decide (kb = 1))) (.tmp .nil) rfl ?_
       have e1 : (decide (kb = 1)) = pairB ka qa na pa kb qb nb pb := by first | (simp [pairB, h1, h2, h3]; done) | (simp [pairB]; simp_all; done) | (simp [pairB]; intros; simp_all; done)
       exact ⟨(congrArg (Value.bool) e1), (hs3.pick [] rfl (by decide))⟩
     · refine gk false rfl rfl rfl rfl rfl ?_
       refine gk false rfl rfl rfl rfl rfl ?_
       refine gk false rfl rfl rfl rfl rfl ?_
       refine gk false rfl rfl rfl rfl rfl ?_
       refine q trivial rfl rfl (pf (v := .bool false) rfl rfl) ?_
       refine q trivial rfl rfl (asg (v := .bool false) rfl) ?_
       refine nl ?_
       refine nN ?_
       refine rt ?_
       refine fret (v := .bool false) (.tmp .nil) rfl ?_
       have e2 : false = pairB ka qa na pa kb qb nb pb := by first | (simp [pairB, h1, h2, h3]; done) | (simp [pairB]; simp_all; done) | (simp [pairB]; intros; simp_all; done)
       exact ⟨(congrArg (Value.bool) e2), (hs3.pick [] rfl (by decide))⟩
   · refine gk false rfl rfl rfl rfl rfl ?_
     refine gk false rfl rfl rfl rfl rfl ?_
     refine gk false rfl rfl rfl rfl rfl ?_
     refine gk false rfl rfl rfl rfl rfl ?_
     refine q trivial rfl rfl (pf (v := .bool false) rfl rfl) ?_
     refine q trivial rfl rfl (mv (v := .bool false) rfl) ?_
     refine gk false rfl rfl rfl rfl rfl ?_
     refine gk false rfl rfl rfl rfl rfl ?_
     refine gk false rfl rfl rfl rfl rfl ?_
     refine gk false rfl rfl rfl rfl rfl ?_
     refine q trivial rfl rfl (pf (v := .bool false) rfl rfl) ?_
     refine q trivial rfl rfl (asg (v := .bool false) rfl) ?_
     refine nl ?_
     refine nN ?_
     refine rt ?_
     refine fret (v := .bool false) (.tmp .nil) rfl ?_
     have e3 : false = pairB ka qa na pa kb qb nb pb := by first | (simp [pairB, h1, h2]; done) | (simp [pairB]; simp_all; done) | (simp [pairB]; intros; simp_all; done)
     exact ⟨(congrArg (Value.bool) e3), (hs3.pick [] rfl (by decide))⟩
 · refine gk false rfl rfl rfl rfl rfl ?_
   refine gk false rfl rfl rfl rfl rfl ?_
   refine gk false rfl rfl rfl rfl rfl ?_
   refine q trivial rfl rfl (pf (v := .bool false) rfl rfl) ?_
   refine q trivial rfl rfl (mv (v := .bool false) rfl) ?_
   refine gk false rfl rfl rfl rfl rfl ?_
   refine gk false rfl rfl rfl rfl rfl ?_
   refine gk false rfl rfl rfl rfl rfl ?_
   refine gk false rfl rfl rfl rfl rfl ?_
   refine q trivial rfl rfl (pf (v := .bool false) rfl rfl) ?_
   refine q trivial rfl rfl (mv (v := .bool false) rfl) ?_
   refine gk false rfl rfl rfl rfl rfl ?_
   refine gk false rfl rfl rfl rfl rfl ?_
   refine gk false rfl rfl rfl rfl rfl ?_
   refine gk false rfl rfl rfl rfl rfl ?_
   refine q trivial rfl rfl (pf (v := .bool false) rfl rfl) ?_
   refine q trivial rfl rfl (asg (v := .bool false) rfl) ?_
   refine nl ?_
   refine nN ?_
   refine rt ?_
   refine fret (v := .bool false) (.tmp .nil) rfl ?_
   have e4 : false = pairB ka qa na pa kb qb nb pb := by first | (simp [pairB, h1]; done) | (simp [pairB]; simp_all; done) | (simp [pairB]; intros; simp_all; done)
   exact ⟨(congrArg (Value.bool) e4), (hs2.pick [] rfl (by decide))⟩

theorem sL16Begin  (w : World)  : Does Try.prog 49 [] w (fun v w' => ∃ Ar : Option Addr, ∃ cr : Nat, v = .slice Ar headP.length cr ∧ SH w w' [] [.own Ar headP.length cr 3 1 (headP.map I)]) := by
 refine fn_enter (N := 2) Try.func49 rfl (by kernel_rfl) rfl rfl rfl ?_
 have hs0 : SH w w [] [] := SH.refl w []
 refine sq ?_
 refine rg ?_
 refine q trivial rfl rfl (asg (v := ns) rfl) ?_
 refine nl ?_
 refine nN ?_
 refine sq ?_
 refine rg ?_
 refine bsk hs0 sl24 [I 13, I 10, I 13, I 10, I 0, I 13, I 10, I 81, I 85, I 73, I 84, I 10, I 33, I 17] [I 13, I 10, I 13, I 10, I 0, I 13, I 10, I 81, I 85, I 73, I 84, I 10, I 33, I 17] trivial rfl (fun b1 w1 (hs1 : SH w w1 [] [oI b1 ([13, 10, 13, 10, 0, 13, 10, 81, 85, 73, 84, 10, 33, 17] : List Int) 14 3]) => ?_)
 refine q trivial rfl rfl (asg (v := sb b1 (([13, 10, 13, 10, 0, 13, 10, 81, 85, 73, 84, 10, 33, 17] : List Int).length) 14) rfl) ?_
 refine nl ?_
 refine nN ?_
 refine rt ?_
 refine fret (v := sb b1 (([13, 10, 13, 10, 0, 13, 10, 81, 85, 73, 84, 10, 33, 17] : List Int).length) 14) (.tmp .nil) rfl ?_
 have e1 : ([13, 10, 13, 10, 0, 13, 10, 81, 85, 73, 84, 10, 33, 17] : List Int) = headP := by rfl
 have e2 : ([13, 10, 13, 10, 0, 13, 10, 81, 85, 73, 84, 10, 33, 17] : List Int).length = headP.length := by exact congrArg List.length e1
 exact ⟨(some ⟨b1, 0, none⟩), 14, (slv rfl e2 rfl), (hs1.cast (lc (own_eq (g := I) rfl e2 rfl e1) rfl))⟩

theorem iHeadStart  (w : World)  : Does Try.prog 27 [] w (fun v w' => ∃ Ar : Option Addr, ∃ cr : Nat, v = .slice Ar headP.length cr ∧ SH w w' [] [.own Ar headP.length cr 3 1 (headP.map I)]) := by
 refine fn_enter (N := 2) Try.func27 rfl (by kernel_rfl) rfl rfl rfl ?_
 have hs0 : SH w w [] [] := SH.refl w []
 refine sq ?_
 refine rg ?_
 refine q trivial rfl rfl (asg (v := ns) rfl) ?_
 refine nl ?_
 refine nN ?_
 refine sq ?_
 refine rg ?_
 refine bsk hs0 sl24 [I 13, I 10, I 13, I 10, I 0, I 13, I 10, I 81, I 85, I 73, I 84, I 10, I 33, I 17] [I 13, I 10, I 13, I 10, I 0, I 13, I 10, I 81, I 85, I 73, I 84, I 10, I 33, I 17] trivial rfl (fun b1 w1 (hs1 : SH w w1 [] [oI b1 ([13, 10, 13, 10, 0, 13, 10, 81, 85, 73, 84, 10, 33, 17] : List Int) 14 3]) => ?_)
 refine q trivial rfl rfl (asg (v := sb b1 (([13, 10, 13, 10, 0, 13, 10, 81, 85, 73, 84, 10, 33, 17] : List Int).length) 14) rfl) ?_
 refine nl ?_
 refine nN ?_
 refine rt ?_
 refine fret (v := sb b1 (([13, 10, 13, 10, 0, 13, 10, 81, 85, 73, 84, 10, 33, 17] : List Int).length) 14) (.tmp .nil) rfl ?_
 have e1 : ([13, 10, 13, 10, 0, 13, 10, 81, 85, 73, 84, 10, 33, 17] : List Int) = headP := by rfl
 have e2 : ([13, 10, 13, 10, 0, 13, 10, 81, 85, 73, 84, 10, 33, 17] : List Int).length = headP.length := by exact congrArg List.length e1
 exact ⟨(some ⟨b1, 0, none⟩), 14, (slv rfl e2 rfl), (hs1.cast (lc (own_eq (g := I) rfl e2 rfl e1) rfl))⟩

theorem sL21Known (f : Bool) (k : Int) (w : World)  : Does Try.prog 31 [.bool f, I k] w (fun v w' => v = .int .i64 (if f = true then k else 0) ∧ SH w w' [] []) := by
 refine fn_enter (N := 7) Try.func31 rfl (by kernel_rfl) rfl rfl rfl ?_
 have hs0 : SH w w [] [] := SH.refl w []
 refine sq ?_
 refine rg ?_
 refine q trivial rfl rfl (asg (v := I 0) rfl) ?_
 refine nl ?_
 refine nN ?_
 refine sq ?_
 refine sq ?_
 refine rg ?_
 refine q trivial rfl rfl (mv (v := .bool f) rfl) ?_
 refine nl ?_
 refine nN ?_
 refine cd (b := f) rfl (fun h1 => ?_) (fun h1 => ?_)
 · refine sq ?_
   refine rg ?_
   refine q trivial rfl rfl (mv (v := I k) rfl) ?_
   refine q trivial rfl rfl (asg (v := I k) rfl) ?_
   refine nl ?_
   refine nN ?_
   refine rt (tR ?_)
   refine fret (v := I k) (.tmp .nil) rfl ?_
   have e1 : k = (if f = true then k else 0) := by simp [h1]
   exact ⟨(congrArg (Value.int .i64) e1), hs0⟩
 · refine sk ?_
   refine nN ?_
   refine sq ?_
   refine rg ?_
   refine q trivial rfl rfl (asg (v := I 0) rfl) ?_
   refine nl ?_
   refine nN ?_
   refine rt ?_
   refine fret (v := I 0) (.tmp .nil) rfl ?_
   have e2 : 0 = (if f = true then k else 0) := by simp [h1]
   exact ⟨(congrArg (Value.int .i64) e2), hs0⟩

theorem sL16Same {Ab : Option Addr} {cb : Nat} (b : List Int) (w : World) (hb : Sl w [] 1 Ab b.length cb (b.map I)) : Does Try.prog 32 [.slice Ab b.length cb] w (fun v w' => v = .bool (alikeB b headP) ∧ SH w w' [] []) := by
 refine fn_enter (N := 27) Try.func32 rfl (by kernel_rfl) rfl rfl rfl ?_
 have hs0 : SH w w [] [] := SH.refl w []
 have hb_m : b.length ≤ 9223372036854775807 := Nat.le_trans hb.cap hb.capMax
 refine sq ?_
 refine rg ?_
 refine q trivial rfl rfl (asg (v := .bool false) rfl) ?_
 refine nl ?_
 refine nN ?_
 refine sq ?_
 refine rg ?_
 refine cl trivial rfl (sL16Begin (w := _)) ?_
 rintro _ w1 ⟨A1, c1, rfl, hs1'⟩
 have hs1 : SH w w1 [] [.own A1 headP.length c1 3 1 (headP.map I)] := hs0.call0 hs1'
 clear hs1'
 refine q trivial rfl rfl (asg (v := .slice A1 headP.length c1) rfl) ?_
 refine nl ?_
 refine nN ?_
 refine sq ?_
 refine sq ?_
 refine rg ?_
 refine q trivial rfl rfl (asg (v := I 0) rfl) ?_
 refine nl ?_
 refine nN ?_
 refine bl ?_
 refine lp (σ := Nat) (fun (k : Nat) f w' => Has f [(0, .slice Ab b.length cb), (3, .slice A1 headP.length c1), (4, I ((k : Nat) : Int))] ∧ (k ≤ b.length ∧ k ≤ headP.length) ∧ (b.take k = headP.take k) ∧ SH w w' [] [.own A1 headP.length c1 3 1 (headP.map I)]) (fun k => b.length - k) 0 ⟨⟨rfl, rfl, rfl, trivial⟩, (by simp), (by simp), hs1⟩ ?_
 rintro k f w2 ⟨hf, hk, hz, hs2⟩
 obtain ⟨g1, rfl⟩ := has_upd hf
 clear hf
 refine sq ?_
 refine sq ?_
 refine rg ?_
 refine q trivial rfl rfl (mv (v := I ((k : Nat) : Int)) rfl) ?_
 refine q trivial rfl rfl (mv (v := .slice Ab b.length cb) rfl) ?_
 refine q trivial rfl rfl (lnA (n := b.length) sl24 rfl) ?_
 refine q trivial rfl rfl (lss (k := .i64) (a := ((k : Nat) : Int)) (b := ((b.length : Nat) : Int)) rfl rfl) ?_
 refine q trivial rfl rfl (mv (v := .bool (decide (((k : Nat) : Int) < ((b.length : Nat) : Int)))) rfl) ?_
 refine spd (p := ((k : Nat) : Int) < ((b.length : Nat) : Int)) 10 rfl (fun h1 => ?_) (fun h1 => ?_)
 · refine q ⟨_, rfl, rfl⟩ rfl rfl (mv (v := I ((k : Nat) : Int)) rfl) ?_
   refine q ⟨_, rfl, rfl⟩ rfl rfl (mv (v := .slice A1 headP.length c1) rfl) ?_
   refine q ⟨_, rfl, rfl⟩ rfl rfl (lnA (n := headP.length) sl24 rfl) ?_
   refine q ⟨_, rfl, rfl⟩ rfl rfl (lss (k := .i64) (a := ((k : Nat) : Int)) (b := ((headP.length : Nat) : Int)) rfl rfl) ?_
   refine q trivial rfl rfl (pt (v := .bool (decide (((k : Nat) : Int) < ((headP.length : Nat) : Int)))) rfl rfl) ?_
   refine nl ?_
   refine nN ?_
   refine cdd (p := ((k : Nat) : Int) < ((headP.length : Nat) : Int)) rfl (fun h2 => ?_) (fun h2 => ?_)
   · refine sk ?_
     refine nN ?_
     refine sq ?_
     refine bl ?_
     refine sq ?_
     obtain ⟨b1, rfl⟩ := own_form hs2 0 rfl (by (have hhl : headP.length = 14 := rfl; omega))
     refine rq (fun w' => SH w w' [] [oI b1 headP c1 3]) mixed (by kernel_rfl) hs2.drew ?_
     refine qq trivial rfl rfl (fun wq hsq => mv (v := .slice Ab b.length cb) rfl) ?_
     refine qq trivial rfl rfl (fun wq hsq => mv (v := I ((k : Nat) : Int)) rfl) ?_
     refine ixq1 k sl24 rfl rfl hb (by first | (first | omega | (simp; done) | (simp; omega)) | (have hhl : headP.length = 14 := rfl; first | omega | (simp; done) | (simp; omega))) (getm I 0 (by first | (first | omega | (simp; done) | (simp; omega)) | (have hhl : headP.length = 14 := rfl; first | omega | (simp; done) | (simp; omega)))) trivial rfl (fun a1 ha1 => ?_)
     refine qq trivial rfl rfl (fun wq hsq => lda (v := I (b.getD k 0)) hsq ha1 (fun _ h => h) rfl rfl one3) ?_
     refine qq trivial rfl rfl (fun wq hsq => mv (v := sb b1 headP.length c1) rfl) ?_
     refine qq trivial rfl rfl (fun wq hsq => mv (v := I ((k : Nat) : Int)) rfl) ?_
     refine qq trivial rfl rfl (fun wq hsq => ixo k sl24 rfl rfl (by first | (first | omega | (simp; done) | (simp; omega)) | (have hhl : headP.length = 14 := rfl; first | omega | (simp; done) | (simp; omega)))) ?_
     refine qq trivial rfl rfl (fun wq hsq => ldo1n (g := I) (ys := headP) (o := k) 0 hsq 0 rfl rfl (by first | (first | omega | (simp; done) | (simp; omega)) | (have hhl : headP.length = 14 := rfl; first | omega | (simp; done) | (simp; omega))) one3) ?_
     refine qq trivial rfl rfl (fun wq hsq => nei (k := .i64) (a := b.getD k 0) (b := headP.getD k 0) rfl rfl) ?_
     refine qn (fun w3 hs3 => ?_)
     refine nN ?_
     refine cdd (p := (b.getD k 0) ≠ (headP.getD k 0)) rfl (fun h3 => ?_) (fun h3 => ?_)
     · refine sq ?_
       refine rg ?_
       refine q trivial rfl rfl (asg (v := .bool false) rfl) ?_
       refine nl ?_
       refine nN ?_
       refine rt (bR (tR (tR (bR (tR ?_)))))
       refine fret (v := .bool false) (.tmp .nil) rfl ?_
       have e1 : false = alikeB b headP := by first | exact (alike_no (k := k) (by omega) (by omega) (by assumption)).symm | exact (alike_yes (k := k) hk.1 hk.2 hz (by omega)).symm
       exact ⟨(congrArg (Value.bool) e1), (hs3.pick [] rfl (by decide))⟩
     · refine sk ?_
       refine bN ?_
       refine nN ?_
       refine rg ?_
       refine q trivial rfl rfl (mv (v := I ((k : Nat) : Int)) rfl) ?_
       refine q trivial rfl rfl (add (a := ((k : Nat) : Int)) (b := 1) rfl rfl (by first | (exact ⟨by omega, by omega⟩) | (have hhl : headP.length = 14 := rfl; exact ⟨by omega, by omega⟩))) ?_
       refine q trivial rfl rfl (asg (v := I (((k : Nat) : Int) + 1)) rfl) ?_
       refine nl ?_
       refine nN ?_
       refine ⟨(k + 1), ⟨⟨rfl, rfl, rfl, trivial⟩, (by omega), (alike_step (by omega) (by omega) hz (by omega)), hs3⟩, ?_⟩
       omega
   · refine ex (tE (tE (bE ?_)))
     refine nN ?_
     refine sq ?_
     refine rg ?_
     refine q trivial rfl rfl (asg (v := .bool true) rfl) ?_
     refine nl ?_
     refine nN ?_
     refine rt ?_
     refine fret (v := .bool true) (.tmp .nil) rfl ?_
     have e2 : true = alikeB b headP := by first | exact (alike_no (k := k) (by omega) (by omega) (by assumption)).symm | exact (alike_yes (k := k) hk.1 hk.2 hz (by omega)).symm
     exact ⟨(congrArg (Value.bool) e2), (hs2.pick [] rfl (by decide))⟩
 · refine gk false rfl rfl rfl rfl rfl ?_
   refine gk false rfl rfl rfl rfl rfl ?_
   refine gk false rfl rfl rfl rfl rfl ?_
   refine gk false rfl rfl rfl rfl rfl ?_
   refine q trivial rfl rfl (pf (v := .bool false) rfl rfl) ?_
   refine nl ?_
   refine nN ?_
   refine cdf rfl ?_
   refine ex (tE (tE (bE ?_)))
   refine nN ?_
   refine sq ?_
   refine rg ?_
   refine q trivial rfl rfl (asg (v := .bool true) rfl) ?_
   refine nl ?_
   refine nN ?_
   refine rt ?_
   refine fret (v := .bool true) (.tmp .nil) rfl ?_
   have e3 : true = alikeB b headP := by first | exact (alike_no (k := k) (by omega) (by omega) (by assumption)).symm | exact (alike_yes (k := k) hk.1 hk.2 hz (by omega)).symm
   exact ⟨(congrArg (Value.bool) e3), (hs2.pick [] rfl (by decide))⟩

theorem sL21Alike {Ab : Option Addr} {cb : Nat} (b : List Int) (s : List UInt8) (w : World) (hb : Sl w [] 1 Ab b.length cb (b.map I)) (hs_n : s.length ≤ 2147483648) : Does Try.prog 30 [.slice Ab b.length cb, Str s] w (fun v w' => v = .bool (alikeB b (textI s)) ∧ SH w w' [] []) := by
 refine fn_enter (N := 27) Try.func30 rfl (by kernel_rfl) rfl rfl rfl ?_
 have hs0 : SH w w [] [] := SH.refl w []
 have hb_m : b.length ≤ 9223372036854775807 := Nat.le_trans hb.cap hb.capMax
 refine sq ?_
 refine rg ?_
 refine q trivial rfl rfl (asg (v := .bool false) rfl) ?_
 refine nl ?_
 refine nN ?_
 refine sq ?_
 refine sq ?_
 refine rg ?_
 refine q trivial rfl rfl (asg (v := I 0) rfl) ?_
 refine nl ?_
 refine nN ?_
 refine bl ?_
 refine lp (σ := Nat) (fun (k : Nat) f w' => Has f [(0, .slice Ab b.length cb), (1, Str s), (5, I ((k : Nat) : Int))] ∧ (k ≤ b.length ∧ k ≤ s.length) ∧ (b.take k = (textI s).take k) ∧ SH w w' [] []) (fun k => b.length - k) 0 ⟨⟨rfl, rfl, rfl, trivial⟩, (by omega), (by simp), hs0⟩ ?_
 rintro k f w1 ⟨hf, hk, hz, hs1⟩
 obtain ⟨g1, rfl⟩ := has_upd hf
 clear hf
 refine sq ?_
 refine sq ?_
 refine rg ?_
 refine q trivial rfl rfl (mv (v := I ((k : Nat) : Int)) rfl) ?_
 refine q trivial rfl rfl (mv (v := .slice Ab b.length cb) rfl) ?_
 refine q trivial rfl rfl (lnA (n := b.length) sl24 rfl) ?_
 refine q trivial rfl rfl (lss (k := .i64) (a := ((k : Nat) : Int)) (b := ((b.length : Nat) : Int)) rfl rfl) ?_
 refine q trivial rfl rfl (mv (v := .bool (decide (((k : Nat) : Int) < ((b.length : Nat) : Int)))) rfl) ?_
 refine spd (p := ((k : Nat) : Int) < ((b.length : Nat) : Int)) 10 rfl (fun h1 => ?_) (fun h1 => ?_)
 · refine q ⟨_, rfl, rfl⟩ rfl rfl (mv (v := I ((k : Nat) : Int)) rfl) ?_
   refine q ⟨_, rfl, rfl⟩ rfl rfl (mv (v := Str s) rfl) ?_
   refine q ⟨_, rfl, rfl⟩ rfl rfl (lnS (l := s) st9 rfl) ?_
   refine q ⟨_, rfl, rfl⟩ rfl rfl (lss (k := .i64) (a := ((k : Nat) : Int)) (b := ((s.length : Nat) : Int)) rfl rfl) ?_
   refine q trivial rfl rfl (pt (v := .bool (decide (((k : Nat) : Int) < ((s.length : Nat) : Int)))) rfl rfl) ?_
   refine nl ?_
   refine nN ?_
   refine cdd (p := ((k : Nat) : Int) < ((s.length : Nat) : Int)) rfl (fun h2 => ?_) (fun h2 => ?_)
   · refine sk ?_
     refine nN ?_
     refine sq ?_
     refine bl ?_
     refine sq ?_
     refine rq (fun w' => SH w w' [] []) mixed (by kernel_rfl) hs1.drew ?_
     refine qq trivial rfl rfl (fun wq hsq => mv (v := .slice Ab b.length cb) rfl) ?_
     refine qq trivial rfl rfl (fun wq hsq => mv (v := I ((k : Nat) : Int)) rfl) ?_
     refine ixq1 k sl24 rfl rfl hb (by first | (first | omega | (simp; done) | (simp; omega)) | (have htl := textI_len s; first | omega | (simp; done) | (simp; omega))) (getm I 0 (by first | (first | omega | (simp; done) | (simp; omega)) | (have htl := textI_len s; first | omega | (simp; done) | (simp; omega)))) trivial rfl (fun a1 ha1 => ?_)
     refine qq trivial rfl rfl (fun wq hsq => lda (v := I (b.getD k 0)) hsq ha1 (fun _ h => h) rfl rfl one3) ?_
     refine qq trivial rfl rfl (fun wq hsq => mv (v := Str s) rfl) ?_
     refine qq trivial rfl rfl (fun wq hsq => mv (v := I ((k : Nat) : Int)) rfl) ?_
     refine qq trivial rfl rfl (fun wq hsq => ixs (l := s) k st9 rfl rfl (by first | (first | omega | (simp; done) | (simp; omega)) | (have htl := textI_len s; first | omega | (simp; done) | (simp; omega)))) ?_
     refine qq trivial rfl rfl (fun wq hsq => cvI (a := (((s.getD k 0).toNat : Nat) : Int)) (s := .u8) ti5 ti3 rfl (by have := u8_bd ((s.getD k 0)); exact ⟨by omega, by omega⟩)) ?_
     refine qq trivial rfl rfl (fun wq hsq => nei (k := .i64) (a := b.getD k 0) (b := (((s.getD k 0).toNat : Nat) : Int)) rfl rfl) ?_
     refine qn (fun w2 hs2 => ?_)
     refine nN ?_
     refine cdd (p := (b.getD k 0) ≠ (((s.getD k 0).toNat : Nat) : Int)) rfl (fun h3 => ?_) (fun h3 => ?_)
     · refine sq ?_
       refine rg ?_
       refine q trivial rfl rfl (asg (v := .bool false) rfl) ?_
       refine nl ?_
       refine nN ?_
       refine rt (bR (tR (tR (bR (tR ?_)))))
       refine fret (v := .bool false) (.tmp .nil) rfl ?_
       have e1 : false = alikeB b (textI s) := by first | exact (alike_no (k := k) (by omega) (by rw [textI_len]; omega) (by rw [textI_get (by omega)]; omega)).symm | exact (alike_yes (k := k) hk.1 (by rw [textI_len]; exact hk.2) hz (by rw [textI_len]; omega)).symm
       exact ⟨(congrArg (Value.bool) e1), hs2⟩
     · refine sk ?_
       refine bN ?_
       refine nN ?_
       refine rg ?_
       refine q trivial rfl rfl (mv (v := I ((k : Nat) : Int)) rfl) ?_
       refine q trivial rfl rfl (add (a := ((k : Nat) : Int)) (b := 1) rfl rfl (by first | (exact ⟨by omega, by omega⟩) | (have htl := textI_len s; exact ⟨by omega, by omega⟩))) ?_
       refine q trivial rfl rfl (asg (v := I (((k : Nat) : Int) + 1)) rfl) ?_
       refine nl ?_
       refine nN ?_
       refine ⟨(k + 1), ⟨⟨rfl, rfl, rfl, trivial⟩, (by omega), (alike_step (by omega) (by rw [textI_len]; omega) hz (by rw [textI_get (by omega)]; omega)), hs2⟩, ?_⟩
       omega
   · refine ex (tE (tE (bE ?_)))
     refine nN ?_
     refine sq ?_
     refine rg ?_
     refine q trivial rfl rfl (asg (v := .bool true) rfl) ?_
     refine nl ?_
     refine nN ?_
     refine rt ?_
     refine fret (v := .bool true) (.tmp .nil) rfl ?_
     have e2 : true = alikeB b (textI s) := by first | exact (alike_no (k := k) (by omega) (by rw [textI_len]; omega) (by rw [textI_get (by omega)]; omega)).symm | exact (alike_yes (k := k) hk.1 (by rw [textI_len]; exact hk.2) hz (by rw [textI_len]; omega)).symm
     exact ⟨(congrArg (Value.bool) e2), hs1⟩
 · refine gk false rfl rfl rfl rfl rfl ?_
   refine gk false rfl rfl rfl rfl rfl ?_
   refine gk false rfl rfl rfl rfl rfl ?_
   refine gk false rfl rfl rfl rfl rfl ?_
   refine q trivial rfl rfl (pf (v := .bool false) rfl rfl) ?_
   refine nl ?_
   refine nN ?_
   refine cdf rfl ?_
   refine ex (tE (tE (bE ?_)))
   refine nN ?_
   refine sq ?_
   refine rg ?_
   refine q trivial rfl rfl (asg (v := .bool true) rfl) ?_
   refine nl ?_
   refine nN ?_
   refine rt ?_
   refine fret (v := .bool true) (.tmp .nil) rfl ?_
   have e3 : true = alikeB b (textI s) := by first | exact (alike_no (k := k) (by omega) (by rw [textI_len]; omega) (by rw [textI_get (by omega)]; omega)).symm | exact (alike_yes (k := k) hk.1 (by rw [textI_len]; exact hk.2) hz (by rw [textI_len]; omega)).symm
   exact ⟨(congrArg (Value.bool) e3), hs1⟩

theorem sSniffKind {Ab : Option Addr} {cb : Nat} (b : List Int) (w : World) (hb : Sl w [] 1 Ab b.length cb (b.map I)) : Does Try.prog 19 [.slice Ab b.length cb] w (fun v w' => v = .int .i64 (sniffK b) ∧ SH w w' [] []) := by
 refine fn_enter (N := 42) Try.func19 rfl (by kernel_rfl) rfl rfl rfl ?_
 have hs0 : SH w w [] [] := SH.refl w []
 have hb_m : b.length ≤ 9223372036854775807 := Nat.le_trans hb.cap hb.capMax
 refine sq ?_
 refine rg ?_
 refine q trivial rfl rfl (asg (v := I 0) rfl) ?_
 refine nl ?_
 refine nN ?_
 refine sq ?_
 refine bl ?_
 refine sq ?_
 refine rg ?_
 refine q trivial rfl rfl (mv (v := .slice Ab b.length cb) rfl) ?_
 refine cl trivial rfl (sBytesValid (Azs := Ab) (czs := cb) (zs := b) (w := _) (hzs := (hb.up0 hs0))) ?_
 rintro _ w1 ⟨rfl, hs1'⟩
 have hs1 : SH w w1 [] [] := hs0.call0 hs1'
 clear hs1'
 refine q trivial rfl rfl (nt (b := isBytes b) rfl) ?_
 refine q trivial rfl rfl (asg (v := .bool (!(isBytes b))) rfl) ?_
 refine nl ?_
 refine nN ?_
 refine cd (b := !(isBytes b)) rfl (fun h1 => ?_) (fun h1 => ?_)
 · have h2 : (isBytes b) = false := by simpa using h1
   refine sq ?_
   refine rg ?_
   refine q trivial rfl rfl (asg (v := I 6) rfl) ?_
   refine nl ?_
   refine nN ?_
   refine rt (bR (tR ?_))
   refine fret (v := I 6) (.tmp .nil) rfl ?_
   have e1 : 6 = sniffK b := by (have y1 := conn_t; have y2 := prox_t; have y3 : connP.length = 8 := rfl; have y4 : proxP.length = 6 := rfl; have y5 : headP.length = 14 := rfl; grind [sniffK, kindW])
   exact ⟨(congrArg (Value.int .i64) e1), hs1⟩
 · have h3 : (isBytes b) = true := by simpa using h1
   refine sq ?_
   refine rg ?_
   refine q trivial rfl rfl (mv (v := .slice Ab b.length cb) rfl) ?_
   refine q trivial rfl rfl (lnA (n := b.length) sl24 rfl) ?_
   refine q trivial rfl rfl (eqi (k := .i64) (a := ((b.length : Nat) : Int)) (b := 0) rfl rfl) ?_
   refine q trivial rfl rfl (asg (v := .bool (decide (((b.length : Nat) : Int) = 0))) rfl) ?_
   refine nl ?_
   refine nN ?_
   refine cdd (p := ((b.length : Nat) : Int) = 0) rfl (fun h4 => ?_) (fun h4 => ?_)
   · refine sq ?_
     refine rg ?_
     refine q trivial rfl rfl (asg (v := I 0) rfl) ?_
     refine nl ?_
     refine nN ?_
     refine rt (bR (tR ?_))
     refine fret (v := I 0) (.tmp .nil) rfl ?_
     have e2 : 0 = sniffK b := by (have y1 := conn_t; have y2 := prox_t; have y3 : connP.length = 8 := rfl; have y4 : proxP.length = 6 := rfl; have y5 : headP.length = 14 := rfl; grind [sniffK, kindW])
     exact ⟨(congrArg (Value.int .i64) e2), hs1⟩
   · refine sq ?_
     refine rg ?_
     refine q trivial rfl rfl (mv (v := .slice Ab b.length cb) rfl) ?_
     refine ixw1 0 sl24 rfl rfl hb (by first | omega | (simp; done) | (simp; omega)) (getm I 0 (by first | omega | (simp; done) | (simp; omega))) trivial rfl (fun a1 ha1 => ?_)
     refine q trivial rfl rfl (lda (v := I (b.getD 0 0)) hs1 ha1 (fun _ h => h) rfl rfl one3) ?_
     refine q trivial rfl rfl (eqi (k := .i64) (a := b.getD 0 0) (b := 4) rfl rfl) ?_
     refine q trivial rfl rfl (asg (v := .bool (decide ((b.getD 0 0) = 4))) rfl) ?_
     refine nl ?_
     refine nN ?_
     refine cdd (p := (b.getD 0 0) = 4) rfl (fun h5 => ?_) (fun h5 => ?_)
     · refine sq ?_
       refine rg ?_
       refine q trivial rfl rfl (asg (v := I 1) rfl) ?_
       refine nl ?_
       refine nN ?_
       refine rt (bR (tR ?_))
       refine fret (v := I 1) (.tmp .nil) rfl ?_
       have e3 : 1 = sniffK b := by (have y1 := conn_t; have y2 := prox_t; have y3 : connP.length = 8 := rfl; have y4 : proxP.length = 6 := rfl; have y5 : headP.length = 14 := rfl; grind [sniffK, kindW])
       exact ⟨(congrArg (Value.int .i64) e3), hs1⟩
     · refine sq ?_
       refine rg ?_
       refine q trivial rfl rfl (mv (v := .slice Ab b.length cb) rfl) ?_
       refine ixw1 0 sl24 rfl rfl hb (by first | omega | (simp; done) | (simp; omega)) (getm I 0 (by first | omega | (simp; done) | (simp; omega))) trivial rfl (fun a2 ha2 => ?_)
       refine q trivial rfl rfl (lda (v := I (b.getD 0 0)) hs1 ha2 (fun _ h => h) rfl rfl one3) ?_
       refine q trivial rfl rfl (eqi (k := .i64) (a := b.getD 0 0) (b := 5) rfl rfl) ?_
       refine q trivial rfl rfl (asg (v := .bool (decide ((b.getD 0 0) = 5))) rfl) ?_
       refine nl ?_
       refine nN ?_
       refine cdd (p := (b.getD 0 0) = 5) rfl (fun h6 => ?_) (fun h6 => ?_)
       · refine sq ?_
         refine rg ?_
         refine q trivial rfl rfl (asg (v := I 2) rfl) ?_
         refine nl ?_
         refine nN ?_
         refine rt (bR (tR ?_))
         refine fret (v := I 2) (.tmp .nil) rfl ?_
         have e4 : 2 = sniffK b := by (have y1 := conn_t; have y2 := prox_t; have y3 : connP.length = 8 := rfl; have y4 : proxP.length = 6 := rfl; have y5 : headP.length = 14 := rfl; grind [sniffK, kindW])
         exact ⟨(congrArg (Value.int .i64) e4), hs1⟩
       · refine sq ?_
         refine rg ?_
         refine q trivial rfl rfl (mv (v := .slice Ab b.length cb) rfl) ?_
         refine cl trivial rfl (sL21Alike (Ab := Ab) (cb := cb) (b := b) (s := [67, 79, 78, 78, 69, 67, 84, 32]) (w := _) (hb := (hb.up0 hs1)) (hs_n := (by first | omega | (simp; done) | (simp; omega)))) ?_
         rintro _ w2 ⟨rfl, hs2'⟩
         have hs2 : SH w w2 [] [] := hs1.call0 hs2'
         clear hs2'
         refine q trivial rfl rfl (asg (v := .bool (alikeB b (textI [67, 79, 78, 78, 69, 67, 84, 32]))) rfl) ?_
         refine nl ?_
         refine nN ?_
         refine cd (b := alikeB b (textI [67, 79, 78, 78, 69, 67, 84, 32])) rfl (fun h7 => ?_) (fun h7 => ?_)
         · refine sq ?_
           refine rg ?_
           refine q trivial rfl rfl (mv (v := .slice Ab b.length cb) rfl) ?_
           refine q trivial rfl rfl (lnA (n := b.length) sl24 rfl) ?_
           refine q trivial rfl rfl (geq (k := .i64) (a := ((b.length : Nat) : Int)) (b := 8) rfl rfl) ?_
           refine cl trivial rfl (sL21Known (f := (decide ((8 : Int) ≤ ((b.length : Nat) : Int)))) (k := 3) (w := _)) ?_
           rintro _ w3 ⟨rfl, hs3'⟩
           have hs3 : SH w w3 [] [] := hs2.call0 hs3'
           clear hs3'
           refine q trivial rfl rfl (asg (v := I (if (decide ((8 : Int) ≤ ((b.length : Nat) : Int))) = true then 3 else 0)) rfl) ?_
           refine nl ?_
           refine nN ?_
           refine rt (bR (tR ?_))
           refine fret (v := I (if (decide ((8 : Int) ≤ ((b.length : Nat) : Int))) = true then 3 else 0)) (.tmp .nil) rfl ?_
           have e5 : (if (decide ((8 : Int) ≤ ((b.length : Nat) : Int))) = true then 3 else 0) = sniffK b := by (have y1 := conn_t; have y2 := prox_t; have y3 : connP.length = 8 := rfl; have y4 : proxP.length = 6 := rfl; have y5 : headP.length = 14 := rfl; grind [sniffK, kindW])
           exact ⟨(congrArg (Value.int .i64) e5), hs3⟩
         · refine sq ?_
           refine rg ?_
           refine q trivial rfl rfl (mv (v := .slice Ab b.length cb) rfl) ?_
           refine cl trivial rfl (sL21Alike (Ab := Ab) (cb := cb) (b := b) (s := [80, 82, 79, 88, 89, 32]) (w := _) (hb := (hb.up0 hs2)) (hs_n := (by first | omega | (simp; done) | (simp; omega)))) ?_
           rintro _ w4 ⟨rfl, hs4'⟩
           have hs4 : SH w w4 [] [] := hs2.call0 hs4'
           clear hs4'
           refine q trivial rfl rfl (asg (v := .bool (alikeB b (textI [80, 82, 79, 88, 89, 32]))) rfl) ?_
           refine nl ?_
           refine nN ?_
           refine cd (b := alikeB b (textI [80, 82, 79, 88, 89, 32])) rfl (fun h8 => ?_) (fun h8 => ?_)
           · refine sq ?_
             refine rg ?_
             refine q trivial rfl rfl (mv (v := .slice Ab b.length cb) rfl) ?_
             refine q trivial rfl rfl (lnA (n := b.length) sl24 rfl) ?_
             refine q trivial rfl rfl (geq (k := .i64) (a := ((b.length : Nat) : Int)) (b := 6) rfl rfl) ?_
             refine cl trivial rfl (sL21Known (f := (decide ((6 : Int) ≤ ((b.length : Nat) : Int)))) (k := 4) (w := _)) ?_
             rintro _ w5 ⟨rfl, hs5'⟩
             have hs5 : SH w w5 [] [] := hs4.call0 hs5'
             clear hs5'
             refine q trivial rfl rfl (asg (v := I (if (decide ((6 : Int) ≤ ((b.length : Nat) : Int))) = true then 4 else 0)) rfl) ?_
             refine nl ?_
             refine nN ?_
             refine rt (bR (tR ?_))
             refine fret (v := I (if (decide ((6 : Int) ≤ ((b.length : Nat) : Int))) = true then 4 else 0)) (.tmp .nil) rfl ?_
             have e6 : (if (decide ((6 : Int) ≤ ((b.length : Nat) : Int))) = true then 4 else 0) = sniffK b := by (have y1 := conn_t; have y2 := prox_t; have y3 : connP.length = 8 := rfl; have y4 : proxP.length = 6 := rfl; have y5 : headP.length = 14 := rfl; grind [sniffK, kindW])
             exact ⟨(congrArg (Value.int .i64) e6), hs5⟩
           · refine sq ?_
             refine rg ?_
             refine q trivial rfl rfl (mv (v := .slice Ab b.length cb) rfl) ?_
             refine cl trivial rfl (sL16Same (Ab := Ab) (cb := cb) (b := b) (w := _) (hb := (hb.up0 hs4))) ?_
             rintro _ w6 ⟨rfl, hs6'⟩
             have hs6 : SH w w6 [] [] := hs4.call0 hs6'
             clear hs6'
             refine q trivial rfl rfl (asg (v := .bool (alikeB b headP)) rfl) ?_
             refine nl ?_
             refine nN ?_
             refine cd (b := alikeB b headP) rfl (fun h9 => ?_) (fun h9 => ?_)
             · refine sq ?_
               refine rg ?_
               refine q trivial rfl rfl (mv (v := .slice Ab b.length cb) rfl) ?_
               refine q trivial rfl rfl (lnA (n := b.length) sl24 rfl) ?_
               refine q trivial rfl rfl (geq (k := .i64) (a := ((b.length : Nat) : Int)) (b := 14) rfl rfl) ?_
               refine cl trivial rfl (sL21Known (f := (decide ((14 : Int) ≤ ((b.length : Nat) : Int)))) (k := 5) (w := _)) ?_
               rintro _ w7 ⟨rfl, hs7'⟩
               have hs7 : SH w w7 [] [] := hs6.call0 hs7'
               clear hs7'
               refine q trivial rfl rfl (asg (v := I (if (decide ((14 : Int) ≤ ((b.length : Nat) : Int))) = true then 5 else 0)) rfl) ?_
               refine nl ?_
               refine nN ?_
               refine rt (bR (tR ?_))
               refine fret (v := I (if (decide ((14 : Int) ≤ ((b.length : Nat) : Int))) = true then 5 else 0)) (.tmp .nil) rfl ?_
               have e7 : (if (decide ((14 : Int) ≤ ((b.length : Nat) : Int))) = true then 5 else 0) = sniffK b := by (have y1 := conn_t; have y2 := prox_t; have y3 : connP.length = 8 := rfl; have y4 : proxP.length = 6 := rfl; have y5 : headP.length = 14 := rfl; grind [sniffK, kindW])
               exact ⟨(congrArg (Value.int .i64) e7), hs7⟩
             · refine sk ?_
               refine bN ?_
               refine nN ?_
               refine sq ?_
               refine rg ?_
               refine q trivial rfl rfl (asg (v := I 6) rfl) ?_
               refine nl ?_
               refine nN ?_
               refine rt ?_
               refine fret (v := I 6) (.tmp .nil) rfl ?_
               have e8 : 6 = sniffK b := by (have y1 := conn_t; have y2 := prox_t; have y3 : connP.length = 8 := rfl; have y4 : proxP.length = 6 := rfl; have y5 : headP.length = 14 := rfl; grind [sniffK, kindW])
               exact ⟨(congrArg (Value.int .i64) e8), hs6⟩

theorem iBegins {Ab : Option Addr} {cb : Nat} (b : List Int) {Af : Option Addr} {cf : Nat} (f : List Int) (w : World) (hb : Sl w [] 1 Ab b.length cb (b.map I)) (hf : Sl w [] 1 Af f.length cf (f.map I)) : Does Try.prog 28 [.slice Ab b.length cb, .slice Af f.length cf] w (fun v w' => v = .bool (startsB b f) ∧ SH w w' [] []) := by
 refine fn_enter (N := 18) Try.func28 rfl (by kernel_rfl) rfl rfl rfl ?_
 have hs0 : SH w w [] [] := SH.refl w []
 have hb_m : b.length ≤ 9223372036854775807 := Nat.le_trans hb.cap hb.capMax
 have hf_m : f.length ≤ 9223372036854775807 := Nat.le_trans hf.cap hf.capMax
 refine sq ?_
 refine rg ?_
 refine q trivial rfl rfl (asg (v := .bool false) rfl) ?_
 refine nl ?_
 refine nN ?_
 refine sq ?_
 refine rg ?_
 refine q trivial rfl rfl (mv (v := .slice Ab b.length cb) rfl) ?_
 refine q trivial rfl rfl (lnA (n := b.length) sl24 rfl) ?_
 refine q trivial rfl rfl (mv (v := .slice Af f.length cf) rfl) ?_
 refine q trivial rfl rfl (lnA (n := f.length) sl24 rfl) ?_
 refine q trivial rfl rfl (geq (k := .i64) (a := ((b.length : Nat) : Int)) (b := ((f.length : Nat) : Int)) rfl rfl) ?_
 refine q trivial rfl rfl (mv (v := .bool (decide (((f.length : Nat) : Int) ≤ ((b.length : Nat) : Int)))) rfl) ?_
 refine spd (p := ((f.length : Nat) : Int) ≤ ((b.length : Nat) : Int)) 10 rfl (fun h1 => ?_) (fun h1 => ?_)
 · refine q ⟨_, rfl, rfl⟩ rfl rfl (mv (v := .slice Ab b.length cb) rfl) ?_
   refine q ⟨_, rfl, rfl⟩ rfl rfl (mv (v := .slice Af f.length cf) rfl) ?_
   refine q ⟨_, rfl, rfl⟩ rfl rfl (lnA (n := f.length) sl24 rfl) ?_
   refine q ⟨_, rfl, rfl⟩ rfl rfl (cuhm_ (zs := b) f.length sl24 rfl rfl (by first | omega | (simp; done) | (simp; omega)) hb.cap) ?_
   refine q ⟨_, rfl, rfl⟩ rfl rfl (mv (v := .slice Af f.length cf) rfl) ?_
   refine cl ⟨_, rfl, rfl⟩ rfl (slEqual (Axs := Ab) (cxs := cb) (xs := b.take f.length) (Abs := Af) (cbs := cf) (bs := f) (w := _) (hxs := (Sl.cuthm (hb.up0 hs0) (by first | omega | (simp; done) | (simp; omega)))) (hbs := (hf.up0 hs0))) ?_
   rintro _ w1 ⟨rfl, hs1'⟩
   have hs1 : SH w w1 [] [] := hs0.call0 hs1'
   clear hs1'
   refine q trivial rfl rfl (pt (v := .bool (decide ((b.take f.length) = f))) rfl rfl) ?_
   refine q trivial rfl rfl (asg (v := .bool (decide ((b.take f.length) = f))) rfl) ?_
   refine nl ?_
   refine nN ?_
   refine rt ?_
   refine fret (v := .bool (decide ((b.take f.length) = f))) (.tmp .nil) rfl ?_
   have e1 : (decide ((b.take f.length) = f)) = startsB b f := by first | (simp [startsB, h1]; done) | (simp [startsB]; omega)
   exact ⟨(congrArg (Value.bool) e1), hs1⟩
 · refine gk false rfl rfl rfl rfl rfl ?_
   refine gk false rfl rfl rfl rfl rfl ?_
   refine gk false rfl rfl rfl rfl rfl ?_
   refine gk false rfl rfl rfl rfl rfl ?_
   refine gk false rfl rfl rfl rfl rfl ?_
   refine gk false rfl rfl rfl rfl rfl ?_
   refine q trivial rfl rfl (pf (v := .bool false) rfl rfl) ?_
   refine q trivial rfl rfl (asg (v := .bool false) rfl) ?_
   refine nl ?_
   refine nN ?_
   refine rt ?_
   refine fret (v := .bool false) (.tmp .nil) rfl ?_
   have e2 : false = startsB b f := by first | (simp [startsB, h1]; done) | (simp [startsB]; omega)
   exact ⟨(congrArg (Value.bool) e2), hs0⟩

theorem sL15Line (ka : Int) {Aqa : Option Addr} {cqa : Nat} (qa : List Int) (na : List UInt8) (pa : Int) (kb : Int) {Aqb : Option Addr} {cqb : Nat} (qb : List Int) (nb : List UInt8) (pb : Int) (w : World) (hqa : Sl w [] 1 Aqa qa.length cqa (qa.map I)) (hna_n : na.length ≤ 1099511627776) (hqb : Sl w [] 1 Aqb qb.length cqb (qb.map I)) (hnb_n : nb.length ≤ 1099511627776) (ho : addrOk ka qa na pa = true ∧ ka = 1 ∧ addrOk kb qb nb pb = true ∧ kb = 1) : Does Try.prog 61 [.agg #[I ka, .slice Aqa qa.length cqa, Str na, I pa, I kb, .slice Aqb qb.length cqb, Str nb, I pb]] w (fun v w' => ∃ r : List UInt8, v = Str r ∧ (r.length ≤ 100) ∧ SH w w' [] []) := by
 refine fn_enter (N := 27) Try.func61 rfl (by kernel_rfl) rfl rfl rfl ?_
 have hs0 : SH w w [] [] := SH.refl w []
 have hqa_m : qa.length ≤ 9223372036854775807 := Nat.le_trans hqa.cap hqa.capMax
 have hqb_m : qb.length ≤ 9223372036854775807 := Nat.le_trans hqb.cap hqb.capMax
 refine sq ?_
 refine rg ?_
 refine bx (v := .agg #[I ka, .slice Aqa qa.length cqa, Str na, I pa, I kb, .slice Aqb qb.length cqb, Str nb, I pb]) (cs := [I ka, .slice Aqa qa.length cqa, Str na, I pa, I kb, .slice Aqb qb.length cqb, Str nb, I pb]) hs0 rfl rfl trivial rfl (fun b1 w1 (hs1 : SH w w1 [] [.blk b1 61 [I ka, .slice Aqa qa.length cqa, Str na, I pa, I kb, .slice Aqb qb.length cqb, Str nb, I pb]]) => ?_)
 refine q trivial rfl rfl (asg (v := Str []) rfl) ?_
 refine nl ?_
 refine nN ?_
 refine sq ?_
 refine rq (fun w' => SH w w' [] [.blk b1 61 [I ka, .slice Aqa qa.length cqa, Str na, I pa, I kb, .slice Aqb qb.length cqb, Str nb, I pb]]) mixed (by kernel_rfl) hs1.drew ?_
 refine qq trivial rfl rfl (fun wq hsq => fa 0 fo61_0 rfl) ?_
 refine qq trivial rfl rfl (fun wq hsq => fa 1 fo52_1 rfl) ?_
 refine qq trivial rfl rfl (fun wq hsq => ld (v := .slice Aqa qa.length cqa) hsq 0 rfl rfl rfl one24) ?_
 refine qc (Str (quadT qa)) trivial rfl (fun wq hsq => (sL2Quad (Aqs := Aqa) (cqs := cqa) (qs := qa) (w := _) (hqs := (hqa.up0 hsq)) (hq := (by first | exact (pair_b ho).1 | exact (pair_b ho).2.1))).mono (fun v w' h => ⟨h.1, by simpa using hsq.call0 h.2⟩)) ?_
 refine qq trivial rfl rfl (fun wq hsq => cat (l := [80, 82, 79, 88, 89, 32, 84, 67, 80, 52, 32]) (m := quadT qa) rfl rfl (by first | (have hpb := pair_b ho; (try simp only [List.length_append, List.length_cons, List.length_nil]); omega) | (have hpb := pair_b ho; simp; omega))) ?_
 refine qq trivial rfl rfl (fun wq hsq => cat (l := [80, 82, 79, 88, 89, 32, 84, 67, 80, 52, 32] ++ (quadT qa)) (m := [32]) rfl rfl (by first | (have hpb := pair_b ho; (try simp only [List.length_append, List.length_cons, List.length_nil]); omega) | (have hpb := pair_b ho; simp; omega))) ?_
 refine qq trivial rfl rfl (fun wq hsq => fa 4 fo61_1 rfl) ?_
 refine qq trivial rfl rfl (fun wq hsq => fa 1 fo52_1 rfl) ?_
 refine qq trivial rfl rfl (fun wq hsq => ld (v := .slice Aqb qb.length cqb) hsq 0 rfl rfl rfl one24) ?_
 refine qc (Str (quadT qb)) trivial rfl (fun wq hsq => (sL2Quad (Aqs := Aqb) (cqs := cqb) (qs := qb) (w := _) (hqs := (hqb.up0 hsq)) (hq := (by first | exact (pair_b ho).1 | exact (pair_b ho).2.1))).mono (fun v w' h => ⟨h.1, by simpa using hsq.call0 h.2⟩)) ?_
 refine qq trivial rfl rfl (fun wq hsq => cat (l := ([80, 82, 79, 88, 89, 32, 84, 67, 80, 52, 32] ++ (quadT qa)) ++ [32]) (m := quadT qb) rfl rfl (by first | (have hpb := pair_b ho; (try simp only [List.length_append, List.length_cons, List.length_nil]); omega) | (have hpb := pair_b ho; simp; omega))) ?_
 refine qq trivial rfl rfl (fun wq hsq => cat (l := (([80, 82, 79, 88, 89, 32, 84, 67, 80, 52, 32] ++ (quadT qa)) ++ [32]) ++ (quadT qb)) (m := [32]) rfl rfl (by first | (have hpb := pair_b ho; (try simp only [List.length_append, List.length_cons, List.length_nil]); omega) | (have hpb := pair_b ho; simp; omega))) ?_
 refine qq trivial rfl rfl (fun wq hsq => fa 0 fo61_0 rfl) ?_
 refine qq trivial rfl rfl (fun wq hsq => fa 3 fo52_3 rfl) ?_
 refine qq trivial rfl rfl (fun wq hsq => ld (v := I pa) hsq 0 rfl rfl rfl one3) ?_
 refine qc (Str (Lib.itoa pa)) trivial rfl (fun wq hsq => (l6Dec (n := pa) (w := _) (hn := (by first | exact (pair_b ho).2.2.1 | exact (pair_b ho).2.2.2.1))).mono (fun v w' h => ⟨h.1, by simpa using hsq.call0 h.2⟩)) ?_
 refine qq trivial rfl rfl (fun wq hsq => cat (l := ((([80, 82, 79, 88, 89, 32, 84, 67, 80, 52, 32] ++ (quadT qa)) ++ [32]) ++ (quadT qb)) ++ [32]) (m := Lib.itoa pa) rfl rfl (by first | (have hpb := pair_b ho; (try simp only [List.length_append, List.length_cons, List.length_nil]); omega) | (have hpb := pair_b ho; simp; omega))) ?_
 refine qq trivial rfl rfl (fun wq hsq => cat (l := (((([80, 82, 79, 88, 89, 32, 84, 67, 80, 52, 32] ++ (quadT qa)) ++ [32]) ++ (quadT qb)) ++ [32]) ++ (Lib.itoa pa)) (m := [32]) rfl rfl (by first | (have hpb := pair_b ho; (try simp only [List.length_append, List.length_cons, List.length_nil]); omega) | (have hpb := pair_b ho; simp; omega))) ?_
 refine qq trivial rfl rfl (fun wq hsq => fa 4 fo61_1 rfl) ?_
 refine qq trivial rfl rfl (fun wq hsq => fa 3 fo52_3 rfl) ?_
 refine qq trivial rfl rfl (fun wq hsq => ld (v := I pb) hsq 0 rfl rfl rfl one3) ?_
 refine qc (Str (Lib.itoa pb)) trivial rfl (fun wq hsq => (l6Dec (n := pb) (w := _) (hn := (by first | exact (pair_b ho).2.2.1 | exact (pair_b ho).2.2.2.1))).mono (fun v w' h => ⟨h.1, by simpa using hsq.call0 h.2⟩)) ?_
 refine qq trivial rfl rfl (fun wq hsq => cat (l := ((((([80, 82, 79, 88, 89, 32, 84, 67, 80, 52, 32] ++ (quadT qa)) ++ [32]) ++ (quadT qb)) ++ [32]) ++ (Lib.itoa pa)) ++ [32]) (m := Lib.itoa pb) rfl rfl (by first | (have hpb := pair_b ho; (try simp only [List.length_append, List.length_cons, List.length_nil]); omega) | (have hpb := pair_b ho; simp; omega))) ?_
 refine qq trivial rfl rfl (fun wq hsq => cat (l := (((((([80, 82, 79, 88, 89, 32, 84, 67, 80, 52, 32] ++ (quadT qa)) ++ [32]) ++ (quadT qb)) ++ [32]) ++ (Lib.itoa pa)) ++ [32]) ++ (Lib.itoa pb)) (m := [13, 10]) rfl rfl (by first | (have hpb := pair_b ho; (try simp only [List.length_append, List.length_cons, List.length_nil]); omega) | (have hpb := pair_b ho; simp; omega))) ?_
 refine qq trivial rfl rfl (fun wq hsq => asg (v := Str (((((((([80, 82, 79, 88, 89, 32, 84, 67, 80, 52, 32] ++ (quadT qa)) ++ [32]) ++ (quadT qb)) ++ [32]) ++ (Lib.itoa pa)) ++ [32]) ++ (Lib.itoa pb)) ++ [13, 10])) rfl) ?_
 refine qn (fun w2 hs2 => ?_)
 refine nN ?_
 refine rt ?_
 refine fret (v := Str (((((((([80, 82, 79, 88, 89, 32, 84, 67, 80, 52, 32] ++ (quadT qa)) ++ [32]) ++ (quadT qb)) ++ [32]) ++ (Lib.itoa pa)) ++ [32]) ++ (Lib.itoa pb)) ++ [13, 10])) (.tmp .nil) rfl ?_
 exact ⟨((((((([80, 82, 79, 88, 89, 32, 84, 67, 80, 52, 32] ++ (quadT qa)) ++ [32]) ++ (quadT qb)) ++ [32]) ++ (Lib.itoa pa)) ++ [32]) ++ (Lib.itoa pb)) ++ [13, 10], rfl, (by (have hpb := pair_b ho; (try simp only [List.length_append, List.length_cons, List.length_nil]); omega)), (hs2.pick [] rfl (by decide))⟩

theorem iSniffKind {Ab : Option Addr} {cb : Nat} (b : List Int) (w : World) (hb : Sl w [] 1 Ab b.length cb (b.map I)) : Does Try.prog 17 [.slice Ab b.length cb] w (fun v w' => v = .int .i64 (sniffK b) ∧ SH w w' [] []) := by
 refine fn_enter (N := 44) Try.func17 rfl (by kernel_rfl) rfl rfl rfl ?_
 have hs0 : SH w w [] [] := SH.refl w []
 have hb_m : b.length ≤ 9223372036854775807 := Nat.le_trans hb.cap hb.capMax
 refine sq ?_
 refine rg ?_
 refine q trivial rfl rfl (asg (v := I 0) rfl) ?_
 refine nl ?_
 refine nN ?_
 refine sq ?_
 refine bl ?_
 refine sq ?_
 refine rg ?_
 refine q trivial rfl rfl (mv (v := .slice Ab b.length cb) rfl) ?_
 refine cl trivial rfl (iBytesValid (Azs := Ab) (czs := cb) (zs := b) (w := _) (hzs := (hb.up0 hs0))) ?_
 rintro _ w1 ⟨rfl, hs1'⟩
 have hs1 : SH w w1 [] [] := hs0.call0 hs1'
 clear hs1'
 refine q trivial rfl rfl (nt (b := isBytes b) rfl) ?_
 refine q trivial rfl rfl (asg (v := .bool (!(isBytes b))) rfl) ?_
 refine nl ?_
 refine nN ?_
 refine cd (b := !(isBytes b)) rfl (fun h1 => ?_) (fun h1 => ?_)
 · have h2 : (isBytes b) = false := by simpa using h1
   refine sq ?_
   refine rg ?_
   refine q trivial rfl rfl (asg (v := I 6) rfl) ?_
   refine nl ?_
   refine nN ?_
   refine rt (bR (tR ?_))
   refine fret (v := I 6) (.tmp .nil) rfl ?_
   have e1 : 6 = sniffK b := by (have y1 := conn_t; have y2 := prox_t; have y6 := @starts_alike b; have y7 := @starts_alike2 b; have y8 := @starts_not b; have y9 := @starts_lt b; (try simp only [List.getD_cons_zero, List.getD_cons_succ, Int.zero_add, Nat.zero_add] at *); grind [sniffK, kindW])
   exact ⟨(congrArg (Value.int .i64) e1), hs1⟩
 · have h3 : (isBytes b) = true := by simpa using h1
   refine sq ?_
   refine rg ?_
   refine q trivial rfl rfl (mv (v := .slice Ab b.length cb) rfl) ?_
   refine q trivial rfl rfl (lnA (n := b.length) sl24 rfl) ?_
   refine q trivial rfl rfl (eqi (k := .i64) (a := ((b.length : Nat) : Int)) (b := 0) rfl rfl) ?_
   refine q trivial rfl rfl (asg (v := .bool (decide (((b.length : Nat) : Int) = 0))) rfl) ?_
   refine nl ?_
   refine nN ?_
   refine cdd (p := ((b.length : Nat) : Int) = 0) rfl (fun h4 => ?_) (fun h4 => ?_)
   · refine sq ?_
     refine rg ?_
     refine q trivial rfl rfl (asg (v := I 0) rfl) ?_
     refine nl ?_
     refine nN ?_
     refine rt (bR (tR ?_))
     refine fret (v := I 0) (.tmp .nil) rfl ?_
     have e2 : 0 = sniffK b := by (have y1 := conn_t; have y2 := prox_t; have y6 := @starts_alike b; have y7 := @starts_alike2 b; have y8 := @starts_not b; have y9 := @starts_lt b; (try simp only [List.getD_cons_zero, List.getD_cons_succ, Int.zero_add, Nat.zero_add] at *); grind [sniffK, kindW])
     exact ⟨(congrArg (Value.int .i64) e2), hs1⟩
   · refine sq ?_
     refine rg ?_
     refine q trivial rfl rfl (mv (v := .slice Ab b.length cb) rfl) ?_
     refine ixw1 0 sl24 rfl rfl hb (by first | omega | (simp; done) | (simp; omega)) (getm I 0 (by first | omega | (simp; done) | (simp; omega))) trivial rfl (fun a1 ha1 => ?_)
     refine q trivial rfl rfl (lda (v := I (b.getD 0 0)) hs1 ha1 (fun _ h => h) rfl rfl one3) ?_
     refine q trivial rfl rfl (eqi (k := .i64) (a := b.getD 0 0) (b := 4) rfl rfl) ?_
     refine q trivial rfl rfl (asg (v := .bool (decide ((b.getD 0 0) = 4))) rfl) ?_
     refine nl ?_
     refine nN ?_
     refine cdd (p := (b.getD 0 0) = 4) rfl (fun h5 => ?_) (fun h5 => ?_)
     · refine sq ?_
       refine rg ?_
       refine q trivial rfl rfl (asg (v := I 1) rfl) ?_
       refine nl ?_
       refine nN ?_
       refine rt (bR (tR ?_))
       refine fret (v := I 1) (.tmp .nil) rfl ?_
       have e3 : 1 = sniffK b := by (have y1 := conn_t; have y2 := prox_t; have y6 := @starts_alike b; have y7 := @starts_alike2 b; have y8 := @starts_not b; have y9 := @starts_lt b; (try simp only [List.getD_cons_zero, List.getD_cons_succ, Int.zero_add, Nat.zero_add] at *); grind [sniffK, kindW])
       exact ⟨(congrArg (Value.int .i64) e3), hs1⟩
     · refine sq ?_
       refine rg ?_
       refine q trivial rfl rfl (mv (v := .slice Ab b.length cb) rfl) ?_
       refine ixw1 0 sl24 rfl rfl hb (by first | omega | (simp; done) | (simp; omega)) (getm I 0 (by first | omega | (simp; done) | (simp; omega))) trivial rfl (fun a2 ha2 => ?_)
       refine q trivial rfl rfl (lda (v := I (b.getD 0 0)) hs1 ha2 (fun _ h => h) rfl rfl one3) ?_
       refine q trivial rfl rfl (eqi (k := .i64) (a := b.getD 0 0) (b := 5) rfl rfl) ?_
       refine q trivial rfl rfl (asg (v := .bool (decide ((b.getD 0 0) = 5))) rfl) ?_
       refine nl ?_
       refine nN ?_
       refine cdd (p := (b.getD 0 0) = 5) rfl (fun h6 => ?_) (fun h6 => ?_)
       · refine sq ?_
         refine rg ?_
         refine q trivial rfl rfl (asg (v := I 2) rfl) ?_
         refine nl ?_
         refine nN ?_
         refine rt (bR (tR ?_))
         refine fret (v := I 2) (.tmp .nil) rfl ?_
         have e4 : 2 = sniffK b := by (have y1 := conn_t; have y2 := prox_t; have y6 := @starts_alike b; have y7 := @starts_alike2 b; have y8 := @starts_not b; have y9 := @starts_lt b; (try simp only [List.getD_cons_zero, List.getD_cons_succ, Int.zero_add, Nat.zero_add] at *); grind [sniffK, kindW])
         exact ⟨(congrArg (Value.int .i64) e4), hs1⟩
       · refine sk ?_
         refine bN ?_
         refine nN ?_
         refine sq ?_
         refine sq ?_
         refine rg ?_
         refine cl trivial rfl (iTextBytes (s := [67, 79, 78, 78, 69, 67, 84, 32]) (w := _) (hs_n := (by first | omega | (simp; done) | (simp; omega)))) ?_
         rintro _ w2 ⟨A1, c1, rfl, hs2'⟩
         have hs2 : SH w w2 [] [.own A1 ((textI [67, 79, 78, 78, 69, 67, 84, 32]).length) c1 3 1 ((textI [67, 79, 78, 78, 69, 67, 84, 32]).map I)] := hs1.call0 hs2'
         clear hs2'
         refine cl trivial rfl (iTextBytes (s := [80, 82, 79, 88, 89, 32]) (w := _) (hs_n := (by first | omega | (simp; done) | (simp; omega)))) ?_
         rintro _ w3 ⟨A2, c2, rfl, hs3'⟩
         have hs3 : SH w w3 [] [.own A1 ((textI [67, 79, 78, 78, 69, 67, 84, 32]).length) c1 3 1 ((textI [67, 79, 78, 78, 69, 67, 84, 32]).map I), .own A2 ((textI [80, 82, 79, 88, 89, 32]).length) c2 3 1 ((textI [80, 82, 79, 88, 89, 32]).map I)] := hs2.call0 hs3'
         clear hs3'
         refine cl trivial rfl (iHeadStart (w := _)) ?_
         rintro _ w4 ⟨A3, c3, rfl, hs4'⟩
         have hs4 : SH w w4 [] [.own A1 ((textI [67, 79, 78, 78, 69, 67, 84, 32]).length) c1 3 1 ((textI [67, 79, 78, 78, 69, 67, 84, 32]).map I), .own A2 ((textI [80, 82, 79, 88, 89, 32]).length) c2 3 1 ((textI [80, 82, 79, 88, 89, 32]).map I), .own A3 headP.length c3 3 1 (headP.map I)] := hs3.call0 hs4'
         clear hs4'
         refine bsk hs4 sl22 [.slice A1 ((textI [67, 79, 78, 78, 69, 67, 84, 32]).length) c1, .slice A2 ((textI [80, 82, 79, 88, 89, 32]).length) c2, .slice A3 headP.length c3] [.slice A1 ((textI [67, 79, 78, 78, 69, 67, 84, 32]).length) c1, .slice A2 ((textI [80, 82, 79, 88, 89, 32]).length) c2, .slice A3 headP.length c3] trivial rfl (fun b1 w5 (hs5 : SH w w5 [] [.own A1 ((textI [67, 79, 78, 78, 69, 67, 84, 32]).length) c1 3 1 ((textI [67, 79, 78, 78, 69, 67, 84, 32]).map I), .own A2 ((textI [80, 82, 79, 88, 89, 32]).length) c2 3 1 ((textI [80, 82, 79, 88, 89, 32]).map I), .own A3 headP.length c3 3 1 (headP.map I), .own (some ⟨b1, 0, none⟩) (([(⟨A1, c1, textI [67, 79, 78, 78, 69, 67, 84, 32]⟩ : Hd), (⟨A2, c2, textI [80, 82, 79, 88, 89, 32]⟩ : Hd), (⟨A3, c3, headP⟩ : Hd)] : List Hd).length) 3 24 1 (([(⟨A1, c1, textI [67, 79, 78, 78, 69, 67, 84, 32]⟩ : Hd), (⟨A2, c2, textI [80, 82, 79, 88, 89, 32]⟩ : Hd), (⟨A3, c3, headP⟩ : Hd)] : List Hd).map hv)]) => ?_)
         refine q trivial rfl rfl (lnA (n := ([(⟨A1, c1, textI [67, 79, 78, 78, 69, 67, 84, 32]⟩ : Hd), (⟨A2, c2, textI [80, 82, 79, 88, 89, 32]⟩ : Hd), (⟨A3, c3, headP⟩ : Hd)] : List Hd).length) sl22 rfl) ?_
         refine q trivial rfl rfl (mv (v := I 0) rfl) ?_
         refine nl ?_
         refine nN ?_
         refine bl ?_
         refine ul0 (ulS ?_)
         refine sq ?_
         refine rg ?_
         refine q trivial rfl rfl (lss (k := .i64) (a := 0) (b := ((([(⟨A1, c1, textI [67, 79, 78, 78, 69, 67, 84, 32]⟩ : Hd), (⟨A2, c2, textI [80, 82, 79, 88, 89, 32]⟩ : Hd), (⟨A3, c3, headP⟩ : Hd)] : List Hd).length : Nat) : Int)) rfl rfl) ?_
         refine nl ?_
         refine nN ?_
         refine sq ?_
         refine cdd (p := 0 < ((([(⟨A1, c1, textI [67, 79, 78, 78, 69, 67, 84, 32]⟩ : Hd), (⟨A2, c2, textI [80, 82, 79, 88, 89, 32]⟩ : Hd), (⟨A3, c3, headP⟩ : Hd)] : List Hd).length : Nat) : Int)) rfl (fun h7 => ?_) (fun h7 => absurd (by (simp; done)) h7)
         refine sk ?_
         refine nN ?_
         refine sq ?_
         refine bl ?_
         refine sq ?_
         refine rg ?_
         refine q trivial rfl rfl (mv (v := I 0) rfl) ?_
         refine q trivial rfl rfl (ixo 0 sl22 rfl rfl (by first | omega | (simp; done) | (simp; omega))) ?_
         refine q trivial rfl rfl (ldoHd (L := ([textI [67, 79, 78, 78, 69, 67, 84, 32], textI [80, 82, 79, 88, 89, 32], headP] : List (List Int))) (ys := ([(⟨A1, c1, textI [67, 79, 78, 78, 69, 67, 84, 32]⟩ : Hd), (⟨A2, c2, textI [80, 82, 79, 88, 89, 32]⟩ : Hd), (⟨A3, c3, headP⟩ : Hd)] : List Hd)) (o := 0) rfl hs5 3 rfl rfl (by first | omega | (simp; done) | (simp; omega)) one24) ?_
         refine q trivial rfl rfl (asg (v := I 0) rfl) ?_
         refine q trivial rfl rfl (asg (v := .slice ((([(⟨A1, c1, textI [67, 79, 78, 78, 69, 67, 84, 32]⟩ : Hd), (⟨A2, c2, textI [80, 82, 79, 88, 89, 32]⟩ : Hd), (⟨A3, c3, headP⟩ : Hd)] : List Hd).getD 0 hd0).A) ((([textI [67, 79, 78, 78, 69, 67, 84, 32], textI [80, 82, 79, 88, 89, 32], headP] : List (List Int)).getD 0 []).length) ((([(⟨A1, c1, textI [67, 79, 78, 78, 69, 67, 84, 32]⟩ : Hd), (⟨A2, c2, textI [80, 82, 79, 88, 89, 32]⟩ : Hd), (⟨A3, c3, headP⟩ : Hd)] : List Hd).getD 0 hd0).c)) rfl) ?_
         refine nl ?_
         refine nN ?_
         refine bl ?_
         refine sq ?_
         refine rg ?_
         refine q trivial rfl rfl (mv (v := .slice Ab b.length cb) rfl) ?_
         refine q trivial rfl rfl (mv (v := .slice ((([(⟨A1, c1, textI [67, 79, 78, 78, 69, 67, 84, 32]⟩ : Hd), (⟨A2, c2, textI [80, 82, 79, 88, 89, 32]⟩ : Hd), (⟨A3, c3, headP⟩ : Hd)] : List Hd).getD 0 hd0).A) ((([textI [67, 79, 78, 78, 69, 67, 84, 32], textI [80, 82, 79, 88, 89, 32], headP] : List (List Int)).getD 0 []).length) ((([(⟨A1, c1, textI [67, 79, 78, 78, 69, 67, 84, 32]⟩ : Hd), (⟨A2, c2, textI [80, 82, 79, 88, 89, 32]⟩ : Hd), (⟨A3, c3, headP⟩ : Hd)] : List Hd).getD 0 hd0).c)) rfl) ?_
         refine cl trivial rfl (iBegins (Ab := Ab) (cb := cb) (b := b) (Af := (([(⟨A1, c1, textI [67, 79, 78, 78, 69, 67, 84, 32]⟩ : Hd), (⟨A2, c2, textI [80, 82, 79, 88, 89, 32]⟩ : Hd), (⟨A3, c3, headP⟩ : Hd)] : List Hd).getD 0 hd0).A) (cf := (([(⟨A1, c1, textI [67, 79, 78, 78, 69, 67, 84, 32]⟩ : Hd), (⟨A2, c2, textI [80, 82, 79, 88, 89, 32]⟩ : Hd), (⟨A3, c3, headP⟩ : Hd)] : List Hd).getD 0 hd0).c) (f := ([textI [67, 79, 78, 78, 69, 67, 84, 32], textI [80, 82, 79, 88, 89, 32], headP] : List (List Int)).getD 0 []) (w := _) (hb := (hb.up0 hs5)) (hf := (hd_at2 (L := ([textI [67, 79, 78, 78, 69, 67, 84, 32], textI [80, 82, 79, 88, 89, 32], headP] : List (List Int))) rfl (fa_cons (hs5.sl0 0 rfl) (fa_cons (hs5.sl0 1 rfl) (fa_cons (hs5.sl0 2 rfl) fa_nil))) (by first | omega | (simp; done) | (simp; omega))))) ?_
         rintro _ w6 ⟨rfl, hs6'⟩
         have hs6 : SH w w6 [] [.own A1 ((textI [67, 79, 78, 78, 69, 67, 84, 32]).length) c1 3 1 ((textI [67, 79, 78, 78, 69, 67, 84, 32]).map I), .own A2 ((textI [80, 82, 79, 88, 89, 32]).length) c2 3 1 ((textI [80, 82, 79, 88, 89, 32]).map I), .own A3 headP.length c3 3 1 (headP.map I), .own (some ⟨b1, 0, none⟩) (([(⟨A1, c1, textI [67, 79, 78, 78, 69, 67, 84, 32]⟩ : Hd), (⟨A2, c2, textI [80, 82, 79, 88, 89, 32]⟩ : Hd), (⟨A3, c3, headP⟩ : Hd)] : List Hd).length) 3 24 1 (([(⟨A1, c1, textI [67, 79, 78, 78, 69, 67, 84, 32]⟩ : Hd), (⟨A2, c2, textI [80, 82, 79, 88, 89, 32]⟩ : Hd), (⟨A3, c3, headP⟩ : Hd)] : List Hd).map hv)] := hs5.call0 hs6'
         clear hs6'
         refine q trivial rfl rfl (asg (v := .bool (startsB b (([textI [67, 79, 78, 78, 69, 67, 84, 32], textI [80, 82, 79, 88, 89, 32], headP] : List (List Int)).getD 0 []))) rfl) ?_
         refine nl ?_
         refine nN ?_
         refine cd (b := startsB b (([textI [67, 79, 78, 78, 69, 67, 84, 32], textI [80, 82, 79, 88, 89, 32], headP] : List (List Int)).getD 0 [])) rfl (fun h8 => ?_) (fun h8 => ?_)
         · refine sq ?_
           refine rg ?_
           refine q trivial rfl rfl (mv (v := I 0) rfl) ?_
           refine q trivial rfl rfl (add (a := 3) (b := 0) rfl rfl (by exact ⟨by omega, by omega⟩)) ?_
           refine q trivial rfl rfl (asg (v := I ((3 : Int) + 0)) rfl) ?_
           refine nl ?_
           refine nN ?_
           have hs7 : SH w w6 [] [] := hs6.pick [] rfl (by decide)
           refine rt (bR (bR (tR (tR (bR (tR ?_))))))
           refine fret (v := I ((3 : Int) + 0)) (.tmp .nil) rfl ?_
           have e5 : (3 : Int) + 0 = sniffK b := by (have y1 := conn_t; have y2 := prox_t; have y6 := @starts_alike b; have y7 := @starts_alike2 b; have y8 := @starts_not b; have y9 := @starts_lt b; (try simp only [List.getD_cons_zero, List.getD_cons_succ, Int.zero_add, Nat.zero_add] at *); grind [sniffK, kindW])
           exact ⟨(congrArg (Value.int .i64) e5), hs7⟩
         · refine sq ?_
           refine rg ?_
           refine q trivial rfl rfl (mv (v := .slice ((([(⟨A1, c1, textI [67, 79, 78, 78, 69, 67, 84, 32]⟩ : Hd), (⟨A2, c2, textI [80, 82, 79, 88, 89, 32]⟩ : Hd), (⟨A3, c3, headP⟩ : Hd)] : List Hd).getD 0 hd0).A) ((([textI [67, 79, 78, 78, 69, 67, 84, 32], textI [80, 82, 79, 88, 89, 32], headP] : List (List Int)).getD 0 []).length) ((([(⟨A1, c1, textI [67, 79, 78, 78, 69, 67, 84, 32]⟩ : Hd), (⟨A2, c2, textI [80, 82, 79, 88, 89, 32]⟩ : Hd), (⟨A3, c3, headP⟩ : Hd)] : List Hd).getD 0 hd0).c)) rfl) ?_
           refine q trivial rfl rfl (mv (v := .slice Ab b.length cb) rfl) ?_
           refine cl trivial rfl (iBegins (Ab := (([(⟨A1, c1, textI [67, 79, 78, 78, 69, 67, 84, 32]⟩ : Hd), (⟨A2, c2, textI [80, 82, 79, 88, 89, 32]⟩ : Hd), (⟨A3, c3, headP⟩ : Hd)] : List Hd).getD 0 hd0).A) (cb := (([(⟨A1, c1, textI [67, 79, 78, 78, 69, 67, 84, 32]⟩ : Hd), (⟨A2, c2, textI [80, 82, 79, 88, 89, 32]⟩ : Hd), (⟨A3, c3, headP⟩ : Hd)] : List Hd).getD 0 hd0).c) (b := ([textI [67, 79, 78, 78, 69, 67, 84, 32], textI [80, 82, 79, 88, 89, 32], headP] : List (List Int)).getD 0 []) (Af := Ab) (cf := cb) (f := b) (w := _) (hb := (hd_at2 (L := ([textI [67, 79, 78, 78, 69, 67, 84, 32], textI [80, 82, 79, 88, 89, 32], headP] : List (List Int))) rfl (fa_cons (hs6.sl0 0 rfl) (fa_cons (hs6.sl0 1 rfl) (fa_cons (hs6.sl0 2 rfl) fa_nil))) (by first | omega | (simp; done) | (simp; omega)))) (hf := (hb.up0 hs6))) ?_
           rintro _ w7 ⟨rfl, hs8'⟩
           have hs8 : SH w w7 [] [.own A1 ((textI [67, 79, 78, 78, 69, 67, 84, 32]).length) c1 3 1 ((textI [67, 79, 78, 78, 69, 67, 84, 32]).map I), .own A2 ((textI [80, 82, 79, 88, 89, 32]).length) c2 3 1 ((textI [80, 82, 79, 88, 89, 32]).map I), .own A3 headP.length c3 3 1 (headP.map I), .own (some ⟨b1, 0, none⟩) (([(⟨A1, c1, textI [67, 79, 78, 78, 69, 67, 84, 32]⟩ : Hd), (⟨A2, c2, textI [80, 82, 79, 88, 89, 32]⟩ : Hd), (⟨A3, c3, headP⟩ : Hd)] : List Hd).length) 3 24 1 (([(⟨A1, c1, textI [67, 79, 78, 78, 69, 67, 84, 32]⟩ : Hd), (⟨A2, c2, textI [80, 82, 79, 88, 89, 32]⟩ : Hd), (⟨A3, c3, headP⟩ : Hd)] : List Hd).map hv)] := hs6.call0 hs8'
           clear hs8'
           refine q trivial rfl rfl (asg (v := .bool (startsB (([textI [67, 79, 78, 78, 69, 67, 84, 32], textI [80, 82, 79, 88, 89, 32], headP] : List (List Int)).getD 0 []) b)) rfl) ?_
           refine nl ?_
           refine nN ?_
           refine cd (b := startsB (([textI [67, 79, 78, 78, 69, 67, 84, 32], textI [80, 82, 79, 88, 89, 32], headP] : List (List Int)).getD 0 []) b) rfl (fun h9 => ?_) (fun h9 => ?_)
           · refine sq ?_
             refine rg ?_
             refine q trivial rfl rfl (asg (v := I 0) rfl) ?_
             refine nl ?_
             refine nN ?_
             have hs9 : SH w w7 [] [] := hs8.pick [] rfl (by decide)
             refine rt (bR (bR (tR (tR (bR (tR ?_))))))
             refine fret (v := I 0) (.tmp .nil) rfl ?_
             have e6 : 0 = sniffK b := by (have y1 := conn_t; have y2 := prox_t; have y6 := @starts_alike b; have y7 := @starts_alike2 b; have y8 := @starts_not b; have y9 := @starts_lt b; (try simp only [List.getD_cons_zero, List.getD_cons_succ, Int.zero_add, Nat.zero_add] at *); grind [sniffK, kindW])
             exact ⟨(congrArg (Value.int .i64) e6), hs9⟩
           · refine sk ?_
             refine bN ?_
             refine bN ?_
             refine nN ?_
             refine rg ?_
             refine q trivial rfl rfl (add (a := 0) (b := 1) rfl rfl (by exact ⟨by omega, by omega⟩)) ?_
             refine q trivial rfl rfl (mv (v := I ((0 : Int) + 1)) rfl) ?_
             refine nl ?_
             refine nN ?_
             refine ulS ?_
             refine sq ?_
             refine rg ?_
             refine q trivial rfl rfl (lss (k := .i64) (a := (0 : Int) + 1) (b := ((([(⟨A1, c1, textI [67, 79, 78, 78, 69, 67, 84, 32]⟩ : Hd), (⟨A2, c2, textI [80, 82, 79, 88, 89, 32]⟩ : Hd), (⟨A3, c3, headP⟩ : Hd)] : List Hd).length : Nat) : Int)) rfl rfl) ?_
             refine nl ?_
             refine nN ?_
             refine sq ?_
             refine cdd (p := ((0 : Int) + 1) < ((([(⟨A1, c1, textI [67, 79, 78, 78, 69, 67, 84, 32]⟩ : Hd), (⟨A2, c2, textI [80, 82, 79, 88, 89, 32]⟩ : Hd), (⟨A3, c3, headP⟩ : Hd)] : List Hd).length : Nat) : Int)) rfl (fun h10 => ?_) (fun h10 => absurd (by (simp; done)) h10)
             refine sk ?_
             refine nN ?_
             refine sq ?_
             refine bl ?_
             refine sq ?_
             refine rg ?_
             refine q trivial rfl rfl (mv (v := I ((0 : Int) + 1)) rfl) ?_
             refine q trivial rfl rfl (ixo (0 + 1) sl22 rfl rfl (by first | omega | (simp; done) | (simp; omega))) ?_
             refine q trivial rfl rfl (ldoHd (L := ([textI [67, 79, 78, 78, 69, 67, 84, 32], textI [80, 82, 79, 88, 89, 32], headP] : List (List Int))) (ys := ([(⟨A1, c1, textI [67, 79, 78, 78, 69, 67, 84, 32]⟩ : Hd), (⟨A2, c2, textI [80, 82, 79, 88, 89, 32]⟩ : Hd), (⟨A3, c3, headP⟩ : Hd)] : List Hd)) (o := 0 + 1) rfl hs8 3 rfl rfl (by first | omega | (simp; done) | (simp; omega)) one24) ?_
             refine q trivial rfl rfl (asg (v := I ((0 : Int) + 1)) rfl) ?_
             refine q trivial rfl rfl (asg (v := .slice ((([(⟨A1, c1, textI [67, 79, 78, 78, 69, 67, 84, 32]⟩ : Hd), (⟨A2, c2, textI [80, 82, 79, 88, 89, 32]⟩ : Hd), (⟨A3, c3, headP⟩ : Hd)] : List Hd).getD (0 + 1) hd0).A) ((([textI [67, 79, 78, 78, 69, 67, 84, 32], textI [80, 82, 79, 88, 89, 32], headP] : List (List Int)).getD (0 + 1) []).length) ((([(⟨A1, c1, textI [67, 79, 78, 78, 69, 67, 84, 32]⟩ : Hd), (⟨A2, c2, textI [80, 82, 79, 88, 89, 32]⟩ : Hd), (⟨A3, c3, headP⟩ : Hd)] : List Hd).getD (0 + 1) hd0).c)) rfl) ?_
             refine nl ?_
             refine nN ?_
             refine bl ?_
             refine sq ?_
             refine rg ?_
             refine q trivial rfl rfl (mv (v := .slice Ab b.length cb) rfl) ?_
             refine q trivial rfl rfl (mv (v := .slice ((([(⟨A1, c1, textI [67, 79, 78, 78, 69, 67, 84, 32]⟩ : Hd), (⟨A2, c2, textI [80, 82, 79, 88, 89, 32]⟩ : Hd), (⟨A3, c3, headP⟩ : Hd)] : List Hd).getD (0 + 1) hd0).A) ((([textI [67, 79, 78, 78, 69, 67, 84, 32], textI [80, 82, 79, 88, 89, 32], headP] : List (List Int)).getD (0 + 1) []).length) ((([(⟨A1, c1, textI [67, 79, 78, 78, 69, 67, 84, 32]⟩ : Hd), (⟨A2, c2, textI [80, 82, 79, 88, 89, 32]⟩ : Hd), (⟨A3, c3, headP⟩ : Hd)] : List Hd).getD (0 + 1) hd0).c)) rfl) ?_
             refine cl trivial rfl (iBegins (Ab := Ab) (cb := cb) (b := b) (Af := (([(⟨A1, c1, textI [67, 79, 78, 78, 69, 67, 84, 32]⟩ : Hd), (⟨A2, c2, textI [80, 82, 79, 88, 89, 32]⟩ : Hd), (⟨A3, c3, headP⟩ : Hd)] : List Hd).getD (0 + 1) hd0).A) (cf := (([(⟨A1, c1, textI [67, 79, 78, 78, 69, 67, 84, 32]⟩ : Hd), (⟨A2, c2, textI [80, 82, 79, 88, 89, 32]⟩ : Hd), (⟨A3, c3, headP⟩ : Hd)] : List Hd).getD (0 + 1) hd0).c) (f := ([textI [67, 79, 78, 78, 69, 67, 84, 32], textI [80, 82, 79, 88, 89, 32], headP] : List (List Int)).getD (0 + 1) []) (w := _) (hb := (hb.up0 hs8)) (hf := (hd_at2 (L := ([textI [67, 79, 78, 78, 69, 67, 84, 32], textI [80, 82, 79, 88, 89, 32], headP] : List (List Int))) rfl (fa_cons (hs8.sl0 0 rfl) (fa_cons (hs8.sl0 1 rfl) (fa_cons (hs8.sl0 2 rfl) fa_nil))) (by first | omega | (simp; done) | (simp; omega))))) ?_
             rintro _ w8 ⟨rfl, hs10'⟩
             have hs10 : SH w w8 [] [.own A1 ((textI [67, 79, 78, 78, 69, 67, 84, 32]).length) c1 3 1 ((textI [67, 79, 78, 78, 69, 67, 84, 32]).map I), .own A2 ((textI [80, 82, 79, 88, 89, 32]).length) c2 3 1 ((textI [80, 82, 79, 88, 89, 32]).map I), .own A3 headP.length c3 3 1 (headP.map I), .own (some ⟨b1, 0, none⟩) (([(⟨A1, c1, textI [67, 79, 78, 78, 69, 67, 84, 32]⟩ : Hd), (⟨A2, c2, textI [80, 82, 79, 88, 89, 32]⟩ : Hd), (⟨A3, c3, headP⟩ : Hd)] : List Hd).length) 3 24 1 (([(⟨A1, c1, textI [67, 79, 78, 78, 69, 67, 84, 32]⟩ : Hd), (⟨A2, c2, textI [80, 82, 79, 88, 89, 32]⟩ : Hd), (⟨A3, c3, headP⟩ : Hd)] : List Hd).map hv)] := hs8.call0 hs10'
             clear hs10'
             refine q trivial rfl rfl (asg (v := .bool (startsB b (([textI [67, 79, 78, 78, 69, 67, 84, 32], textI [80, 82, 79, 88, 89, 32], headP] : List (List Int)).getD (0 + 1) []))) rfl) ?_
             refine nl ?_
             refine nN ?_
             refine cd (b := startsB b (([textI [67, 79, 78, 78, 69, 67, 84, 32], textI [80, 82, 79, 88, 89, 32], headP] : List (List Int)).getD (0 + 1) [])) rfl (fun h11 => ?_) (fun h11 => ?_)
             · refine sq ?_
               refine rg ?_
               refine q trivial rfl rfl (mv (v := I ((0 : Int) + 1)) rfl) ?_
               refine q trivial rfl rfl (add (a := 3) (b := (0 : Int) + 1) rfl rfl (by exact ⟨by omega, by omega⟩)) ?_
               refine q trivial rfl rfl (asg (v := I (3 + ((0 : Int) + 1))) rfl) ?_
               refine nl ?_
               refine nN ?_
               have hs11 : SH w w8 [] [] := hs10.pick [] rfl (by decide)
               refine rt (bR (bR (tR (tR (bR (tR ?_))))))
               refine fret (v := I (3 + ((0 : Int) + 1))) (.tmp .nil) rfl ?_
               have e7 : 3 + ((0 : Int) + 1) = sniffK b := by (have y1 := conn_t; have y2 := prox_t; have y6 := @starts_alike b; have y7 := @starts_alike2 b; have y8 := @starts_not b; have y9 := @starts_lt b; (try simp only [List.getD_cons_zero, List.getD_cons_succ, Int.zero_add, Nat.zero_add] at *); grind [sniffK, kindW])
               exact ⟨(congrArg (Value.int .i64) e7), hs11⟩
             · refine sq ?_
               refine rg ?_
               refine q trivial rfl rfl (mv (v := .slice ((([(⟨A1, c1, textI [67, 79, 78, 78, 69, 67, 84, 32]⟩ : Hd), (⟨A2, c2, textI [80, 82, 79, 88, 89, 32]⟩ : Hd), (⟨A3, c3, headP⟩ : Hd)] : List Hd).getD (0 + 1) hd0).A) ((([textI [67, 79, 78, 78, 69, 67, 84, 32], textI [80, 82, 79, 88, 89, 32], headP] : List (List Int)).getD (0 + 1) []).length) ((([(⟨A1, c1, textI [67, 79, 78, 78, 69, 67, 84, 32]⟩ : Hd), (⟨A2, c2, textI [80, 82, 79, 88, 89, 32]⟩ : Hd), (⟨A3, c3, headP⟩ : Hd)] : List Hd).getD (0 + 1) hd0).c)) rfl) ?_
               refine q trivial rfl rfl (mv (v := .slice Ab b.length cb) rfl) ?_
               refine cl trivial rfl (iBegins (Ab := (([(⟨A1, c1, textI [67, 79, 78, 78, 69, 67, 84, 32]⟩ : Hd), (⟨A2, c2, textI [80, 82, 79, 88, 89, 32]⟩ : Hd), (⟨A3, c3, headP⟩ : Hd)] : List Hd).getD (0 + 1) hd0).A) (cb := (([(⟨A1, c1, textI [67, 79, 78, 78, 69, 67, 84, 32]⟩ : Hd), (⟨A2, c2, textI [80, 82, 79, 88, 89, 32]⟩ : Hd), (⟨A3, c3, headP⟩ : Hd)] : List Hd).getD (0 + 1) hd0).c) (b := ([textI [67, 79, 78, 78, 69, 67, 84, 32], textI [80, 82, 79, 88, 89, 32], headP] : List (List Int)).getD (0 + 1) []) (Af := Ab) (cf := cb) (f := b) (w := _) (hb := (hd_at2 (L := ([textI [67, 79, 78, 78, 69, 67, 84, 32], textI [80, 82, 79, 88, 89, 32], headP] : List (List Int))) rfl (fa_cons (hs10.sl0 0 rfl) (fa_cons (hs10.sl0 1 rfl) (fa_cons (hs10.sl0 2 rfl) fa_nil))) (by first | omega | (simp; done) | (simp; omega)))) (hf := (hb.up0 hs10))) ?_
               rintro _ w9 ⟨rfl, hs12'⟩
               have hs12 : SH w w9 [] [.own A1 ((textI [67, 79, 78, 78, 69, 67, 84, 32]).length) c1 3 1 ((textI [67, 79, 78, 78, 69, 67, 84, 32]).map I), .own A2 ((textI [80, 82, 79, 88, 89, 32]).length) c2 3 1 ((textI [80, 82, 79, 88, 89, 32]).map I), .own A3 headP.length c3 3 1 (headP.map I), .own (some ⟨b1, 0, none⟩) (([(⟨A1, c1, textI [67, 79, 78, 78, 69, 67, 84, 32]⟩ : Hd), (⟨A2, c2, textI [80, 82, 79, 88, 89, 32]⟩ : Hd), (⟨A3, c3, headP⟩ : Hd)] : List Hd).length) 3 24 1 (([(⟨A1, c1, textI [67, 79, 78, 78, 69, 67, 84, 32]⟩ : Hd), (⟨A2, c2, textI [80, 82, 79, 88, 89, 32]⟩ : Hd), (⟨A3, c3, headP⟩ : Hd)] : List Hd).map hv)] := hs10.call0 hs12'
               clear hs12'
               refine q trivial rfl rfl (asg (v := .bool (startsB (([textI [67, 79, 78, 78, 69, 67, 84, 32], textI [80, 82, 79, 88, 89, 32], headP] : List (List Int)).getD (0 + 1) []) b)) rfl) ?_
               refine nl ?_
               refine nN ?_
               refine cd (b := startsB (([textI [67, 79, 78, 78, 69, 67, 84, 32], textI [80, 82, 79, 88, 89, 32], headP] : List (List Int)).getD (0 + 1) []) b) rfl (fun h12 => ?_) (fun h12 => ?_)
               · refine sq ?_
                 refine rg ?_
                 refine q trivial rfl rfl (asg (v := I 0) rfl) ?_
                 refine nl ?_
                 refine nN ?_
                 have hs13 : SH w w9 [] [] := hs12.pick [] rfl (by decide)
                 refine rt (bR (bR (tR (tR (bR (tR ?_))))))
                 refine fret (v := I 0) (.tmp .nil) rfl ?_
                 have e8 : 0 = sniffK b := by (have y1 := conn_t; have y2 := prox_t; have y6 := @starts_alike b; have y7 := @starts_alike2 b; have y8 := @starts_not b; have y9 := @starts_lt b; (try simp only [List.getD_cons_zero, List.getD_cons_succ, Int.zero_add, Nat.zero_add] at *); grind [sniffK, kindW])
                 exact ⟨(congrArg (Value.int .i64) e8), hs13⟩
               · refine sk ?_
                 refine bN ?_
                 refine bN ?_
                 refine nN ?_
                 refine rg ?_
                 refine q trivial rfl rfl (add (a := (0 : Int) + 1) (b := 1) rfl rfl (by exact ⟨by omega, by omega⟩)) ?_
                 refine q trivial rfl rfl (mv (v := I (((0 : Int) + 1) + 1)) rfl) ?_
                 refine nl ?_
                 refine nN ?_
                 refine ulS ?_
                 refine sq ?_
                 refine rg ?_
                 refine q trivial rfl rfl (lss (k := .i64) (a := ((0 : Int) + 1) + 1) (b := ((([(⟨A1, c1, textI [67, 79, 78, 78, 69, 67, 84, 32]⟩ : Hd), (⟨A2, c2, textI [80, 82, 79, 88, 89, 32]⟩ : Hd), (⟨A3, c3, headP⟩ : Hd)] : List Hd).length : Nat) : Int)) rfl rfl) ?_
                 refine nl ?_
                 refine nN ?_
                 refine sq ?_
                 refine cdd (p := (((0 : Int) + 1) + 1) < ((([(⟨A1, c1, textI [67, 79, 78, 78, 69, 67, 84, 32]⟩ : Hd), (⟨A2, c2, textI [80, 82, 79, 88, 89, 32]⟩ : Hd), (⟨A3, c3, headP⟩ : Hd)] : List Hd).length : Nat) : Int)) rfl (fun h13 => ?_) (fun h13 => absurd (by (simp; done)) h13)
                 refine sk ?_
                 refine nN ?_
                 refine sq ?_
                 refine bl ?_
                 refine sq ?_
                 refine rg ?_
                 refine q trivial rfl rfl (mv (v := I (((0 : Int) + 1) + 1)) rfl) ?_
                 refine q trivial rfl rfl (ixo ((0 + 1) + 1) sl22 rfl rfl (by first | omega | (simp; done) | (simp; omega))) ?_
                 refine q trivial rfl rfl (ldoHd (L := ([textI [67, 79, 78, 78, 69, 67, 84, 32], textI [80, 82, 79, 88, 89, 32], headP] : List (List Int))) (ys := ([(⟨A1, c1, textI [67, 79, 78, 78, 69, 67, 84, 32]⟩ : Hd), (⟨A2, c2, textI [80, 82, 79, 88, 89, 32]⟩ : Hd), (⟨A3, c3, headP⟩ : Hd)] : List Hd)) (o := (0 + 1) + 1) rfl hs12 3 rfl rfl (by first | omega | (simp; done) | (simp; omega)) one24) ?_
                 refine q trivial rfl rfl (asg (v := I (((0 : Int) + 1) + 1)) rfl) ?_
                 refine q trivial rfl rfl (asg (v := .slice ((([(⟨A1, c1, textI [67, 79, 78, 78, 69, 67, 84, 32]⟩ : Hd), (⟨A2, c2, textI [80, 82, 79, 88, 89, 32]⟩ : Hd), (⟨A3, c3, headP⟩ : Hd)] : List Hd).getD ((0 + 1) + 1) hd0).A) ((([textI [67, 79, 78, 78, 69, 67, 84, 32], textI [80, 82, 79, 88, 89, 32], headP] : List (List Int)).getD ((0 + 1) + 1) []).length) ((([(⟨A1, c1, textI [67, 79, 78, 78, 69, 67, 84, 32]⟩ : Hd), (⟨A2, c2, textI [80, 82, 79, 88, 89, 32]⟩ : Hd), (⟨A3, c3, headP⟩ : Hd)] : List Hd).getD ((0 + 1) + 1) hd0).c)) rfl) ?_
                 refine nl ?_
                 refine nN ?_
                 refine bl ?_
                 refine sq ?_
                 refine rg ?_
                 refine q trivial rfl rfl (mv (v := .slice Ab b.length cb) rfl) ?_
                 refine q trivial rfl rfl (mv (v := .slice ((([(⟨A1, c1, textI [67, 79, 78, 78, 69, 67, 84, 32]⟩ : Hd), (⟨A2, c2, textI [80, 82, 79, 88, 89, 32]⟩ : Hd), (⟨A3, c3, headP⟩ : Hd)] : List Hd).getD ((0 + 1) + 1) hd0).A) ((([textI [67, 79, 78, 78, 69, 67, 84, 32], textI [80, 82, 79, 88, 89, 32], headP] : List (List Int)).getD ((0 + 1) + 1) []).length) ((([(⟨A1, c1, textI [67, 79, 78, 78, 69, 67, 84, 32]⟩ : Hd), (⟨A2, c2, textI [80, 82, 79, 88, 89, 32]⟩ : Hd), (⟨A3, c3, headP⟩ : Hd)] : List Hd).getD ((0 + 1) + 1) hd0).c)) rfl) ?_
                 refine cl trivial rfl (iBegins (Ab := Ab) (cb := cb) (b := b) (Af := (([(⟨A1, c1, textI [67, 79, 78, 78, 69, 67, 84, 32]⟩ : Hd), (⟨A2, c2, textI [80, 82, 79, 88, 89, 32]⟩ : Hd), (⟨A3, c3, headP⟩ : Hd)] : List Hd).getD ((0 + 1) + 1) hd0).A) (cf := (([(⟨A1, c1, textI [67, 79, 78, 78, 69, 67, 84, 32]⟩ : Hd), (⟨A2, c2, textI [80, 82, 79, 88, 89, 32]⟩ : Hd), (⟨A3, c3, headP⟩ : Hd)] : List Hd).getD ((0 + 1) + 1) hd0).c) (f := ([textI [67, 79, 78, 78, 69, 67, 84, 32], textI [80, 82, 79, 88, 89, 32], headP] : List (List Int)).getD ((0 + 1) + 1) []) (w := _) (hb := (hb.up0 hs12)) (hf := (hd_at2 (L := ([textI [67, 79, 78, 78, 69, 67, 84, 32], textI [80, 82, 79, 88, 89, 32], headP] : List (List Int))) rfl (fa_cons (hs12.sl0 0 rfl) (fa_cons (hs12.sl0 1 rfl) (fa_cons (hs12.sl0 2 rfl) fa_nil))) (by first | omega | (simp; done) | (simp; omega))))) ?_
                 rintro _ w10 ⟨rfl, hs14'⟩
                 have hs14 : SH w w10 [] [.own A1 ((textI [67, 79, 78, 78, 69, 67, 84, 32]).length) c1 3 1 ((textI [67, 79, 78, 78, 69, 67, 84, 32]).map I), .own A2 ((textI [80, 82, 79, 88, 89, 32]).length) c2 3 1 ((textI [80, 82, 79, 88, 89, 32]).map I), .own A3 headP.length c3 3 1 (headP.map I), .own (some ⟨b1, 0, none⟩) (([(⟨A1, c1, textI [67, 79, 78, 78, 69, 67, 84, 32]⟩ : Hd), (⟨A2, c2, textI [80, 82, 79, 88, 89, 32]⟩ : Hd), (⟨A3, c3, headP⟩ : Hd)] : List Hd).length) 3 24 1 (([(⟨A1, c1, textI [67, 79, 78, 78, 69, 67, 84, 32]⟩ : Hd), (⟨A2, c2, textI [80, 82, 79, 88, 89, 32]⟩ : Hd), (⟨A3, c3, headP⟩ : Hd)] : List Hd).map hv)] := hs12.call0 hs14'
                 clear hs14'
                 refine q trivial rfl rfl (asg (v := .bool (startsB b (([textI [67, 79, 78, 78, 69, 67, 84, 32], textI [80, 82, 79, 88, 89, 32], headP] : List (List Int)).getD ((0 + 1) + 1) []))) rfl) ?_
                 refine nl ?_
                 refine nN ?_
                 refine cd (b := startsB b (([textI [67, 79, 78, 78, 69, 67, 84, 32], textI [80, 82, 79, 88, 89, 32], headP] : List (List Int)).getD ((0 + 1) + 1) [])) rfl (fun h14 => ?_) (fun h14 => ?_)
                 · refine sq ?_
                   refine rg ?_
                   refine q trivial rfl rfl (mv (v := I (((0 : Int) + 1) + 1)) rfl) ?_
                   refine q trivial rfl rfl (add (a := 3) (b := ((0 : Int) + 1) + 1) rfl rfl (by exact ⟨by omega, by omega⟩)) ?_
                   refine q trivial rfl rfl (asg (v := I (3 + (((0 : Int) + 1) + 1))) rfl) ?_
                   refine nl ?_
                   refine nN ?_
                   have hs15 : SH w w10 [] [] := hs14.pick [] rfl (by decide)
                   refine rt (bR (bR (tR (tR (bR (tR ?_))))))
                   refine fret (v := I (3 + (((0 : Int) + 1) + 1))) (.tmp .nil) rfl ?_
                   have e9 : 3 + (((0 : Int) + 1) + 1) = sniffK b := by (have y1 := conn_t; have y2 := prox_t; have y6 := @starts_alike b; have y7 := @starts_alike2 b; have y8 := @starts_not b; have y9 := @starts_lt b; (try simp only [List.getD_cons_zero, List.getD_cons_succ, Int.zero_add, Nat.zero_add] at *); grind [sniffK, kindW])
                   exact ⟨(congrArg (Value.int .i64) e9), hs15⟩
                 · refine sq ?_
                   refine rg ?_
                   refine q trivial rfl rfl (mv (v := .slice ((([(⟨A1, c1, textI [67, 79, 78, 78, 69, 67, 84, 32]⟩ : Hd), (⟨A2, c2, textI [80, 82, 79, 88, 89, 32]⟩ : Hd), (⟨A3, c3, headP⟩ : Hd)] : List Hd).getD ((0 + 1) + 1) hd0).A) ((([textI [67, 79, 78, 78, 69, 67, 84, 32], textI [80, 82, 79, 88, 89, 32], headP] : List (List Int)).getD ((0 + 1) + 1) []).length) ((([(⟨A1, c1, textI [67, 79, 78, 78, 69, 67, 84, 32]⟩ : Hd), (⟨A2, c2, textI [80, 82, 79, 88, 89, 32]⟩ : Hd), (⟨A3, c3, headP⟩ : Hd)] : List Hd).getD ((0 + 1) + 1) hd0).c)) rfl) ?_
                   refine q trivial rfl rfl (mv (v := .slice Ab b.length cb) rfl) ?_
                   refine cl trivial rfl (iBegins (Ab := (([(⟨A1, c1, textI [67, 79, 78, 78, 69, 67, 84, 32]⟩ : Hd), (⟨A2, c2, textI [80, 82, 79, 88, 89, 32]⟩ : Hd), (⟨A3, c3, headP⟩ : Hd)] : List Hd).getD ((0 + 1) + 1) hd0).A) (cb := (([(⟨A1, c1, textI [67, 79, 78, 78, 69, 67, 84, 32]⟩ : Hd), (⟨A2, c2, textI [80, 82, 79, 88, 89, 32]⟩ : Hd), (⟨A3, c3, headP⟩ : Hd)] : List Hd).getD ((0 + 1) + 1) hd0).c) (b := ([textI [67, 79, 78, 78, 69, 67, 84, 32], textI [80, 82, 79, 88, 89, 32], headP] : List (List Int)).getD ((0 + 1) + 1) []) (Af := Ab) (cf := cb) (f := b) (w := _) (hb := (hd_at2 (L := ([textI [67, 79, 78, 78, 69, 67, 84, 32], textI [80, 82, 79, 88, 89, 32], headP] : List (List Int))) rfl (fa_cons (hs14.sl0 0 rfl) (fa_cons (hs14.sl0 1 rfl) (fa_cons (hs14.sl0 2 rfl) fa_nil))) (by first | omega | (simp; done) | (simp; omega)))) (hf := (hb.up0 hs14))) ?_
                   rintro _ w11 ⟨rfl, hs16'⟩
                   have hs16 : SH w w11 [] [.own A1 ((textI [67, 79, 78, 78, 69, 67, 84, 32]).length) c1 3 1 ((textI [67, 79, 78, 78, 69, 67, 84, 32]).map I), .own A2 ((textI [80, 82, 79, 88, 89, 32]).length) c2 3 1 ((textI [80, 82, 79, 88, 89, 32]).map I), .own A3 headP.length c3 3 1 (headP.map I), .own (some ⟨b1, 0, none⟩) (([(⟨A1, c1, textI [67, 79, 78, 78, 69, 67, 84, 32]⟩ : Hd), (⟨A2, c2, textI [80, 82, 79, 88, 89, 32]⟩ : Hd), (⟨A3, c3, headP⟩ : Hd)] : List Hd).length) 3 24 1 (([(⟨A1, c1, textI [67, 79, 78, 78, 69, 67, 84, 32]⟩ : Hd), (⟨A2, c2, textI [80, 82, 79, 88, 89, 32]⟩ : Hd), (⟨A3, c3, headP⟩ : Hd)] : List Hd).map hv)] := hs14.call0 hs16'
                   clear hs16'
                   refine q trivial rfl rfl (asg (v := .bool (startsB (([textI [67, 79, 78, 78, 69, 67, 84, 32], textI [80, 82, 79, 88, 89, 32], headP] : List (List Int)).getD ((0 + 1) + 1) []) b)) rfl) ?_
                   refine nl ?_
                   refine nN ?_
                   refine cd (b := startsB (([textI [67, 79, 78, 78, 69, 67, 84, 32], textI [80, 82, 79, 88, 89, 32], headP] : List (List Int)).getD ((0 + 1) + 1) []) b) rfl (fun h15 => ?_) (fun h15 => ?_)
                   · refine sq ?_
                     refine rg ?_
                     refine q trivial rfl rfl (asg (v := I 0) rfl) ?_
                     refine nl ?_
                     refine nN ?_
                     have hs17 : SH w w11 [] [] := hs16.pick [] rfl (by decide)
                     refine rt (bR (bR (tR (tR (bR (tR ?_))))))
                     refine fret (v := I 0) (.tmp .nil) rfl ?_
                     have e10 : 0 = sniffK b := by (have y1 := conn_t; have y2 := prox_t; have y6 := @starts_alike b; have y7 := @starts_alike2 b; have y8 := @starts_not b; have y9 := @starts_lt b; (try simp only [List.getD_cons_zero, List.getD_cons_succ, Int.zero_add, Nat.zero_add] at *); grind [sniffK, kindW])
                     exact ⟨(congrArg (Value.int .i64) e10), hs17⟩
                   · refine sk ?_
                     refine bN ?_
                     refine bN ?_
                     refine nN ?_
                     refine rg ?_
                     refine q trivial rfl rfl (add (a := ((0 : Int) + 1) + 1) (b := 1) rfl rfl (by exact ⟨by omega, by omega⟩)) ?_
                     refine q trivial rfl rfl (mv (v := I ((((0 : Int) + 1) + 1) + 1)) rfl) ?_
                     refine nl ?_
                     refine nN ?_
                     refine ulS ?_
                     refine sq ?_
                     refine rg ?_
                     refine q trivial rfl rfl (lss (k := .i64) (a := (((0 : Int) + 1) + 1) + 1) (b := ((([(⟨A1, c1, textI [67, 79, 78, 78, 69, 67, 84, 32]⟩ : Hd), (⟨A2, c2, textI [80, 82, 79, 88, 89, 32]⟩ : Hd), (⟨A3, c3, headP⟩ : Hd)] : List Hd).length : Nat) : Int)) rfl rfl) ?_
                     refine nl ?_
                     refine nN ?_
                     refine sq ?_
                     refine cdd (p := ((((0 : Int) + 1) + 1) + 1) < ((([(⟨A1, c1, textI [67, 79, 78, 78, 69, 67, 84, 32]⟩ : Hd), (⟨A2, c2, textI [80, 82, 79, 88, 89, 32]⟩ : Hd), (⟨A3, c3, headP⟩ : Hd)] : List Hd).length : Nat) : Int)) rfl (fun h16 => absurd h16 (by (simp; done))) (fun h16 => ?_)
                     refine ex (tE (tE (bE ?_)))
                     refine nN ?_
                     have hs18 : SH w w11 [] [] := hs16.pick [] rfl (by decide)
                     refine sq ?_
                     refine rg ?_
                     refine q trivial rfl rfl (asg (v := I 6) rfl) ?_
                     refine nl ?_
                     refine nN ?_
                     refine rt ?_
                     refine fret (v := I 6) (.tmp .nil) rfl ?_
                     have e11 : 6 = sniffK b := by (have y1 := conn_t; have y2 := prox_t; have y6 := @starts_alike b; have y7 := @starts_alike2 b; have y8 := @starts_not b; have y9 := @starts_lt b; (try simp only [List.getD_cons_zero, List.getD_cons_succ, Int.zero_add, Nat.zero_add] at *); grind [sniffK, kindW])
                     exact ⟨(congrArg (Value.int .i64) e11), hs18⟩

theorem iCountKinds {Ahs : Option Addr} {chs : Nat} (hs : List Hd) (w : World) (hhs : Sl w [] 1 Ahs hs.length chs (hs.map hv)) (hhs_in : ∀ u ∈ hs, HdOk w [] u) : Does Try.prog 9 [.slice Ahs hs.length chs] w (fun v w' => ∃ Ar : Option Addr, ∃ cr : Nat, v = .slice Ar (kindsC (hdX hs)).length cr ∧ SH w w' [] [.own Ar ((kindsC (hdX hs)).length) cr 3 1 ((kindsC (hdX hs)).map I)]) := by
 refine fn_enter (N := 22) Try.func9 rfl (by kernel_rfl) rfl rfl rfl ?_
 have hs0 : SH w w [] [] := SH.refl w []
 have hhs_m : hs.length ≤ 9223372036854775807 := Nat.le_trans hhs.cap hhs.capMax
 refine sq ?_
 refine rg ?_
 refine q trivial rfl rfl (asg (v := ns) rfl) ?_
 refine nl ?_
 refine nN ?_
 refine sq ?_
 refine rg ?_
 refine mkm (g := I) (z := 0) (n := 7) hs0 sl24 rfl rfl rfl (by first | (omega) | (have hsb := sniffK_bd (hs.getD k hd0).xs; have hkl := kindsC_len (hdX (hs.take k)); have hkb := kindsC_bd (hdX (hs.take k)) (sniffK (hs.getD k hd0).xs).toNat; rw [List.length_map, List.length_take] at hkb; omega)) (by unfold maxLen; first | (omega) | (have hsb := sniffK_bd (hs.getD k hd0).xs; have hkl := kindsC_len (hdX (hs.take k)); have hkb := kindsC_bd (hdX (hs.take k)) (sniffK (hs.getD k hd0).xs).toNat; rw [List.length_map, List.length_take] at hkb; omega)) trivial rfl (fun b1 w1 (hs1 : SH w w1 [] [oI b1 (List.replicate 7 (0 : Int)) 7 3]) => ?_)
 refine q trivial rfl rfl (asg (v := sb b1 ((List.replicate 7 (0 : Int)).length) 7) rfl) ?_
 refine nl ?_
 refine nN ?_
 refine sq ?_
 refine sq ?_
 refine rg ?_
 refine q trivial rfl rfl (mv (v := .slice Ahs hs.length chs) rfl) ?_
 refine q trivial rfl rfl (lnA (n := hs.length) sl22 rfl) ?_
 refine q trivial rfl rfl (mv (v := I 0) rfl) ?_
 refine nl ?_
 refine nN ?_
 refine bl ?_
 have e1 : List.replicate 7 (0 : Int) = kindsC (hdX (hs.take 0)) := by rfl
 have e2 : (List.replicate 7 (0 : Int)).length = 7 := by first | (first | rfl | (simp; done) | (simp; omega) | omega) | (have hsb := sniffK_bd (hs.getD k hd0).xs; have hkl := kindsC_len (hdX (hs.take k)); have hkb := kindsC_bd (hdX (hs.take k)) (sniffK (hs.getD k hd0).xs).toNat; rw [List.length_map, List.length_take] at hkb; first | rfl | (simp; done) | (simp; omega) | omega)
 refine lp (σ := (Option Addr) × Nat × Nat) (fun ⟨Ag3, cg3, k⟩ f w' => Has f [(3, .slice Ag3 7 cg3), (7, .slice Ahs hs.length chs), (8, I ((hs.length : Nat) : Int)), (9, I ((k : Nat) : Int))] ∧ (k ≤ hs.length) ∧ SH w w' [] [.own Ag3 7 cg3 3 1 ((kindsC (hdX (hs.take k))).map I)]) (fun ⟨Ag3, cg3, k⟩ => hs.length - k) ((some ⟨b1, 0, none⟩), 7, 0) ⟨⟨(show (.slice (some ⟨b1, 0, none⟩) ((List.replicate 7 (0 : Int)).length) 7 : Value) = .slice (some ⟨b1, 0, none⟩) 7 7 from slv rfl e2 rfl), rfl, rfl, rfl, trivial⟩, (by simp), (hs1.cast (lc (own_eq (g := I) rfl e2 rfl e1) rfl))⟩ ?_
 rintro ⟨Ag3, cg3, k⟩ f w2 ⟨hf, hk, hs2⟩
 obtain ⟨g1, rfl⟩ := has_upd hf
 clear hf
 refine sq ?_
 refine rg ?_
 refine q trivial rfl rfl (lss (k := .i64) (a := ((k : Nat) : Int)) (b := ((hs.length : Nat) : Int)) rfl rfl) ?_
 refine nl ?_
 refine nN ?_
 refine sq ?_
 refine cdd (p := ((k : Nat) : Int) < ((hs.length : Nat) : Int)) rfl (fun h1 => ?_) (fun h1 => ?_)
 · refine sk ?_
   refine nN ?_
   refine sq ?_
   refine bl ?_
   refine sq ?_
   refine rg ?_
   refine ixw1 k sl22 rfl rfl hhs (by have hsb := sniffK_bd (hs.getD k hd0).xs; have hkl := kindsC_len (hdX (hs.take k)); have hkb := kindsC_bd (hdX (hs.take k)) (sniffK (hs.getD k hd0).xs).toNat; rw [List.length_map, List.length_take] at hkb; first | omega | (simp; done) | (simp; omega)) (getm hv hd0 (by have hsb := sniffK_bd (hs.getD k hd0).xs; have hkl := kindsC_len (hdX (hs.take k)); have hkb := kindsC_bd (hdX (hs.take k)) (sniffK (hs.getD k hd0).xs).toNat; rw [List.length_map, List.length_take] at hkb; first | omega | (simp; done) | (simp; omega))) trivial rfl (fun a1 ha1 => ?_)
   refine q trivial rfl rfl (lda (v := .slice ((hs.getD k hd0).A) (((hs.getD k hd0).xs).length) ((hs.getD k hd0).c)) hs2 ha1 (fun _ h => h) rfl rfl one24) ?_
   refine q trivial rfl rfl (asg (v := .slice ((hs.getD k hd0).A) (((hs.getD k hd0).xs).length) ((hs.getD k hd0).c)) rfl) ?_
   refine nl ?_
   refine nN ?_
   refine rg ?_
   refine q trivial rfl rfl (mv (v := .slice Ag3 7 cg3) rfl) ?_
   refine q trivial rfl rfl (mv (v := .slice ((hs.getD k hd0).A) (((hs.getD k hd0).xs).length) ((hs.getD k hd0).c)) rfl) ?_
   refine cl trivial rfl (iSniffKind (Ab := (hs.getD k hd0).A) (cb := (hs.getD k hd0).c) (b := (hs.getD k hd0).xs) (w := _) (hb := (Sl.up0 (hhs_in _ (getD_mem' (by have hsb := sniffK_bd (hs.getD k hd0).xs; have hkl := kindsC_len (hdX (hs.take k)); have hkb := kindsC_bd (hdX (hs.take k)) (sniffK (hs.getD k hd0).xs).toNat; rw [List.length_map, List.length_take] at hkb; first | omega | (simp; done) | (simp; omega)))) hs2))) ?_
   rintro _ w3 ⟨rfl, hs3'⟩
   have hs3 : SH w w3 [] [.own Ag3 7 cg3 3 1 ((kindsC (hdX (hs.take k))).map I)] := hs2.call0 hs3'
   clear hs3'
   refine ixw1 ((sniffK ((hs.getD k hd0).xs)).toNat) sl24 rfl (ieq (x := sniffK ((hs.getD k hd0).xs)) (by first | (omega) | (have hsb := sniffK_bd (hs.getD k hd0).xs; have hkl := kindsC_len (hdX (hs.take k)); have hkb := kindsC_bd (hdX (hs.take k)) (sniffK (hs.getD k hd0).xs).toNat; rw [List.length_map, List.length_take] at hkb; omega))) (hs3.sl0 0 rfl) (by have hsb := sniffK_bd (hs.getD k hd0).xs; have hkl := kindsC_len (hdX (hs.take k)); have hkb := kindsC_bd (hdX (hs.take k)) (sniffK (hs.getD k hd0).xs).toNat; rw [List.length_map, List.length_take] at hkb; first | omega | (simp; done) | (simp; omega)) (getm I 0 (by have hsb := sniffK_bd (hs.getD k hd0).xs; have hkl := kindsC_len (hdX (hs.take k)); have hkb := kindsC_bd (hdX (hs.take k)) (sniffK (hs.getD k hd0).xs).toNat; rw [List.length_map, List.length_take] at hkb; first | omega | (simp; done) | (simp; omega))) trivial rfl (fun a2 ha2 => ?_)
   refine q trivial rfl rfl (lda (v := I ((kindsC (hdX (hs.take k))).getD ((sniffK ((hs.getD k hd0).xs)).toNat) 0)) (SH.refl w3 []) ha2 (fun _ h => h) rfl rfl one3) ?_
   refine q trivial rfl rfl (add (a := (kindsC (hdX (hs.take k))).getD ((sniffK ((hs.getD k hd0).xs)).toNat) 0) (b := 1) rfl rfl (by have hsb := sniffK_bd (hs.getD k hd0).xs; have hkl := kindsC_len (hdX (hs.take k)); have hkb := kindsC_bd (hdX (hs.take k)) (sniffK (hs.getD k hd0).xs).toNat; rw [List.length_map, List.length_take] at hkb; exact ⟨by omega, by omega⟩)) ?_
   obtain ⟨b2, rfl⟩ := own_form hs3 0 rfl (by have hsb := sniffK_bd (hs.getD k hd0).xs; have hkl := kindsC_len (hdX (hs.take k)); have hkb := kindsC_bd (hdX (hs.take k)) (sniffK (hs.getD k hd0).xs).toNat; rw [List.length_map, List.length_take] at hkb; first | omega | (simp; done) | (simp; omega))
   refine q trivial rfl rfl (ixo ((sniffK ((hs.getD k hd0).xs)).toNat) sl24 rfl (ieq (x := sniffK ((hs.getD k hd0).xs)) (by first | (omega) | (have hsb := sniffK_bd (hs.getD k hd0).xs; have hkl := kindsC_len (hdX (hs.take k)); have hkb := kindsC_bd (hdX (hs.take k)) (sniffK (hs.getD k hd0).xs).toNat; rw [List.length_map, List.length_take] at hkb; omega))) (by have hsb := sniffK_bd (hs.getD k hd0).xs; have hkl := kindsC_len (hdX (hs.take k)); have hkb := kindsC_bd (hdX (hs.take k)) (sniffK (hs.getD k hd0).xs).toNat; rw [List.length_map, List.length_take] at hkb; first | omega | (simp; done) | (simp; omega))) ?_
   refine stomn (g := I) (ys := kindsC (hdX (hs.take k))) (o := (sniffK ((hs.getD k hd0).xs)).toNat) (u := ((kindsC (hdX (hs.take k))).getD ((sniffK ((hs.getD k hd0).xs)).toNat) 0) + 1) hs3 0 rfl rfl rfl rfl (by first | (first | omega | (simp; done) | (simp; omega)) | (have hsb := sniffK_bd (hs.getD k hd0).xs; have hkl := kindsC_len (hdX (hs.take k)); have hkb := kindsC_bd (hdX (hs.take k)) (sniffK (hs.getD k hd0).xs).toNat; rw [List.length_map, List.length_take] at hkb; first | omega | (simp; done) | (simp; omega))) rfl one3 trivial (fun w4 (hs4 : SH w w4 [] [.own (some ⟨b2, 0, none⟩) 7 cg3 3 1 (((kindsC (hdX (hs.take k))).set ((sniffK ((hs.getD k hd0).xs)).toNat) (((kindsC (hdX (hs.take k))).getD ((sniffK ((hs.getD k hd0).xs)).toNat) 0) + 1)).map I)]) => ?_)
   refine nl ?_
   refine bN ?_
   refine nN ?_
   refine rg ?_
   refine q trivial rfl rfl (add (a := ((k : Nat) : Int)) (b := 1) rfl rfl (by have hsb := sniffK_bd (hs.getD k hd0).xs; have hkl := kindsC_len (hdX (hs.take k)); have hkb := kindsC_bd (hdX (hs.take k)) (sniffK (hs.getD k hd0).xs).toNat; rw [List.length_map, List.length_take] at hkb; exact ⟨by omega, by omega⟩)) ?_
   refine q trivial rfl rfl (mv (v := I (((k : Nat) : Int) + 1)) rfl) ?_
   refine nl ?_
   refine nN ?_
   have e3 : (kindsC (hdX (hs.take k))).set ((sniffK ((hs.getD k hd0).xs)).toNat) (((kindsC (hdX (hs.take k))).getD ((sniffK ((hs.getD k hd0).xs)).toNat) 0) + 1) = kindsC (hdX (hs.take (k + 1))) := by exact (kinds_take (by omega)).symm
   refine ⟨((some ⟨b2, 0, none⟩), cg3, k + 1), ⟨⟨rfl, rfl, rfl, rfl, trivial⟩, (by omega), (hs4.cast (lc (own_eq (g := I) rfl rfl rfl e3) rfl))⟩, ?_⟩
   show hs.length - (k + 1) < hs.length - k
   omega
 · refine ex (tE (tE (bE ?_)))
   refine nN ?_
   refine sq ?_
   refine rg ?_
   refine q trivial rfl rfl (mv (v := .slice Ag3 7 cg3) rfl) ?_
   refine q trivial rfl rfl (asg (v := .slice Ag3 7 cg3) rfl) ?_
   refine nl ?_
   refine nN ?_
   refine rt ?_
   refine fret (v := .slice Ag3 7 cg3) (.tmp .nil) rfl ?_
   have e4 : kindsC (hdX (hs.take k)) = kindsC (hdX hs) := by (rw [List.take_of_length_le (by omega)])
   have e5 : 7 = (kindsC (hdX hs)).length := by exact (show 7 = (kindsC (hdX (hs.take k))).length by (simp only [kindsC_len])).trans (congrArg List.length e4)
   exact ⟨Ag3, cg3, (slv rfl e5 rfl), (hs2.cast (lc (own_eq (g := I) rfl e5 rfl e4) rfl))⟩

theorem sCountKinds {Ahs : Option Addr} {chs : Nat} (hs : List Hd) (w : World) (hhs : Sl w [] 1 Ahs hs.length chs (hs.map hv)) (hhs_in : ∀ u ∈ hs, HdOk w [] u) : Does Try.prog 7 [.slice Ahs hs.length chs] w (fun v w' => ∃ Ar : Option Addr, ∃ cr : Nat, v = .slice Ar (kindsC (hdX hs)).length cr ∧ SH w w' [] [.own Ar ((kindsC (hdX hs)).length) cr 3 1 ((kindsC (hdX hs)).map I)]) := by
 refine fn_enter (N := 27) Try.func7 rfl (by kernel_rfl) rfl rfl rfl ?_
 have hs0 : SH w w [] [] := SH.refl w []
 have hhs_m : hs.length ≤ 9223372036854775807 := Nat.le_trans hhs.cap hhs.capMax
 refine sq ?_
 refine rg ?_
 refine q trivial rfl rfl (asg (v := ns) rfl) ?_
 refine nl ?_
 refine nN ?_
 refine sq ?_
 refine rg ?_
 refine mkm (g := I) (z := 0) (n := 7) hs0 sl24 rfl rfl rfl (by first | (omega) | (have hsb := sniffK_bd (hs.getD k hd0).xs; have hkl := kindsC_len (hdX (hs.take k)); have hkb := kindsC_bd (hdX (hs.take k)) (sniffK (hs.getD k hd0).xs).toNat; rw [List.length_map, List.length_take] at hkb; omega)) (by unfold maxLen; first | (omega) | (have hsb := sniffK_bd (hs.getD k hd0).xs; have hkl := kindsC_len (hdX (hs.take k)); have hkb := kindsC_bd (hdX (hs.take k)) (sniffK (hs.getD k hd0).xs).toNat; rw [List.length_map, List.length_take] at hkb; omega)) trivial rfl (fun b1 w1 (hs1 : SH w w1 [] [oI b1 (List.replicate 7 (0 : Int)) 7 3]) => ?_)
 refine q trivial rfl rfl (asg (v := sb b1 ((List.replicate 7 (0 : Int)).length) 7) rfl) ?_
 refine nl ?_
 refine nN ?_
 refine sq ?_
 refine sq ?_
 refine rg ?_
 refine q trivial rfl rfl (asg (v := I 0) rfl) ?_
 refine nl ?_
 refine nN ?_
 refine bl ?_
 have e1 : List.replicate 7 (0 : Int) = kindsC (hdX (hs.take 0)) := by rfl
 have e2 : (List.replicate 7 (0 : Int)).length = 7 := by first | (first | rfl | (simp; done) | (simp; omega) | omega) | (have hsb := sniffK_bd (hs.getD k hd0).xs; have hkl := kindsC_len (hdX (hs.take k)); have hkb := kindsC_bd (hdX (hs.take k)) (sniffK (hs.getD k hd0).xs).toNat; rw [List.length_map, List.length_take] at hkb; first | rfl | (simp; done) | (simp; omega) | omega)
 refine lp (σ := (Option Addr) × Nat × Nat) (fun ⟨Ag3, cg3, k⟩ f w' => Has f [(0, .slice Ahs hs.length chs), (3, .slice Ag3 7 cg3), (4, I ((k : Nat) : Int))] ∧ (k ≤ hs.length) ∧ SH w w' [] [.own Ag3 7 cg3 3 1 ((kindsC (hdX (hs.take k))).map I)]) (fun ⟨Ag3, cg3, k⟩ => hs.length - k) ((some ⟨b1, 0, none⟩), 7, 0) ⟨⟨rfl, (show (.slice (some ⟨b1, 0, none⟩) ((List.replicate 7 (0 : Int)).length) 7 : Value) = .slice (some ⟨b1, 0, none⟩) 7 7 from slv rfl e2 rfl), rfl, trivial⟩, (by simp), (hs1.cast (lc (own_eq (g := I) rfl e2 rfl e1) rfl))⟩ ?_
 rintro ⟨Ag3, cg3, k⟩ f w2 ⟨hf, hk, hs2⟩
 obtain ⟨g1, rfl⟩ := has_upd hf
 clear hf
 refine sq ?_
 refine sq ?_
 refine rg ?_
 refine q trivial rfl rfl (mv (v := I ((k : Nat) : Int)) rfl) ?_
 refine q trivial rfl rfl (mv (v := .slice Ahs hs.length chs) rfl) ?_
 refine q trivial rfl rfl (lnA (n := hs.length) sl22 rfl) ?_
 refine q trivial rfl rfl (lss (k := .i64) (a := ((k : Nat) : Int)) (b := ((hs.length : Nat) : Int)) rfl rfl) ?_
 refine nl ?_
 refine nN ?_
 refine cdd (p := ((k : Nat) : Int) < ((hs.length : Nat) : Int)) rfl (fun h1 => ?_) (fun h1 => ?_)
 · refine sk ?_
   refine nN ?_
   refine sq ?_
   refine bl ?_
   refine sq ?_
   refine rg ?_
   refine q trivial rfl rfl (mv (v := .slice Ahs hs.length chs) rfl) ?_
   refine q trivial rfl rfl (mv (v := I ((k : Nat) : Int)) rfl) ?_
   refine ixw1 k sl22 rfl rfl hhs (by have hsb := sniffK_bd (hs.getD k hd0).xs; have hkl := kindsC_len (hdX (hs.take k)); have hkb := kindsC_bd (hdX (hs.take k)) (sniffK (hs.getD k hd0).xs).toNat; rw [List.length_map, List.length_take] at hkb; first | omega | (simp; done) | (simp; omega)) (getm hv hd0 (by have hsb := sniffK_bd (hs.getD k hd0).xs; have hkl := kindsC_len (hdX (hs.take k)); have hkb := kindsC_bd (hdX (hs.take k)) (sniffK (hs.getD k hd0).xs).toNat; rw [List.length_map, List.length_take] at hkb; first | omega | (simp; done) | (simp; omega))) trivial rfl (fun a1 ha1 => ?_)
   refine q trivial rfl rfl (lda (v := .slice ((hs.getD k hd0).A) (((hs.getD k hd0).xs).length) ((hs.getD k hd0).c)) hs2 ha1 (fun _ h => h) rfl rfl one24) ?_
   refine cl trivial rfl (sSniffKind (Ab := (hs.getD k hd0).A) (cb := (hs.getD k hd0).c) (b := (hs.getD k hd0).xs) (w := _) (hb := (Sl.up0 (hhs_in _ (getD_mem' (by have hsb := sniffK_bd (hs.getD k hd0).xs; have hkl := kindsC_len (hdX (hs.take k)); have hkb := kindsC_bd (hdX (hs.take k)) (sniffK (hs.getD k hd0).xs).toNat; rw [List.length_map, List.length_take] at hkb; first | omega | (simp; done) | (simp; omega)))) hs2))) ?_
   rintro _ w3 ⟨rfl, hs3'⟩
   have hs3 : SH w w3 [] [.own Ag3 7 cg3 3 1 ((kindsC (hdX (hs.take k))).map I)] := hs2.call0 hs3'
   clear hs3'
   refine q trivial rfl rfl (asg (v := I (sniffK ((hs.getD k hd0).xs))) rfl) ?_
   refine nl ?_
   refine nN ?_
   refine rg ?_
   refine q trivial rfl rfl (mv (v := .slice Ag3 7 cg3) rfl) ?_
   refine q trivial rfl rfl (mv (v := I (sniffK ((hs.getD k hd0).xs))) rfl) ?_
   refine q trivial rfl rfl (mv (v := .slice Ag3 7 cg3) rfl) ?_
   refine q trivial rfl rfl (mv (v := I (sniffK ((hs.getD k hd0).xs))) rfl) ?_
   refine ixw1 ((sniffK ((hs.getD k hd0).xs)).toNat) sl24 rfl (ieq (x := sniffK ((hs.getD k hd0).xs)) (by first | (omega) | (have hsb := sniffK_bd (hs.getD k hd0).xs; have hkl := kindsC_len (hdX (hs.take k)); have hkb := kindsC_bd (hdX (hs.take k)) (sniffK (hs.getD k hd0).xs).toNat; rw [List.length_map, List.length_take] at hkb; omega))) (hs3.sl0 0 rfl) (by have hsb := sniffK_bd (hs.getD k hd0).xs; have hkl := kindsC_len (hdX (hs.take k)); have hkb := kindsC_bd (hdX (hs.take k)) (sniffK (hs.getD k hd0).xs).toNat; rw [List.length_map, List.length_take] at hkb; first | omega | (simp; done) | (simp; omega)) (getm I 0 (by have hsb := sniffK_bd (hs.getD k hd0).xs; have hkl := kindsC_len (hdX (hs.take k)); have hkb := kindsC_bd (hdX (hs.take k)) (sniffK (hs.getD k hd0).xs).toNat; rw [List.length_map, List.length_take] at hkb; first | omega | (simp; done) | (simp; omega))) trivial rfl (fun a2 ha2 => ?_)
   refine q trivial rfl rfl (lda (v := I ((kindsC (hdX (hs.take k))).getD ((sniffK ((hs.getD k hd0).xs)).toNat) 0)) (SH.refl w3 []) ha2 (fun _ h => h) rfl rfl one3) ?_
   refine q trivial rfl rfl (add (a := (kindsC (hdX (hs.take k))).getD ((sniffK ((hs.getD k hd0).xs)).toNat) 0) (b := 1) rfl rfl (by have hsb := sniffK_bd (hs.getD k hd0).xs; have hkl := kindsC_len (hdX (hs.take k)); have hkb := kindsC_bd (hdX (hs.take k)) (sniffK (hs.getD k hd0).xs).toNat; rw [List.length_map, List.length_take] at hkb; exact ⟨by omega, by omega⟩)) ?_
   obtain ⟨b2, rfl⟩ := own_form hs3 0 rfl (by have hsb := sniffK_bd (hs.getD k hd0).xs; have hkl := kindsC_len (hdX (hs.take k)); have hkb := kindsC_bd (hdX (hs.take k)) (sniffK (hs.getD k hd0).xs).toNat; rw [List.length_map, List.length_take] at hkb; first | omega | (simp; done) | (simp; omega))
   refine q trivial rfl rfl (ixo ((sniffK ((hs.getD k hd0).xs)).toNat) sl24 rfl (ieq (x := sniffK ((hs.getD k hd0).xs)) (by first | (omega) | (have hsb := sniffK_bd (hs.getD k hd0).xs; have hkl := kindsC_len (hdX (hs.take k)); have hkb := kindsC_bd (hdX (hs.take k)) (sniffK (hs.getD k hd0).xs).toNat; rw [List.length_map, List.length_take] at hkb; omega))) (by have hsb := sniffK_bd (hs.getD k hd0).xs; have hkl := kindsC_len (hdX (hs.take k)); have hkb := kindsC_bd (hdX (hs.take k)) (sniffK (hs.getD k hd0).xs).toNat; rw [List.length_map, List.length_take] at hkb; first | omega | (simp; done) | (simp; omega))) ?_
   refine stomn (g := I) (ys := kindsC (hdX (hs.take k))) (o := (sniffK ((hs.getD k hd0).xs)).toNat) (u := ((kindsC (hdX (hs.take k))).getD ((sniffK ((hs.getD k hd0).xs)).toNat) 0) + 1) hs3 0 rfl rfl rfl rfl (by first | (first | omega | (simp; done) | (simp; omega)) | (have hsb := sniffK_bd (hs.getD k hd0).xs; have hkl := kindsC_len (hdX (hs.take k)); have hkb := kindsC_bd (hdX (hs.take k)) (sniffK (hs.getD k hd0).xs).toNat; rw [List.length_map, List.length_take] at hkb; first | omega | (simp; done) | (simp; omega))) rfl one3 trivial (fun w4 (hs4 : SH w w4 [] [.own (some ⟨b2, 0, none⟩) 7 cg3 3 1 (((kindsC (hdX (hs.take k))).set ((sniffK ((hs.getD k hd0).xs)).toNat) (((kindsC (hdX (hs.take k))).getD ((sniffK ((hs.getD k hd0).xs)).toNat) 0) + 1)).map I)]) => ?_)
   refine nl ?_
   refine bN ?_
   refine nN ?_
   refine rg ?_
   refine q trivial rfl rfl (mv (v := I ((k : Nat) : Int)) rfl) ?_
   refine q trivial rfl rfl (add (a := ((k : Nat) : Int)) (b := 1) rfl rfl (by have hsb := sniffK_bd (hs.getD k hd0).xs; have hkl := kindsC_len (hdX (hs.take k)); have hkb := kindsC_bd (hdX (hs.take k)) (sniffK (hs.getD k hd0).xs).toNat; rw [List.length_map, List.length_take] at hkb; exact ⟨by omega, by omega⟩)) ?_
   refine q trivial rfl rfl (asg (v := I (((k : Nat) : Int) + 1)) rfl) ?_
   refine nl ?_
   refine nN ?_
   have e3 : (kindsC (hdX (hs.take k))).set ((sniffK ((hs.getD k hd0).xs)).toNat) (((kindsC (hdX (hs.take k))).getD ((sniffK ((hs.getD k hd0).xs)).toNat) 0) + 1) = kindsC (hdX (hs.take (k + 1))) := by exact (kinds_take (by omega)).symm
   refine ⟨((some ⟨b2, 0, none⟩), cg3, k + 1), ⟨⟨rfl, rfl, rfl, trivial⟩, (by omega), (hs4.cast (lc (own_eq (g := I) rfl rfl rfl e3) rfl))⟩, ?_⟩
   show hs.length - (k + 1) < hs.length - k
   omega
 · refine ex (tE (tE (bE ?_)))
   refine nN ?_
   refine sq ?_
   refine rg ?_
   refine q trivial rfl rfl (mv (v := .slice Ag3 7 cg3) rfl) ?_
   refine q trivial rfl rfl (asg (v := .slice Ag3 7 cg3) rfl) ?_
   refine nl ?_
   refine nN ?_
   refine rt ?_
   refine fret (v := .slice Ag3 7 cg3) (.tmp .nil) rfl ?_
   have e4 : kindsC (hdX (hs.take k)) = kindsC (hdX hs) := by (rw [List.take_of_length_le (by omega)])
   have e5 : 7 = (kindsC (hdX hs)).length := by exact (show 7 = (kindsC (hdX (hs.take k))).length by (simp only [kindsC_len])).trans (congrArg List.length e4)
   exact ⟨Ag3, cg3, (slv rfl e5 rfl), (hs2.cast (lc (own_eq (g := I) rfl e5 rfl e4) rfl))⟩

theorem sL16Ok {Atg : Option Addr} {ctg : Nat} (tg : List (Int × Int)) (w : World) (htg : Sl w [] 2 Atg tg.length ctg (tg.flatMap gTag)) (h0g : tg.length = 0) : Does Try.prog 62 [.slice Atg tg.length ctg] w (fun v w' => v = .bool true ∧ SH w w' [] []) := by
 refine fn_enter (N := 38) Try.func62 rfl (by kernel_rfl) rfl rfl rfl ?_
 have hs0 : SH w w [] [] := SH.refl w []
 have htg_m : tg.length ≤ 9223372036854775807 := Nat.le_trans htg.cap htg.capMax
 refine sq ?_
 refine rg ?_
 refine q trivial rfl rfl (asg (v := .bool false) rfl) ?_
 refine nl ?_
 refine nN ?_
 refine sq ?_
 refine sq ?_
 refine rg ?_
 refine q trivial rfl rfl (asg (v := I 0) rfl) ?_
 refine nl ?_
 refine nN ?_
 refine bl ?_
 refine lp (σ := Nat) (fun (k : Nat) f w' => Has f [(0, .slice Atg tg.length ctg), (3, I ((k : Nat) : Int))] ∧ (k ≤ tg.length) ∧ SH w w' [] []) (fun k => tg.length - k) 0 ⟨⟨rfl, rfl, trivial⟩, (by omega), hs0⟩ ?_
 rintro k f w1 ⟨hf, hk, hs1⟩
 obtain ⟨g1, rfl⟩ := has_upd hf
 clear hf
 refine sq ?_
 refine sq ?_
 refine rg ?_
 refine q trivial rfl rfl (mv (v := I ((k : Nat) : Int)) rfl) ?_
 refine q trivial rfl rfl (mv (v := .slice Atg tg.length ctg) rfl) ?_
 refine q trivial rfl rfl (lnA (n := tg.length) sl64 rfl) ?_
 refine q trivial rfl rfl (lss (k := .i64) (a := ((k : Nat) : Int)) (b := ((tg.length : Nat) : Int)) rfl rfl) ?_
 refine nl ?_
 refine nN ?_
 refine cdd (p := ((k : Nat) : Int) < ((tg.length : Nat) : Int)) rfl (fun h1 => absurd h1 (by omega)) (fun h1 => ?_)
 refine ex (tE (tE (bE ?_)))
 refine nN ?_
 refine sq ?_
 refine rg ?_
 refine q trivial rfl rfl (mv (v := .slice Atg tg.length ctg) rfl) ?_
 refine q trivial rfl rfl (lnA (n := tg.length) sl64 rfl) ?_
 refine q trivial rfl rfl (leq (k := .i64) (a := ((tg.length : Nat) : Int)) (b := 4) rfl rfl) ?_
 refine q trivial rfl rfl (asg (v := .bool (decide (((tg.length : Nat) : Int) ≤ 4))) rfl) ?_
 refine nl ?_
 refine nN ?_
 refine rt ?_
 refine fret (v := .bool (decide (((tg.length : Nat) : Int) ≤ 4))) (.tmp .nil) rfl ?_
 have e1 : (decide (((tg.length : Nat) : Int) ≤ 4)) = true := by (simp; omega)
 exact ⟨(congrArg (Value.bool) e1), hs1⟩

theorem sL16Bytes {Atg : Option Addr} {ctg : Nat} (tg : List (Int × Int)) (w : World) (htg : Sl w [] 2 Atg tg.length ctg (tg.flatMap gTag)) (h0g : tg.length = 0) : Does Try.prog 64 [.slice Atg tg.length ctg] w (fun v w' => ∃ Ar : Option Addr, ∃ cr : Nat, v = .slice Ar ([] : List Int).length cr ∧ SH w w' [] [.own Ar (([] : List Int).length) cr 3 1 (([] : List Int).map I)]) := by
 refine fn_enter (N := 37) Try.func64 rfl (by kernel_rfl) rfl rfl rfl ?_
 have hs0 : SH w w [] [] := SH.refl w []
 have htg_m : tg.length ≤ 9223372036854775807 := Nat.le_trans htg.cap htg.capMax
 refine sq ?_
 refine rg ?_
 refine q trivial rfl rfl (asg (v := ns) rfl) ?_
 refine nl ?_
 refine nN ?_
 refine sq ?_
 refine rg ?_
 refine bsk hs0 sl24 [] [] trivial rfl (fun b1 w1 (hs1 : SH w w1 [] [oI b1 ([] : List Int) 0 3]) => ?_)
 refine q trivial rfl rfl (asg (v := sb b1 (([] : List Int).length) 0) rfl) ?_
 refine nl ?_
 refine nN ?_
 refine sq ?_
 refine sq ?_
 refine rg ?_
 refine q trivial rfl rfl (asg (v := I 0) rfl) ?_
 refine nl ?_
 refine nN ?_
 refine bl ?_
 have e1 : ([] : List Int).length = 0 := by first | rfl | (simp; done) | (simp; omega) | omega
 refine lp (σ := (Option Addr) × Nat × Nat) (fun ⟨Ag3, cg3, k⟩ f w' => Has f [(0, .slice Atg tg.length ctg), (3, .slice Ag3 0 cg3), (4, I ((k : Nat) : Int))] ∧ (k ≤ tg.length) ∧ SH w w' [] [.own Ag3 0 cg3 3 1 (([] : List Int).map I)]) (fun ⟨Ag3, cg3, k⟩ => tg.length - k) ((some ⟨b1, 0, none⟩), 0, 0) ⟨⟨rfl, (show (.slice (some ⟨b1, 0, none⟩) (([] : List Int).length) 0 : Value) = .slice (some ⟨b1, 0, none⟩) 0 0 from slv rfl e1 rfl), rfl, trivial⟩, (by omega), (hs1.cast (lc (own_eq (g := I) rfl e1 rfl rfl) rfl))⟩ ?_
 rintro ⟨Ag3, cg3, k⟩ f w2 ⟨hf, hk, hs2⟩
 obtain ⟨g1, rfl⟩ := has_upd hf
 clear hf
 refine sq ?_
 refine sq ?_
 refine rg ?_
 refine q trivial rfl rfl (mv (v := I ((k : Nat) : Int)) rfl) ?_
 refine q trivial rfl rfl (mv (v := .slice Atg tg.length ctg) rfl) ?_
 refine q trivial rfl rfl (lnA (n := tg.length) sl64 rfl) ?_
 refine q trivial rfl rfl (lss (k := .i64) (a := ((k : Nat) : Int)) (b := ((tg.length : Nat) : Int)) rfl rfl) ?_
 refine nl ?_
 refine nN ?_
 refine cdd (p := ((k : Nat) : Int) < ((tg.length : Nat) : Int)) rfl (fun h1 => absurd h1 (by omega)) (fun h1 => ?_)
 refine ex (tE (tE (bE ?_)))
 refine nN ?_
 refine sq ?_
 refine rg ?_
 refine q trivial rfl rfl (mv (v := .slice Ag3 0 cg3) rfl) ?_
 refine q trivial rfl rfl (asg (v := .slice Ag3 0 cg3) rfl) ?_
 refine nl ?_
 refine nN ?_
 refine rt ?_
 refine fret (v := .slice Ag3 0 cg3) (.tmp .nil) rfl ?_
 have e2 : 0 = ([] : List Int).length := by first | rfl | (simp; done) | (simp; omega) | omega
 exact ⟨Ag3, cg3, (slv rfl e2 rfl), (hs2.cast (lc (own_eq (g := I) rfl e2 rfl rfl) rfl))⟩


end Go.Proofs.Ytjehmnojfpedjaa
