/-
  Part of the proofs over this seat: what each function of the program computes, function by function (the text is written by a program of this hand-in's own).
  Conditions: each theorem states its own.
-/
import Derived.Test.YtpddahloogjghaaDoorPfWalks
namespace Go.Proofs.YtpddahloogjghaaDoor
open Go.PF
set_option maxRecDepth 100000
set_option linter.unusedSimpArgs false
set_option linter.unusedVariables false

theorem iClientValid {Ams : Option Addr} {cms : Nat} (ms : List Int) (lu : List UInt8) (lw : List UInt8) (ak : Int) {Aaq : Option Addr} {caq : Nat} (aq : List Int) (an : List UInt8) (apt : Int) (w : World) (hms : Sl w [] 1 Ams ms.length cms (ms.map I)) (hlu_n : lu.length ≤ 2147483648) (hlw_n : lw.length ≤ 2147483648) (haq : Sl w [] 1 Aaq aq.length caq (aq.map I)) (han_n : an.length ≤ 1099511627776) : Does Tryd.prog 9 [.agg #[.slice Ams ms.length cms, Str lu, Str lw, I ak, .slice Aaq aq.length caq, Str an, I apt]] w (fun v w' => v = .bool (clientOk ms lu lw ak aq an apt) ∧ SH w w' [] []) := by
 refine fn_enter (N := 23) Tryd.func9 rfl (by kernel_rfl) rfl rfl rfl ?_
 have hs0 : SH w w [] [] := SH.refl w []
 have hms_m : ms.length ≤ 9223372036854775807 := Nat.le_trans hms.cap hms.capMax
 have haq_m : aq.length ≤ 9223372036854775807 := Nat.le_trans haq.cap haq.capMax
 refine sq ?_
 refine rg ?_
 refine bx (v := .agg #[.slice Ams ms.length cms, Str lu, Str lw, I ak, .slice Aaq aq.length caq, Str an, I apt]) (cs := [.slice Ams ms.length cms, Str lu, Str lw, I ak, .slice Aaq aq.length caq, Str an, I apt]) hs0 rfl rfl trivial rfl (fun b1 w1 (hs1 : SH w w1 [] [.blk b1 29 [.slice Ams ms.length cms, Str lu, Str lw, I ak, .slice Aaq aq.length caq, Str an, I apt]]) => ?_)
 refine q trivial rfl rfl (asg (v := .bool false) rfl) ?_
 refine nl ?_
 refine nN ?_
 refine sq ?_
 refine sq ?_
 refine rg ?_
 refine q trivial rfl rfl (fa 0 fo29_0 rfl) ?_
 refine q trivial rfl rfl (ld (v := .slice Ams ms.length cms) hs1 0 rfl rfl rfl one23) ?_
 refine cl trivial rfl (iAreMethods (Ams := Ams) (cms := cms) (ms := ms) (w := _) (hms := (hms.up0 hs1))) ?_
 rintro _ w2 ⟨rfl, hs2'⟩
 have hs2 : SH w w2 [] [.blk b1 29 [.slice Ams ms.length cms, Str lu, Str lw, I ak, .slice Aaq aq.length caq, Str an, I apt]] := hs1.call0 hs2'
 clear hs2'
 refine q trivial rfl rfl (nt (b := methOk ms) rfl) ?_
 refine q trivial rfl rfl (mv (v := .bool (!(methOk ms))) rfl) ?_
 refine spl (b := !(methOk ms)) 7 rfl (fun h1 => ?_) (fun h1 => ?_)
 · have h2 : (methOk ms) = false := by simpa using h1
   refine gk true rfl rfl rfl rfl rfl ?_
   refine gk true rfl rfl rfl rfl rfl ?_
   refine gk true rfl rfl rfl rfl rfl ?_
   refine gk true rfl rfl rfl rfl rfl ?_
   refine q trivial rfl rfl (pt (v := .bool true) rfl rfl) ?_
   refine nl ?_
   refine nN ?_
   refine cdt rfl ?_
   refine sq ?_
   refine rg ?_
   refine q trivial rfl rfl (asg (v := .bool false) rfl) ?_
   refine nl ?_
   refine nN ?_
   refine rt (tR ?_)
   refine fret (v := .bool false) (.tmp .nil) rfl ?_
   have e1 : false = clientOk ms lu lw ak aq an apt := by simp [clientOk, h2]
   exact ⟨(congrArg (Value.bool) e1), (hs2.pick [] rfl (by decide))⟩
 · have h3 : (methOk ms) = true := by simpa using h1
   refine q ⟨_, rfl, rfl⟩ rfl rfl (fa 3 fo29_2 rfl) ?_
   refine q ⟨_, rfl, rfl⟩ rfl rfl (ldg (vs := [I ak, .slice Aaq aq.length caq, Str an, I apt]) hs2 0 rfl rfl rfl rfl ag27) ?_
   refine cl ⟨_, rfl, rfl⟩ rfl (iAddressValid (ak := ak) (Aaq := Aaq) (caq := caq) (aq := aq) (an := an) (apt := apt) (w := _) (haq := (haq.up0 hs2)) (han_n := (by first | omega | (simp; done) | (simp; omega)))) ?_
   rintro _ w3 ⟨rfl, hs3'⟩
   have hs3 : SH w w3 [] [.blk b1 29 [.slice Ams ms.length cms, Str lu, Str lw, I ak, .slice Aaq aq.length caq, Str an, I apt]] := hs2.call0 hs3'
   clear hs3'
   refine q ⟨_, rfl, rfl⟩ rfl rfl (nt (b := addrOk ak aq an apt) rfl) ?_
   refine q trivial rfl rfl (pf (v := .bool (!(addrOk ak aq an apt))) rfl rfl) ?_
   refine nl ?_
   refine nN ?_
   refine cd (b := !(addrOk ak aq an apt)) rfl (fun h4 => ?_) (fun h4 => ?_)
   · have h5 : (addrOk ak aq an apt) = false := by simpa using h4
     refine sq ?_
     refine rg ?_
     refine q trivial rfl rfl (asg (v := .bool false) rfl) ?_
     refine nl ?_
     refine nN ?_
     refine rt (tR ?_)
     refine fret (v := .bool false) (.tmp .nil) rfl ?_
     have e2 : false = clientOk ms lu lw ak aq an apt := by simp [clientOk, h3, h5]
     exact ⟨(congrArg (Value.bool) e2), (hs3.pick [] rfl (by decide))⟩
   · have h6 : (addrOk ak aq an apt) = true := by simpa using h4
     refine sk ?_
     refine nN ?_
     refine sq ?_
     refine sq ?_
     refine rg ?_
     refine q trivial rfl rfl (fa 0 fo29_0 rfl) ?_
     refine q trivial rfl rfl (ld (v := .slice Ams ms.length cms) hs3 0 rfl rfl rfl one23) ?_
     refine cl trivial rfl (slContains (Azs := Ams) (czs := cms) (zs := ms) (n := 2) (w := _) (hzs := (hms.up0 hs3))) ?_
     rintro _ w4 ⟨rfl, hs4'⟩
     have hs4 : SH w w4 [] [.blk b1 29 [.slice Ams ms.length cms, Str lu, Str lw, I ak, .slice Aaq aq.length caq, Str an, I apt]] := hs3.call0 hs4'
     clear hs4'
     refine nl ?_
     refine nN ?_
     refine cdd (p := 2 ∈ ms) rfl (fun h7 => ?_) (fun h7 => ?_)
     · refine sq ?_
       refine rg ?_
       refine q trivial rfl rfl (fa 1 fo29_1 rfl) ?_
       refine q trivial rfl rfl (ldg (vs := [Str lu, Str lw]) hs4 0 rfl rfl rfl rfl ag25) ?_
       refine cl trivial rfl (iIsLogin (lu := lu) (lw := lw) (w := _) (hlu_n := (by first | omega | (simp; done) | (simp; omega))) (hlw_n := (by first | omega | (simp; done) | (simp; omega)))) ?_
       rintro _ w5 ⟨rfl, hs5'⟩
       have hs5 : SH w w5 [] [.blk b1 29 [.slice Ams ms.length cms, Str lu, Str lw, I ak, .slice Aaq aq.length caq, Str an, I apt]] := hs4.call0 hs5'
       clear hs5'
       refine q trivial rfl rfl (asg (v := .bool (loginOk lu lw)) rfl) ?_
       refine nl ?_
       refine nN ?_
       refine rt (tR ?_)
       refine fret (v := .bool (loginOk lu lw)) (.tmp .nil) rfl ?_
       have e3 : (loginOk lu lw) = clientOk ms lu lw ak aq an apt := by simp [clientOk, h3, h6, h7]
       exact ⟨(congrArg (Value.bool) e3), (hs5.pick [] rfl (by decide))⟩
     · refine sk ?_
       refine nN ?_
       refine sq ?_
       refine rg ?_
       refine q trivial rfl rfl (fa 1 fo29_1 rfl) ?_
       refine q trivial rfl rfl (ldg (vs := [Str lu, Str lw]) hs4 0 rfl rfl rfl rfl ag25) ?_
       refine q trivial rfl rfl (bdv (v := .agg #[Str [], Str []]) [] rfl (fun _ => by kernel_rfl)) ?_
       refine q trivial rfl rfl (eq2 (a := lu) (b := lw) (c := []) (e := []) s2_25 rfl rfl) ?_
       refine q trivial rfl rfl (asg (v := .bool (decide (lu = [] ∧ lw = []))) rfl) ?_
       refine nl ?_
       refine nN ?_
       refine rt ?_
       refine fret (v := .bool (decide (lu = [] ∧ lw = []))) (.tmp .nil) rfl ?_
       have e4 : (decide (lu = [] ∧ lw = [])) = clientOk ms lu lw ak aq an apt := by simp [clientOk, h3, h6, h7]
       exact ⟨(congrArg (Value.bool) e4), (hs4.pick [] rfl (by decide))⟩

theorem sClientValid {Ams : Option Addr} {cms : Nat} (ms : List Int) (lu : List UInt8) (lw : List UInt8) (ak : Int) {Aaq : Option Addr} {caq : Nat} (aq : List Int) (an : List UInt8) (apt : Int) (w : World) (hms : Sl w [] 1 Ams ms.length cms (ms.map I)) (hlu_n : lu.length ≤ 2147483648) (hlw_n : lw.length ≤ 2147483648) (haq : Sl w [] 1 Aaq aq.length caq (aq.map I)) (han_n : an.length ≤ 1099511627776) : Does Tryd.prog 10 [.agg #[.slice Ams ms.length cms, Str lu, Str lw, I ak, .slice Aaq aq.length caq, Str an, I apt]] w (fun v w' => v = .bool (clientOk ms lu lw ak aq an apt) ∧ SH w w' [] []) := by
 refine fn_enter (N := 23) Tryd.func10 rfl (by kernel_rfl) rfl rfl rfl ?_
 have hs0 : SH w w [] [] := SH.refl w []
 have hms_m : ms.length ≤ 9223372036854775807 := Nat.le_trans hms.cap hms.capMax
 have haq_m : aq.length ≤ 9223372036854775807 := Nat.le_trans haq.cap haq.capMax
 refine sq ?_
 refine rg ?_
 refine bx (v := .agg #[.slice Ams ms.length cms, Str lu, Str lw, I ak, .slice Aaq aq.length caq, Str an, I apt]) (cs := [.slice Ams ms.length cms, Str lu, Str lw, I ak, .slice Aaq aq.length caq, Str an, I apt]) hs0 rfl rfl trivial rfl (fun b1 w1 (hs1 : SH w w1 [] [.blk b1 29 [.slice Ams ms.length cms, Str lu, Str lw, I ak, .slice Aaq aq.length caq, Str an, I apt]]) => ?_)
 refine q trivial rfl rfl (asg (v := .bool false) rfl) ?_
 refine nl ?_
 refine nN ?_
 refine sq ?_
 refine sq ?_
 refine rg ?_
 refine q trivial rfl rfl (fa 0 fo29_0 rfl) ?_
 refine q trivial rfl rfl (ld (v := .slice Ams ms.length cms) hs1 0 rfl rfl rfl one23) ?_
 refine cl trivial rfl (sL5Ok (Ams := Ams) (cms := cms) (ms := ms) (w := _) (hms := (hms.up0 hs1))) ?_
 rintro _ w2 ⟨rfl, hs2'⟩
 have hs2 : SH w w2 [] [.blk b1 29 [.slice Ams ms.length cms, Str lu, Str lw, I ak, .slice Aaq aq.length caq, Str an, I apt]] := hs1.call0 hs2'
 clear hs2'
 refine q trivial rfl rfl (nt (b := methOk ms) rfl) ?_
 refine q trivial rfl rfl (mv (v := .bool (!(methOk ms))) rfl) ?_
 refine spl (b := !(methOk ms)) 7 rfl (fun h1 => ?_) (fun h1 => ?_)
 · have h2 : (methOk ms) = false := by simpa using h1
   refine gk true rfl rfl rfl rfl rfl ?_
   refine gk true rfl rfl rfl rfl rfl ?_
   refine gk true rfl rfl rfl rfl rfl ?_
   refine gk true rfl rfl rfl rfl rfl ?_
   refine q trivial rfl rfl (pt (v := .bool true) rfl rfl) ?_
   refine nl ?_
   refine nN ?_
   refine cdt rfl ?_
   refine sq ?_
   refine rg ?_
   refine q trivial rfl rfl (asg (v := .bool false) rfl) ?_
   refine nl ?_
   refine nN ?_
   refine rt (tR ?_)
   refine fret (v := .bool false) (.tmp .nil) rfl ?_
   have e1 : false = clientOk ms lu lw ak aq an apt := by simp [clientOk, h2]
   exact ⟨(congrArg (Value.bool) e1), (hs2.pick [] rfl (by decide))⟩
 · have h3 : (methOk ms) = true := by simpa using h1
   refine q ⟨_, rfl, rfl⟩ rfl rfl (fa 3 fo29_2 rfl) ?_
   refine q ⟨_, rfl, rfl⟩ rfl rfl (ldg (vs := [I ak, .slice Aaq aq.length caq, Str an, I apt]) hs2 0 rfl rfl rfl rfl ag27) ?_
   refine cl ⟨_, rfl, rfl⟩ rfl (sAddressValid (ak := ak) (Aaq := Aaq) (caq := caq) (aq := aq) (an := an) (apt := apt) (w := _) (haq := (haq.up0 hs2)) (han_n := (by first | omega | (simp; done) | (simp; omega)))) ?_
   rintro _ w3 ⟨rfl, hs3'⟩
   have hs3 : SH w w3 [] [.blk b1 29 [.slice Ams ms.length cms, Str lu, Str lw, I ak, .slice Aaq aq.length caq, Str an, I apt]] := hs2.call0 hs3'
   clear hs3'
   refine q ⟨_, rfl, rfl⟩ rfl rfl (nt (b := addrOk ak aq an apt) rfl) ?_
   refine q trivial rfl rfl (pf (v := .bool (!(addrOk ak aq an apt))) rfl rfl) ?_
   refine nl ?_
   refine nN ?_
   refine cd (b := !(addrOk ak aq an apt)) rfl (fun h4 => ?_) (fun h4 => ?_)
   · have h5 : (addrOk ak aq an apt) = false := by simpa using h4
     refine sq ?_
     refine rg ?_
     refine q trivial rfl rfl (asg (v := .bool false) rfl) ?_
     refine nl ?_
     refine nN ?_
     refine rt (tR ?_)
     refine fret (v := .bool false) (.tmp .nil) rfl ?_
     have e2 : false = clientOk ms lu lw ak aq an apt := by simp [clientOk, h3, h5]
     exact ⟨(congrArg (Value.bool) e2), (hs3.pick [] rfl (by decide))⟩
   · have h6 : (addrOk ak aq an apt) = true := by simpa using h4
     refine sk ?_
     refine nN ?_
     refine sq ?_
     refine sq ?_
     refine rg ?_
     refine q trivial rfl rfl (fa 0 fo29_0 rfl) ?_
     refine q trivial rfl rfl (ld (v := .slice Ams ms.length cms) hs3 0 rfl rfl rfl one23) ?_
     refine cl trivial rfl (l5Has (Azs := Ams) (czs := cms) (zs := ms) (n := 2) (w := _) (hzs := (hms.up0 hs3))) ?_
     rintro _ w4 ⟨rfl, hs4'⟩
     have hs4 : SH w w4 [] [.blk b1 29 [.slice Ams ms.length cms, Str lu, Str lw, I ak, .slice Aaq aq.length caq, Str an, I apt]] := hs3.call0 hs4'
     clear hs4'
     refine nl ?_
     refine nN ?_
     refine cdd (p := 2 ∈ ms) rfl (fun h7 => ?_) (fun h7 => ?_)
     · refine sq ?_
       refine rg ?_
       refine q trivial rfl rfl (fa 1 fo29_1 rfl) ?_
       refine q trivial rfl rfl (ldg (vs := [Str lu, Str lw]) hs4 0 rfl rfl rfl rfl ag25) ?_
       refine cl trivial rfl (sL11Ok (lu := lu) (lw := lw) (w := _) (hlu_n := (by first | omega | (simp; done) | (simp; omega))) (hlw_n := (by first | omega | (simp; done) | (simp; omega)))) ?_
       rintro _ w5 ⟨rfl, hs5'⟩
       have hs5 : SH w w5 [] [.blk b1 29 [.slice Ams ms.length cms, Str lu, Str lw, I ak, .slice Aaq aq.length caq, Str an, I apt]] := hs4.call0 hs5'
       clear hs5'
       refine q trivial rfl rfl (asg (v := .bool (loginOk lu lw)) rfl) ?_
       refine nl ?_
       refine nN ?_
       refine rt (tR ?_)
       refine fret (v := .bool (loginOk lu lw)) (.tmp .nil) rfl ?_
       have e3 : (loginOk lu lw) = clientOk ms lu lw ak aq an apt := by simp [clientOk, h3, h6, h7]
       exact ⟨(congrArg (Value.bool) e3), (hs5.pick [] rfl (by decide))⟩
     · refine sk ?_
       refine nN ?_
       refine sq ?_
       refine rg ?_
       refine q trivial rfl rfl (fa 1 fo29_1 rfl) ?_
       refine q trivial rfl rfl (ldg (vs := [Str lu, Str lw]) hs4 0 rfl rfl rfl rfl ag25) ?_
       refine q trivial rfl rfl (bdv (v := .agg #[Str [], Str []]) [] rfl (fun _ => by kernel_rfl)) ?_
       refine q trivial rfl rfl (eq2 (a := lu) (b := lw) (c := []) (e := []) s2_25 rfl rfl) ?_
       refine q trivial rfl rfl (asg (v := .bool (decide (lu = [] ∧ lw = []))) rfl) ?_
       refine nl ?_
       refine nN ?_
       refine rt ?_
       refine fret (v := .bool (decide (lu = [] ∧ lw = []))) (.tmp .nil) rfl ?_
       have e4 : (decide (lu = [] ∧ lw = [])) = clientOk ms lu lw ak aq an apt := by simp [clientOk, h3, h6, h7]
       exact ⟨(congrArg (Value.bool) e4), (hs4.pick [] rfl (by decide))⟩

theorem szLogin (lu : List UInt8) (lw : List UInt8) (z : Int) (w : World) (hlu_n : lu.length ≤ 9223372036854775807) (hlw_n : lw.length ≤ 9223372036854775807) (hz : 0 ≤ z ∧ z ≤ 1099511627776) : Does Tryd.prog 36 [.agg #[Str lu, Str lw], I z] w (fun v w' => ∃ r : Int, v = .int .i64 r ∧ (-1 ≤ r ∧ r ≤ z) ∧ (r < 0 ∨ ((lu.length : Int) ≤ z ∧ (lw.length : Int) ≤ z)) ∧ SH w w' [] []) := by
 refine fn_enter (N := 20) Tryd.func36 rfl (by kernel_rfl) rfl rfl rfl ?_
 have hs0 : SH w w [] [] := SH.refl w []
 refine sq ?_
 refine rg ?_
 refine bx (v := .agg #[Str lu, Str lw]) (cs := [Str lu, Str lw]) hs0 rfl rfl trivial rfl (fun b1 w1 (hs1 : SH w w1 [] [.blk b1 33 [Str lu, Str lw]]) => ?_)
 refine q trivial rfl rfl (asg (v := I 0) rfl) ?_
 refine nl ?_
 refine nN ?_
 refine sq ?_
 refine rg ?_
 refine q trivial rfl rfl (mv (v := I z) rfl) ?_
 refine q trivial rfl rfl (fa 0 fo33_0 rfl) ?_
 refine q trivial rfl rfl (ld (v := Str lu) hs1 0 rfl rfl rfl one9) ?_
 refine q trivial rfl rfl (lnS (l := lu) st9 rfl) ?_
 refine q trivial rfl rfl (sub (a := z) (b := ((lu.length : Nat) : Int)) rfl rfl (by exact ⟨by omega, by omega⟩)) ?_
 refine q trivial rfl rfl (asg (v := I (z - ((lu.length : Nat) : Int))) rfl) ?_
 refine nl ?_
 refine nN ?_
 refine sq ?_
 refine sq ?_
 refine rg ?_
 refine q trivial rfl rfl (mv (v := I (z - ((lu.length : Nat) : Int))) rfl) ?_
 refine q trivial rfl rfl (lss (k := .i64) (a := z - ((lu.length : Nat) : Int)) (b := 0) rfl rfl) ?_
 refine nl ?_
 refine nN ?_
 refine cdd (p := (z - ((lu.length : Nat) : Int)) < 0) rfl (fun h1 => ?_) (fun h1 => ?_)
 · refine sq ?_
   refine rg ?_
   refine q trivial rfl rfl (asg (v := I (-1)) rfl) ?_
   refine nl ?_
   refine nN ?_
   refine rt (tR ?_)
   refine fret (v := I (-1)) (.tmp .nil) rfl ?_
   exact ⟨(-1), rfl, (by first | assumption | omega | (simp; omega)), (by first | assumption | omega | (simp; omega)), (hs1.pick [] rfl (by decide))⟩
 · refine sk ?_
   refine nN ?_
   refine sq ?_
   refine rg ?_
   refine q trivial rfl rfl (mv (v := I (z - ((lu.length : Nat) : Int))) rfl) ?_
   refine q trivial rfl rfl (fa 1 fo33_1 rfl) ?_
   refine q trivial rfl rfl (ld (v := Str lw) hs1 0 rfl rfl rfl one9) ?_
   refine q trivial rfl rfl (lnS (l := lw) st9 rfl) ?_
   refine q trivial rfl rfl (sub (a := z - ((lu.length : Nat) : Int)) (b := ((lw.length : Nat) : Int)) rfl rfl (by exact ⟨by omega, by omega⟩)) ?_
   refine q trivial rfl rfl (asg (v := I ((z - ((lu.length : Nat) : Int)) - ((lw.length : Nat) : Int))) rfl) ?_
   refine nl ?_
   refine nN ?_
   refine sq ?_
   refine sq ?_
   refine rg ?_
   refine q trivial rfl rfl (mv (v := I ((z - ((lu.length : Nat) : Int)) - ((lw.length : Nat) : Int))) rfl) ?_
   refine q trivial rfl rfl (lss (k := .i64) (a := (z - ((lu.length : Nat) : Int)) - ((lw.length : Nat) : Int)) (b := 0) rfl rfl) ?_
   refine nl ?_
   refine nN ?_
   refine cdd (p := ((z - ((lu.length : Nat) : Int)) - ((lw.length : Nat) : Int)) < 0) rfl (fun h2 => ?_) (fun h2 => ?_)
   · refine sq ?_
     refine rg ?_
     refine q trivial rfl rfl (asg (v := I (-1)) rfl) ?_
     refine nl ?_
     refine nN ?_
     refine rt (tR ?_)
     refine fret (v := I (-1)) (.tmp .nil) rfl ?_
     exact ⟨(-1), rfl, (by first | assumption | omega | (simp; omega)), (by first | assumption | omega | (simp; omega)), (hs1.pick [] rfl (by decide))⟩
   · refine sk ?_
     refine nN ?_
     refine sq ?_
     refine rg ?_
     refine q trivial rfl rfl (mv (v := I ((z - ((lu.length : Nat) : Int)) - ((lw.length : Nat) : Int))) rfl) ?_
     refine q trivial rfl rfl (asg (v := I ((z - ((lu.length : Nat) : Int)) - ((lw.length : Nat) : Int))) rfl) ?_
     refine nl ?_
     refine nN ?_
     refine rt ?_
     refine fret (v := I ((z - ((lu.length : Nat) : Int)) - ((lw.length : Nat) : Int))) (.tmp .nil) rfl ?_
     exact ⟨(z - ((lu.length : Nat) : Int)) - ((lw.length : Nat) : Int), rfl, (by first | assumption | omega | (simp; omega)), (by first | assumption | omega | (simp; omega)), (hs1.pick [] rfl (by decide))⟩

theorem szAddress (ak : Int) {Aaq : Option Addr} {caq : Nat} (aq : List Int) (an : List UInt8) (apt : Int) (z : Int) (w : World) (haq : Sl w [] 1 Aaq aq.length caq (aq.map I)) (han_n : an.length ≤ 9223372036854775807) (hz : 0 ≤ z ∧ z ≤ 1099511627776) : Does Tryd.prog 37 [.agg #[I ak, .slice Aaq aq.length caq, Str an, I apt], I z] w (fun v w' => ∃ r : Int, v = .int .i64 r ∧ (-1 ≤ r ∧ r ≤ z) ∧ (r < 0 ∨ ((aq.length : Int) ≤ z ∧ (an.length : Int) ≤ z)) ∧ SH w w' [] []) := by
 refine fn_enter (N := 19) Tryd.func37 rfl (by kernel_rfl) rfl rfl rfl ?_
 have hs0 : SH w w [] [] := SH.refl w []
 have haq_m : aq.length ≤ 9223372036854775807 := Nat.le_trans haq.cap haq.capMax
 refine sq ?_
 refine rg ?_
 refine bx (v := .agg #[I ak, .slice Aaq aq.length caq, Str an, I apt]) (cs := [I ak, .slice Aaq aq.length caq, Str an, I apt]) hs0 rfl rfl trivial rfl (fun b1 w1 (hs1 : SH w w1 [] [.blk b1 34 [I ak, .slice Aaq aq.length caq, Str an, I apt]]) => ?_)
 refine q trivial rfl rfl (asg (v := I 0) rfl) ?_
 refine nl ?_
 refine nN ?_
 refine sq ?_
 refine rg ?_
 refine q trivial rfl rfl (fa 1 fo34_1 rfl) ?_
 refine q trivial rfl rfl (ld (v := .slice Aaq aq.length caq) hs1 0 rfl rfl rfl one23) ?_
 refine q trivial rfl rfl (mv (v := I z) rfl) ?_
 refine cl trivial rfl (szIntS (Axs := Aaq) (cxs := caq) (xs := aq) (z := z) (w := _) (hxs := (haq.up0 hs1)) (hz := (by first | (first | omega | assumption | (simp; done) | (simp; omega)) | (have hsz1 := szI_bd (n := aq.length) (z := z) (by omega); have hsz2 := szI_nn (n := aq.length) (z := z) (by omega); first | omega | assumption | (simp; done) | (simp; omega))))) ?_
 rintro _ w2 ⟨rfl, hs2'⟩
 have hs2 : SH w w2 [] [.blk b1 34 [I ak, .slice Aaq aq.length caq, Str an, I apt]] := hs1.call0 hs2'
 clear hs2'
 refine q trivial rfl rfl (asg (v := I (szI aq.length z)) rfl) ?_
 refine nl ?_
 refine nN ?_
 refine sq ?_
 refine sq ?_
 refine rg ?_
 refine q trivial rfl rfl (mv (v := I (szI aq.length z)) rfl) ?_
 refine q trivial rfl rfl (lss (k := .i64) (a := szI aq.length z) (b := 0) rfl rfl) ?_
 refine nl ?_
 refine nN ?_
 refine cdd (p := (szI aq.length z) < 0) rfl (fun h1 => ?_) (fun h1 => ?_)
 · refine sq ?_
   refine rg ?_
   refine q trivial rfl rfl (asg (v := I (-1)) rfl) ?_
   refine nl ?_
   refine nN ?_
   refine rt (tR ?_)
   refine fret (v := I (-1)) (.tmp .nil) rfl ?_
   exact ⟨(-1), rfl, (by have hsz1 := szI_bd (n := aq.length) (z := z) (by omega); omega), (by have hsz1 := szI_bd (n := aq.length) (z := z) (by omega); first | omega | (have hsz2 := szI_nn (n := aq.length) (z := z) (by omega); omega)), (hs2.pick [] rfl (by decide))⟩
 · refine sk ?_
   refine nN ?_
   refine sq ?_
   refine rg ?_
   refine q trivial rfl rfl (mv (v := I (szI aq.length z)) rfl) ?_
   refine q trivial rfl rfl (fa 2 fo34_2 rfl) ?_
   refine q trivial rfl rfl (ld (v := Str an) hs2 0 rfl rfl rfl one9) ?_
   refine q trivial rfl rfl (lnS (l := an) st9 rfl) ?_
   refine q trivial rfl rfl (sub (a := szI aq.length z) (b := ((an.length : Nat) : Int)) rfl rfl (by first | (exact ⟨by omega, by omega⟩) | (have hsz1 := szI_bd (n := aq.length) (z := z) (by omega); have hsz2 := szI_nn (n := aq.length) (z := z) (by omega); exact ⟨by omega, by omega⟩))) ?_
   refine q trivial rfl rfl (asg (v := I ((szI aq.length z) - ((an.length : Nat) : Int))) rfl) ?_
   refine nl ?_
   refine nN ?_
   refine sq ?_
   refine sq ?_
   refine rg ?_
   refine q trivial rfl rfl (mv (v := I ((szI aq.length z) - ((an.length : Nat) : Int))) rfl) ?_
   refine q trivial rfl rfl (lss (k := .i64) (a := (szI aq.length z) - ((an.length : Nat) : Int)) (b := 0) rfl rfl) ?_
   refine nl ?_
   refine nN ?_
   refine cdd (p := ((szI aq.length z) - ((an.length : Nat) : Int)) < 0) rfl (fun h2 => ?_) (fun h2 => ?_)
   · refine sq ?_
     refine rg ?_
     refine q trivial rfl rfl (asg (v := I (-1)) rfl) ?_
     refine nl ?_
     refine nN ?_
     refine rt (tR ?_)
     refine fret (v := I (-1)) (.tmp .nil) rfl ?_
     exact ⟨(-1), rfl, (by have hsz1 := szI_bd (n := aq.length) (z := z) (by omega); omega), (by have hsz1 := szI_bd (n := aq.length) (z := z) (by omega); first | omega | (have hsz2 := szI_nn (n := aq.length) (z := z) (by omega); omega)), (hs2.pick [] rfl (by decide))⟩
   · refine sk ?_
     refine nN ?_
     refine sq ?_
     refine rg ?_
     refine q trivial rfl rfl (mv (v := I ((szI aq.length z) - ((an.length : Nat) : Int))) rfl) ?_
     refine q trivial rfl rfl (asg (v := I ((szI aq.length z) - ((an.length : Nat) : Int))) rfl) ?_
     refine nl ?_
     refine nN ?_
     refine rt ?_
     refine fret (v := I ((szI aq.length z) - ((an.length : Nat) : Int))) (.tmp .nil) rfl ?_
     exact ⟨(szI aq.length z) - ((an.length : Nat) : Int), rfl, (by have hsz1 := szI_bd (n := aq.length) (z := z) (by omega); omega), (by have hsz1 := szI_bd (n := aq.length) (z := z) (by omega); first | omega | (have hsz2 := szI_nn (n := aq.length) (z := z) (by omega); omega)), (hs2.pick [] rfl (by decide))⟩

theorem szClient {Ams : Option Addr} {cms : Nat} (ms : List Int) (lu : List UInt8) (lw : List UInt8) (ak : Int) {Aaq : Option Addr} {caq : Nat} (aq : List Int) (an : List UInt8) (apt : Int) (z : Int) (w : World) (hms : Sl w [] 1 Ams ms.length cms (ms.map I)) (hlu_n : lu.length ≤ 9223372036854775807) (hlw_n : lw.length ≤ 9223372036854775807) (haq : Sl w [] 1 Aaq aq.length caq (aq.map I)) (han_n : an.length ≤ 9223372036854775807) (hz : 0 ≤ z ∧ z ≤ 1099511627776) : Does Tryd.prog 11 [.agg #[.slice Ams ms.length cms, Str lu, Str lw, I ak, .slice Aaq aq.length caq, Str an, I apt], I z] w (fun v w' => ∃ r : Int, v = .int .i64 r ∧ (r < 0 ∨ ((ms.length : Int) ≤ z ∧ (lu.length : Int) ≤ z ∧ (lw.length : Int) ≤ z ∧ (aq.length : Int) ≤ z ∧ (an.length : Int) ≤ z)) ∧ SH w w' [] []) := by
 refine fn_enter (N := 24) Tryd.func11 rfl (by kernel_rfl) rfl rfl rfl ?_
 have hs0 : SH w w [] [] := SH.refl w []
 have hms_m : ms.length ≤ 9223372036854775807 := Nat.le_trans hms.cap hms.capMax
 have haq_m : aq.length ≤ 9223372036854775807 := Nat.le_trans haq.cap haq.capMax
 refine sq ?_
 refine rg ?_
 refine bx (v := .agg #[.slice Ams ms.length cms, Str lu, Str lw, I ak, .slice Aaq aq.length caq, Str an, I apt]) (cs := [.slice Ams ms.length cms, Str lu, Str lw, I ak, .slice Aaq aq.length caq, Str an, I apt]) hs0 rfl rfl trivial rfl (fun b1 w1 (hs1 : SH w w1 [] [.blk b1 36 [.slice Ams ms.length cms, Str lu, Str lw, I ak, .slice Aaq aq.length caq, Str an, I apt]]) => ?_)
 refine q trivial rfl rfl (asg (v := I 0) rfl) ?_
 refine nl ?_
 refine nN ?_
 refine sq ?_
 refine rg ?_
 refine q trivial rfl rfl (fa 0 fo36_0 rfl) ?_
 refine q trivial rfl rfl (ld (v := .slice Ams ms.length cms) hs1 0 rfl rfl rfl one23) ?_
 refine q trivial rfl rfl (mv (v := I z) rfl) ?_
 refine cl trivial rfl (szIntS (Axs := Ams) (cxs := cms) (xs := ms) (z := z) (w := _) (hxs := (hms.up0 hs1)) (hz := (by first | (first | omega | assumption | (simp; done) | (simp; omega)) | (have hsz1 := szI_bd (n := ms.length) (z := z) (by omega); first | omega | assumption | (simp; done) | (simp; omega))))) ?_
 rintro _ w2 ⟨rfl, hs2'⟩
 have hs2 : SH w w2 [] [.blk b1 36 [.slice Ams ms.length cms, Str lu, Str lw, I ak, .slice Aaq aq.length caq, Str an, I apt]] := hs1.call0 hs2'
 clear hs2'
 refine q trivial rfl rfl (asg (v := I (szI ms.length z)) rfl) ?_
 refine nl ?_
 refine nN ?_
 refine sq ?_
 refine sq ?_
 refine rg ?_
 refine q trivial rfl rfl (mv (v := I (szI ms.length z)) rfl) ?_
 refine q trivial rfl rfl (lss (k := .i64) (a := szI ms.length z) (b := 0) rfl rfl) ?_
 refine nl ?_
 refine nN ?_
 refine cdd (p := (szI ms.length z) < 0) rfl (fun h1 => ?_) (fun h1 => ?_)
 · refine sq ?_
   refine rg ?_
   refine q trivial rfl rfl (asg (v := I (-1)) rfl) ?_
   refine nl ?_
   refine nN ?_
   refine rt (tR ?_)
   refine fret (v := I (-1)) (.tmp .nil) rfl ?_
   exact ⟨(-1), rfl, (by have hsz1 := szI_bd (n := ms.length) (z := z) (by omega); first | omega | (have hsz2 := szI_nn (n := ms.length) (z := z) (by omega); omega)), (hs2.pick [] rfl (by decide))⟩
 · refine sk ?_
   refine nN ?_
   refine sq ?_
   refine rg ?_
   refine q trivial rfl rfl (fa 1 fo36_1 rfl) ?_
   refine q trivial rfl rfl (ldg (vs := [Str lu, Str lw]) hs2 0 rfl rfl rfl rfl ag33) ?_
   refine q trivial rfl rfl (mv (v := I (szI ms.length z)) rfl) ?_
   refine cl trivial rfl (szLogin (lu := lu) (lw := lw) (z := szI ms.length z) (w := _) (hlu_n := (by first | (first | omega | (simp; done) | (simp; omega)) | (have hsz1 := szI_bd (n := ms.length) (z := z) (by omega); first | omega | (simp; done) | (simp; omega)))) (hlw_n := (by first | (first | omega | (simp; done) | (simp; omega)) | (have hsz1 := szI_bd (n := ms.length) (z := z) (by omega); first | omega | (simp; done) | (simp; omega)))) (hz := (by first | (first | omega | assumption | (simp; done) | (simp; omega)) | (have hsz1 := szI_bd (n := ms.length) (z := z) (by omega); first | omega | assumption | (simp; done) | (simp; omega))))) ?_
   rintro _ w3 ⟨r1, rfl, p1, p2, hs3'⟩
   have hs3 : SH w w3 [] [.blk b1 36 [.slice Ams ms.length cms, Str lu, Str lw, I ak, .slice Aaq aq.length caq, Str an, I apt]] := hs2.call0 hs3'
   clear hs3'
   refine q trivial rfl rfl (asg (v := I r1) rfl) ?_
   refine nl ?_
   refine nN ?_
   refine sq ?_
   refine sq ?_
   refine rg ?_
   refine q trivial rfl rfl (mv (v := I r1) rfl) ?_
   refine q trivial rfl rfl (lss (k := .i64) (a := r1) (b := 0) rfl rfl) ?_
   refine nl ?_
   refine nN ?_
   refine cdd (p := r1 < 0) rfl (fun h2 => ?_) (fun h2 => ?_)
   · refine sq ?_
     refine rg ?_
     refine q trivial rfl rfl (asg (v := I (-1)) rfl) ?_
     refine nl ?_
     refine nN ?_
     refine rt (tR ?_)
     refine fret (v := I (-1)) (.tmp .nil) rfl ?_
     exact ⟨(-1), rfl, (by have hsz1 := szI_bd (n := ms.length) (z := z) (by omega); first | omega | (have hsz2 := szI_nn (n := ms.length) (z := z) (by omega); omega)), (hs3.pick [] rfl (by decide))⟩
   · refine sk ?_
     refine nN ?_
     refine sq ?_
     refine rg ?_
     refine q trivial rfl rfl (fa 3 fo36_2 rfl) ?_
     refine q trivial rfl rfl (ldg (vs := [I ak, .slice Aaq aq.length caq, Str an, I apt]) hs3 0 rfl rfl rfl rfl ag34) ?_
     refine q trivial rfl rfl (mv (v := I r1) rfl) ?_
     refine cl trivial rfl (szAddress (ak := ak) (Aaq := Aaq) (caq := caq) (aq := aq) (an := an) (apt := apt) (z := r1) (w := _) (haq := (haq.up0 hs3)) (han_n := (by first | (first | omega | (simp; done) | (simp; omega)) | (have hsz1 := szI_bd (n := ms.length) (z := z) (by omega); first | omega | (simp; done) | (simp; omega)))) (hz := (by first | (first | omega | assumption | (simp; done) | (simp; omega)) | (have hsz1 := szI_bd (n := ms.length) (z := z) (by omega); first | omega | assumption | (simp; done) | (simp; omega))))) ?_
     rintro _ w4 ⟨r2, rfl, p3, p4, hs4'⟩
     have hs4 : SH w w4 [] [.blk b1 36 [.slice Ams ms.length cms, Str lu, Str lw, I ak, .slice Aaq aq.length caq, Str an, I apt]] := hs3.call0 hs4'
     clear hs4'
     refine q trivial rfl rfl (asg (v := I r2) rfl) ?_
     refine nl ?_
     refine nN ?_
     refine sq ?_
     refine sq ?_
     refine rg ?_
     refine q trivial rfl rfl (mv (v := I r2) rfl) ?_
     refine q trivial rfl rfl (lss (k := .i64) (a := r2) (b := 0) rfl rfl) ?_
     refine nl ?_
     refine nN ?_
     refine cdd (p := r2 < 0) rfl (fun h3 => ?_) (fun h3 => ?_)
     · refine sq ?_
       refine rg ?_
       refine q trivial rfl rfl (asg (v := I (-1)) rfl) ?_
       refine nl ?_
       refine nN ?_
       refine rt (tR ?_)
       refine fret (v := I (-1)) (.tmp .nil) rfl ?_
       exact ⟨(-1), rfl, (by have hsz1 := szI_bd (n := ms.length) (z := z) (by omega); first | omega | (have hsz2 := szI_nn (n := ms.length) (z := z) (by omega); omega)), (hs4.pick [] rfl (by decide))⟩
     · refine sk ?_
       refine nN ?_
       refine sq ?_
       refine rg ?_
       refine q trivial rfl rfl (mv (v := I r2) rfl) ?_
       refine q trivial rfl rfl (asg (v := I r2) rfl) ?_
       refine nl ?_
       refine nN ?_
       refine rt ?_
       refine fret (v := I r2) (.tmp .nil) rfl ?_
       exact ⟨r2, rfl, (by have hsz1 := szI_bd (n := ms.length) (z := z) (by omega); first | omega | (have hsz2 := szI_nn (n := ms.length) (z := z) (by omega); omega)), (hs4.pick [] rfl (by decide))⟩

theorem toLogin (lu : List UInt8) (lw : List UInt8) (w : World)  : Does Tryd.prog 39 [.agg #[Str lu, Str lw]] w (fun v w' => v = .agg #[Str lu, Str lw] ∧ SH w w' [] []) := by
 refine fn_enter (N := 11) Tryd.func39 rfl (by kernel_rfl) rfl rfl rfl ?_
 have hs0 : SH w w [] [] := SH.refl w []
 refine sq ?_
 refine rg ?_
 refine bx (v := .agg #[Str lu, Str lw]) (cs := [Str lu, Str lw]) hs0 rfl rfl trivial rfl (fun b1 w1 (hs1 : SH w w1 [] [.blk b1 33 [Str lu, Str lw]]) => ?_)
 refine al (v := .agg #[Str [], Str []]) (cs := [Str [], Str []]) hs1 tz25 rfl trivial rfl (fun b2 w2 (hs2 : SH w w2 [] [.blk b1 33 [Str lu, Str lw], .blk b2 25 [Str [], Str []]]) => ?_)
 refine nl ?_
 refine nN ?_
 refine sq ?_
 refine rg ?_
 refine al (v := .agg #[Str [], Str []]) (cs := [Str [], Str []]) hs2 tz25 rfl trivial rfl (fun b3 w3 (hs3 : SH w w3 [] [.blk b1 33 [Str lu, Str lw], .blk b2 25 [Str [], Str []], .blk b3 25 [Str [], Str []]]) => ?_)
 refine nl ?_
 refine nN ?_
 refine sq ?_
 refine rg ?_
 refine q trivial rfl rfl (fa 0 fo33_0 rfl) ?_
 refine q trivial rfl rfl (ld (v := Str lu) hs3 0 rfl rfl rfl one9) ?_
 refine q trivial rfl rfl (fa 0 fo25_0 rfl) ?_
 refine st (v := Str lu) hs3 2 rfl rfl rfl rfl rfl one9 trivial (fun w4 (hs4 : SH w w4 [] [.blk b1 33 [Str lu, Str lw], .blk b2 25 [Str [], Str []], .blk b3 25 [Str lu, Str []]]) => ?_)
 refine nl ?_
 refine nN ?_
 refine sq ?_
 refine rg ?_
 refine q trivial rfl rfl (fa 1 fo33_1 rfl) ?_
 refine q trivial rfl rfl (ld (v := Str lw) hs4 0 rfl rfl rfl one9) ?_
 refine q trivial rfl rfl (fa 1 fo25_1 rfl) ?_
 refine st (v := Str lw) hs4 2 rfl rfl rfl rfl rfl one9 trivial (fun w5 (hs5 : SH w w5 [] [.blk b1 33 [Str lu, Str lw], .blk b2 25 [Str [], Str []], .blk b3 25 [Str lu, Str lw]]) => ?_)
 refine nl ?_
 refine nN ?_
 refine sq ?_
 refine rg ?_
 refine q trivial rfl rfl (ldg (vs := [Str lu, Str lw]) hs5 2 rfl rfl rfl rfl ag25) ?_
 refine stg (vs := [Str lu, Str lw]) hs5 1 rfl rfl rfl rfl rfl rfl rfl ag25 trivial (fun w6 (hs6 : SH w w6 [] [.blk b1 33 [Str lu, Str lw], .blk b3 25 [Str lu, Str lw], .blk b2 25 [Str lu, Str lw]]) => ?_)
 refine nl ?_
 refine nN ?_
 refine rt ?_
 refine fret (v := .agg #[Str lu, Str lw]) (resC hs6 2 rfl rfl ag25 rfl .nil) rfl ?_
 exact ⟨rfl, (hs6.pick [] rfl (by decide))⟩

theorem toAddress (ak : Int) {Aaq : Option Addr} {caq : Nat} (aq : List Int) (an : List UInt8) (apt : Int) (w : World) (haq : Sl w [] 1 Aaq aq.length caq (aq.map I)) (haq_n : aq.length ≤ 1099511627776) : Does Tryd.prog 40 [.agg #[I ak, .slice Aaq aq.length caq, Str an, I apt]] w (fun v w' => ∃ Aqr : Option Addr, ∃ cqr : Nat, v = .agg #[.int .i64 ak, .slice Aqr aq.length cqr, Str an, .int .i64 apt] ∧ SH w w' [] [.own Aqr aq.length cqr 3 1 (aq.map I)]) := by
 refine fn_enter (N := 18) Tryd.func40 rfl (by kernel_rfl) rfl rfl rfl ?_
 have hs0 : SH w w [] [] := SH.refl w []
 have haq_m : aq.length ≤ 9223372036854775807 := Nat.le_trans haq.cap haq.capMax
 refine sq ?_
 refine rg ?_
 refine bx (v := .agg #[I ak, .slice Aaq aq.length caq, Str an, I apt]) (cs := [I ak, .slice Aaq aq.length caq, Str an, I apt]) hs0 rfl rfl trivial rfl (fun b1 w1 (hs1 : SH w w1 [] [.blk b1 34 [I ak, .slice Aaq aq.length caq, Str an, I apt]]) => ?_)
 refine al (v := .agg #[I 0, ns, Str [], I 0]) (cs := [I 0, ns, Str [], I 0]) hs1 tz27 rfl trivial rfl (fun b2 w2 (hs2 : SH w w2 [] [.blk b1 34 [I ak, .slice Aaq aq.length caq, Str an, I apt], .blk b2 27 [I 0, ns, Str [], I 0]]) => ?_)
 refine nl ?_
 refine nN ?_
 refine sq ?_
 refine rg ?_
 refine al (v := .agg #[I 0, ns, Str [], I 0]) (cs := [I 0, ns, Str [], I 0]) hs2 tz27 rfl trivial rfl (fun b3 w3 (hs3 : SH w w3 [] [.blk b1 34 [I ak, .slice Aaq aq.length caq, Str an, I apt], .blk b2 27 [I 0, ns, Str [], I 0], .blk b3 27 [I 0, ns, Str [], I 0]]) => ?_)
 refine nl ?_
 refine nN ?_
 refine sq ?_
 refine rg ?_
 refine q trivial rfl rfl (fa 0 fo34_0 rfl) ?_
 refine q trivial rfl rfl (ld (v := I ak) hs3 0 rfl rfl rfl one3) ?_
 refine q trivial rfl rfl (fa 0 fo27_0 rfl) ?_
 refine st (v := I ak) hs3 2 rfl rfl rfl rfl rfl one3 trivial (fun w4 (hs4 : SH w w4 [] [.blk b1 34 [I ak, .slice Aaq aq.length caq, Str an, I apt], .blk b2 27 [I 0, ns, Str [], I 0], .blk b3 27 [I ak, ns, Str [], I 0]]) => ?_)
 refine nl ?_
 refine nN ?_
 refine sq ?_
 refine rg ?_
 refine q trivial rfl rfl (fa 1 fo34_1 rfl) ?_
 refine q trivial rfl rfl (ld (v := .slice Aaq aq.length caq) hs4 0 rfl rfl rfl one23) ?_
 refine cl trivial rfl (toIntS (Axs := Aaq) (cxs := caq) (xs := aq) (w := _) (hxs := (haq.up0 hs4)) (hxs_n := (by first | omega | (simp; done) | (simp; omega)))) ?_
 rintro _ w5 ⟨A1, c1, rfl, hs5'⟩
 have hs5 : SH w w5 [] [.blk b1 34 [I ak, .slice Aaq aq.length caq, Str an, I apt], .blk b2 27 [I 0, ns, Str [], I 0], .blk b3 27 [I ak, ns, Str [], I 0], .own A1 aq.length c1 3 1 (aq.map I)] := hs4.call0 hs5'
 clear hs5'
 refine q trivial rfl rfl (fa 1 fo27_1 rfl) ?_
 refine st (v := .slice A1 aq.length c1) hs5 2 rfl rfl rfl rfl rfl one23 trivial (fun w6 (hs6 : SH w w6 [] [.blk b1 34 [I ak, .slice Aaq aq.length caq, Str an, I apt], .blk b2 27 [I 0, ns, Str [], I 0], .own A1 aq.length c1 3 1 (aq.map I), .blk b3 27 [I ak, .slice A1 aq.length c1, Str [], I 0]]) => ?_)
 refine nl ?_
 refine nN ?_
 refine sq ?_
 refine rg ?_
 refine q trivial rfl rfl (fa 2 fo34_2 rfl) ?_
 refine q trivial rfl rfl (ld (v := Str an) hs6 0 rfl rfl rfl one9) ?_
 refine q trivial rfl rfl (fa 2 fo27_2 rfl) ?_
 refine st (v := Str an) hs6 3 rfl rfl rfl rfl rfl one9 trivial (fun w7 (hs7 : SH w w7 [] [.blk b1 34 [I ak, .slice Aaq aq.length caq, Str an, I apt], .blk b2 27 [I 0, ns, Str [], I 0], .own A1 aq.length c1 3 1 (aq.map I), .blk b3 27 [I ak, .slice A1 aq.length c1, Str an, I 0]]) => ?_)
 refine nl ?_
 refine nN ?_
 refine sq ?_
 refine rg ?_
 refine q trivial rfl rfl (fa 3 fo34_3 rfl) ?_
 refine q trivial rfl rfl (ld (v := I apt) hs7 0 rfl rfl rfl one3) ?_
 refine q trivial rfl rfl (fa 3 fo27_3 rfl) ?_
 refine st (v := I apt) hs7 3 rfl rfl rfl rfl rfl one3 trivial (fun w8 (hs8 : SH w w8 [] [.blk b1 34 [I ak, .slice Aaq aq.length caq, Str an, I apt], .blk b2 27 [I 0, ns, Str [], I 0], .own A1 aq.length c1 3 1 (aq.map I), .blk b3 27 [I ak, .slice A1 aq.length c1, Str an, I apt]]) => ?_)
 refine nl ?_
 refine nN ?_
 refine sq ?_
 refine rg ?_
 refine q trivial rfl rfl (ldg (vs := [I ak, .slice A1 aq.length c1, Str an, I apt]) hs8 3 rfl rfl rfl rfl ag27) ?_
 refine stg (vs := [I ak, .slice A1 aq.length c1, Str an, I apt]) hs8 1 rfl rfl rfl rfl rfl rfl rfl ag27 trivial (fun w9 (hs9 : SH w w9 [] [.blk b1 34 [I ak, .slice Aaq aq.length caq, Str an, I apt], .own A1 aq.length c1 3 1 (aq.map I), .blk b3 27 [I ak, .slice A1 aq.length c1, Str an, I apt], .blk b2 27 [I ak, .slice A1 aq.length c1, Str an, I apt]]) => ?_)
 refine nl ?_
 refine nN ?_
 have hs10 : SH w w9 [] [.own A1 aq.length c1 3 1 (aq.map I), .blk b2 27 [I ak, .slice A1 aq.length c1, Str an, I apt]] := hs9.pick [1, 3] rfl (by decide)
 refine rt ?_
 refine fret (v := .agg #[I ak, .slice A1 aq.length c1, Str an, I apt]) (resC hs10 1 rfl rfl ag27 rfl .nil) rfl ?_
 exact ⟨A1, c1, rfl, (hs10.pick [0] rfl (by decide))⟩

theorem toClient {Ams : Option Addr} {cms : Nat} (ms : List Int) (lu : List UInt8) (lw : List UInt8) (ak : Int) {Aaq : Option Addr} {caq : Nat} (aq : List Int) (an : List UInt8) (apt : Int) (w : World) (hms : Sl w [] 1 Ams ms.length cms (ms.map I)) (hms_n : ms.length ≤ 1099511627776) (haq : Sl w [] 1 Aaq aq.length caq (aq.map I)) (haq_n : aq.length ≤ 1099511627776) : Does Tryd.prog 12 [.agg #[.slice Ams ms.length cms, Str lu, Str lw, I ak, .slice Aaq aq.length caq, Str an, I apt]] w (fun v w' => ∃ Amr : Option Addr, ∃ cmr : Nat, ∃ Aqr : Option Addr, ∃ cqr : Nat, v = .agg #[.slice Amr ms.length cmr, Str lu, Str lw, .int .i64 ak, .slice Aqr aq.length cqr, Str an, .int .i64 apt] ∧ SH w w' [] [.own Amr ms.length cmr 3 1 (ms.map I), .own Aqr aq.length cqr 3 1 (aq.map I)]) := by
 refine fn_enter (N := 17) Tryd.func12 rfl (by kernel_rfl) rfl rfl rfl ?_
 have hs0 : SH w w [] [] := SH.refl w []
 have hms_m : ms.length ≤ 9223372036854775807 := Nat.le_trans hms.cap hms.capMax
 have haq_m : aq.length ≤ 9223372036854775807 := Nat.le_trans haq.cap haq.capMax
 refine sq ?_
 refine rg ?_
 refine bx (v := .agg #[.slice Ams ms.length cms, Str lu, Str lw, I ak, .slice Aaq aq.length caq, Str an, I apt]) (cs := [.slice Ams ms.length cms, Str lu, Str lw, I ak, .slice Aaq aq.length caq, Str an, I apt]) hs0 rfl rfl trivial rfl (fun b1 w1 (hs1 : SH w w1 [] [.blk b1 36 [.slice Ams ms.length cms, Str lu, Str lw, I ak, .slice Aaq aq.length caq, Str an, I apt]]) => ?_)
 refine al (v := .agg #[ns, Str [], Str [], I 0, ns, Str [], I 0]) (cs := [ns, Str [], Str [], I 0, ns, Str [], I 0]) hs1 tz29 rfl trivial rfl (fun b2 w2 (hs2 : SH w w2 [] [.blk b1 36 [.slice Ams ms.length cms, Str lu, Str lw, I ak, .slice Aaq aq.length caq, Str an, I apt], .blk b2 29 [ns, Str [], Str [], I 0, ns, Str [], I 0]]) => ?_)
 refine nl ?_
 refine nN ?_
 refine sq ?_
 refine rg ?_
 refine al (v := .agg #[ns, Str [], Str [], I 0, ns, Str [], I 0]) (cs := [ns, Str [], Str [], I 0, ns, Str [], I 0]) hs2 tz29 rfl trivial rfl (fun b3 w3 (hs3 : SH w w3 [] [.blk b1 36 [.slice Ams ms.length cms, Str lu, Str lw, I ak, .slice Aaq aq.length caq, Str an, I apt], .blk b2 29 [ns, Str [], Str [], I 0, ns, Str [], I 0], .blk b3 29 [ns, Str [], Str [], I 0, ns, Str [], I 0]]) => ?_)
 refine nl ?_
 refine nN ?_
 refine sq ?_
 refine rg ?_
 refine q trivial rfl rfl (fa 0 fo36_0 rfl) ?_
 refine q trivial rfl rfl (ld (v := .slice Ams ms.length cms) hs3 0 rfl rfl rfl one23) ?_
 refine cl trivial rfl (toIntS (Axs := Ams) (cxs := cms) (xs := ms) (w := _) (hxs := (hms.up0 hs3)) (hxs_n := (by first | omega | (simp; done) | (simp; omega)))) ?_
 rintro _ w4 ⟨A1, c1, rfl, hs4'⟩
 have hs4 : SH w w4 [] [.blk b1 36 [.slice Ams ms.length cms, Str lu, Str lw, I ak, .slice Aaq aq.length caq, Str an, I apt], .blk b2 29 [ns, Str [], Str [], I 0, ns, Str [], I 0], .blk b3 29 [ns, Str [], Str [], I 0, ns, Str [], I 0], .own A1 ms.length c1 3 1 (ms.map I)] := hs3.call0 hs4'
 clear hs4'
 refine q trivial rfl rfl (fa 0 fo29_0 rfl) ?_
 refine st (v := .slice A1 ms.length c1) hs4 2 rfl rfl rfl rfl rfl one23 trivial (fun w5 (hs5 : SH w w5 [] [.blk b1 36 [.slice Ams ms.length cms, Str lu, Str lw, I ak, .slice Aaq aq.length caq, Str an, I apt], .blk b2 29 [ns, Str [], Str [], I 0, ns, Str [], I 0], .own A1 ms.length c1 3 1 (ms.map I), .blk b3 29 [.slice A1 ms.length c1, Str [], Str [], I 0, ns, Str [], I 0]]) => ?_)
 refine nl ?_
 refine nN ?_
 refine sq ?_
 refine rg ?_
 refine q trivial rfl rfl (fa 1 fo36_1 rfl) ?_
 refine q trivial rfl rfl (ldg (vs := [Str lu, Str lw]) hs5 0 rfl rfl rfl rfl ag33) ?_
 refine cl trivial rfl (toLogin (lu := lu) (lw := lw) (w := _)) ?_
 rintro _ w6 ⟨rfl, hs6'⟩
 have hs6 : SH w w6 [] [.blk b1 36 [.slice Ams ms.length cms, Str lu, Str lw, I ak, .slice Aaq aq.length caq, Str an, I apt], .blk b2 29 [ns, Str [], Str [], I 0, ns, Str [], I 0], .own A1 ms.length c1 3 1 (ms.map I), .blk b3 29 [.slice A1 ms.length c1, Str [], Str [], I 0, ns, Str [], I 0]] := hs5.call0 hs6'
 clear hs6'
 refine q trivial rfl rfl (fa 1 fo29_1 rfl) ?_
 refine stg (vs := [Str lu, Str lw]) hs6 3 rfl rfl rfl rfl rfl rfl rfl ag25 trivial (fun w7 (hs7 : SH w w7 [] [.blk b1 36 [.slice Ams ms.length cms, Str lu, Str lw, I ak, .slice Aaq aq.length caq, Str an, I apt], .blk b2 29 [ns, Str [], Str [], I 0, ns, Str [], I 0], .own A1 ms.length c1 3 1 (ms.map I), .blk b3 29 [.slice A1 ms.length c1, Str lu, Str lw, I 0, ns, Str [], I 0]]) => ?_)
 refine nl ?_
 refine nN ?_
 refine sq ?_
 refine rg ?_
 refine q trivial rfl rfl (fa 3 fo36_2 rfl) ?_
 refine q trivial rfl rfl (ldg (vs := [I ak, .slice Aaq aq.length caq, Str an, I apt]) hs7 0 rfl rfl rfl rfl ag34) ?_
 refine cl trivial rfl (toAddress (ak := ak) (Aaq := Aaq) (caq := caq) (aq := aq) (an := an) (apt := apt) (w := _) (haq := (haq.up0 hs7)) (haq_n := (by first | omega | (simp; done) | (simp; omega)))) ?_
 rintro _ w8 ⟨Aq1, cq1, rfl, hs8'⟩
 have hs8 : SH w w8 [] [.blk b1 36 [.slice Ams ms.length cms, Str lu, Str lw, I ak, .slice Aaq aq.length caq, Str an, I apt], .blk b2 29 [ns, Str [], Str [], I 0, ns, Str [], I 0], .own A1 ms.length c1 3 1 (ms.map I), .blk b3 29 [.slice A1 ms.length c1, Str lu, Str lw, I 0, ns, Str [], I 0], .own Aq1 aq.length cq1 3 1 (aq.map I)] := hs7.call0 hs8'
 clear hs8'
 refine q trivial rfl rfl (fa 3 fo29_2 rfl) ?_
 refine stg (vs := [I ak, .slice Aq1 aq.length cq1, Str an, I apt]) hs8 3 rfl rfl rfl rfl rfl rfl rfl ag27 trivial (fun w9 (hs9 : SH w w9 [] [.blk b1 36 [.slice Ams ms.length cms, Str lu, Str lw, I ak, .slice Aaq aq.length caq, Str an, I apt], .blk b2 29 [ns, Str [], Str [], I 0, ns, Str [], I 0], .own A1 ms.length c1 3 1 (ms.map I), .own Aq1 aq.length cq1 3 1 (aq.map I), .blk b3 29 [.slice A1 ms.length c1, Str lu, Str lw, I ak, .slice Aq1 aq.length cq1, Str an, I apt]]) => ?_)
 refine nl ?_
 refine nN ?_
 refine sq ?_
 refine rg ?_
 refine q trivial rfl rfl (ldg (vs := [.slice A1 ms.length c1, Str lu, Str lw, I ak, .slice Aq1 aq.length cq1, Str an, I apt]) hs9 4 rfl rfl rfl rfl ag29) ?_
 refine stg (vs := [.slice A1 ms.length c1, Str lu, Str lw, I ak, .slice Aq1 aq.length cq1, Str an, I apt]) hs9 1 rfl rfl rfl rfl rfl rfl rfl ag29 trivial (fun w10 (hs10 : SH w w10 [] [.blk b1 36 [.slice Ams ms.length cms, Str lu, Str lw, I ak, .slice Aaq aq.length caq, Str an, I apt], .own A1 ms.length c1 3 1 (ms.map I), .own Aq1 aq.length cq1 3 1 (aq.map I), .blk b3 29 [.slice A1 ms.length c1, Str lu, Str lw, I ak, .slice Aq1 aq.length cq1, Str an, I apt], .blk b2 29 [.slice A1 ms.length c1, Str lu, Str lw, I ak, .slice Aq1 aq.length cq1, Str an, I apt]]) => ?_)
 refine nl ?_
 refine nN ?_
 have hs11 : SH w w10 [] [.own A1 ms.length c1 3 1 (ms.map I), .own Aq1 aq.length cq1 3 1 (aq.map I), .blk b2 29 [.slice A1 ms.length c1, Str lu, Str lw, I ak, .slice Aq1 aq.length cq1, Str an, I apt]] := hs10.pick [1, 2, 4] rfl (by decide)
 refine rt ?_
 refine fret (v := .agg #[.slice A1 ms.length c1, Str lu, Str lw, I ak, .slice Aq1 aq.length cq1, Str an, I apt]) (resC hs11 2 rfl rfl ag29 rfl .nil) rfl ?_
 exact ⟨A1, c1, Aq1, cq1, rfl, (hs11.pick [0, 1] rfl (by decide))⟩

theorem eqLogin (u1 : List UInt8) (p1 : List UInt8) (u2 : List UInt8) (p2 : List UInt8) (w : World)  : Does Tryd.prog 41 [.agg #[Str u1, Str p1], .agg #[Str u2, Str p2]] w (fun v w' => v = .bool (decide (u1 = u2 ∧ p1 = p2)) ∧ SH w w' [] []) := by
 refine fn_enter (N := 15) Tryd.func41 rfl (by kernel_rfl) rfl rfl rfl ?_
 have hs0 : SH w w [] [] := SH.refl w []
 refine sq ?_
 refine rg ?_
 refine bx (v := .agg #[Str u1, Str p1]) (cs := [Str u1, Str p1]) hs0 rfl rfl trivial rfl (fun b1 w1 (hs1 : SH w w1 [] [.blk b1 25 [Str u1, Str p1]]) => ?_)
 refine bx (v := .agg #[Str u2, Str p2]) (cs := [Str u2, Str p2]) hs1 rfl rfl trivial rfl (fun b2 w2 (hs2 : SH w w2 [] [.blk b1 25 [Str u1, Str p1], .blk b2 25 [Str u2, Str p2]]) => ?_)
 refine q trivial rfl rfl (asg (v := .bool false) rfl) ?_
 refine nl ?_
 refine nN ?_
 refine sq ?_
 refine sq ?_
 refine rg ?_
 refine q trivial rfl rfl (fa 0 fo25_0 rfl) ?_
 refine q trivial rfl rfl (ld (v := Str u1) hs2 0 rfl rfl rfl one9) ?_
 refine q trivial rfl rfl (fa 0 fo25_0 rfl) ?_
 refine q trivial rfl rfl (ld (v := Str u2) hs2 1 rfl rfl rfl one9) ?_
 refine q trivial rfl rfl (nes (l := u1) (m := u2) rfl rfl) ?_
 refine nl ?_
 refine nN ?_
 refine cdd (p := u1 ≠ u2) rfl (fun h1 => ?_) (fun h1 => ?_)
 · refine sq ?_
   refine rg ?_
   refine q trivial rfl rfl (asg (v := .bool false) rfl) ?_
   refine nl ?_
   refine nN ?_
   refine rt (tR ?_)
   refine fret (v := .bool false) (.tmp .nil) rfl ?_
   have e1 : false = (decide (u1 = u2 ∧ p1 = p2)) := by simp [h1] <;> simp_all
   exact ⟨(congrArg (Value.bool) e1), (hs2.pick [] rfl (by decide))⟩
 · refine sk ?_
   refine nN ?_
   refine sq ?_
   refine sq ?_
   refine rg ?_
   refine q trivial rfl rfl (fa 1 fo25_1 rfl) ?_
   refine q trivial rfl rfl (ld (v := Str p1) hs2 0 rfl rfl rfl one9) ?_
   refine q trivial rfl rfl (fa 1 fo25_1 rfl) ?_
   refine q trivial rfl rfl (ld (v := Str p2) hs2 1 rfl rfl rfl one9) ?_
   refine q trivial rfl rfl (nes (l := p1) (m := p2) rfl rfl) ?_
   refine nl ?_
   refine nN ?_
   refine cdd (p := p1 ≠ p2) rfl (fun h2 => ?_) (fun h2 => ?_)
   · refine sq ?_
     refine rg ?_
     refine q trivial rfl rfl (asg (v := .bool false) rfl) ?_
     refine nl ?_
     refine nN ?_
     refine rt (tR ?_)
     refine fret (v := .bool false) (.tmp .nil) rfl ?_
     have e2 : false = (decide (u1 = u2 ∧ p1 = p2)) := by simp [h1, h2] <;> simp_all
     exact ⟨(congrArg (Value.bool) e2), (hs2.pick [] rfl (by decide))⟩
   · refine sk ?_
     refine nN ?_
     refine sq ?_
     refine rg ?_
     refine q trivial rfl rfl (asg (v := .bool true) rfl) ?_
     refine nl ?_
     refine nN ?_
     refine rt ?_
     refine fret (v := .bool true) (.tmp .nil) rfl ?_
     have e3 : true = (decide (u1 = u2 ∧ p1 = p2)) := by simp [h1, h2] <;> simp_all
     exact ⟨(congrArg (Value.bool) e3), (hs2.pick [] rfl (by decide))⟩

theorem eqAddress (ka : Int) {Aqa : Option Addr} {cqa : Nat} (qa : List Int) (na : List UInt8) (pa : Int) (kb : Int) {Aqb : Option Addr} {cqb : Nat} (qb : List Int) (nb : List UInt8) (pb : Int) (w : World) (hqa : Sl w [] 1 Aqa qa.length cqa (qa.map I)) (hqb : Sl w [] 1 Aqb qb.length cqb (qb.map I)) : Does Tryd.prog 42 [.agg #[I ka, .slice Aqa qa.length cqa, Str na, I pa], .agg #[I kb, .slice Aqb qb.length cqb, Str nb, I pb]] w (fun v w' => v = .bool (decide (ka = kb ∧ qa = qb ∧ na = nb ∧ pa = pb)) ∧ SH w w' [] []) := by
 refine fn_enter (N := 26) Tryd.func42 rfl (by kernel_rfl) rfl rfl rfl ?_
 have hs0 : SH w w [] [] := SH.refl w []
 have hqa_m : qa.length ≤ 9223372036854775807 := Nat.le_trans hqa.cap hqa.capMax
 have hqb_m : qb.length ≤ 9223372036854775807 := Nat.le_trans hqb.cap hqb.capMax
 refine sq ?_
 refine rg ?_
 refine bx (v := .agg #[I ka, .slice Aqa qa.length cqa, Str na, I pa]) (cs := [I ka, .slice Aqa qa.length cqa, Str na, I pa]) hs0 rfl rfl trivial rfl (fun b1 w1 (hs1 : SH w w1 [] [.blk b1 27 [I ka, .slice Aqa qa.length cqa, Str na, I pa]]) => ?_)
 refine bx (v := .agg #[I kb, .slice Aqb qb.length cqb, Str nb, I pb]) (cs := [I kb, .slice Aqb qb.length cqb, Str nb, I pb]) hs1 rfl rfl trivial rfl (fun b2 w2 (hs2 : SH w w2 [] [.blk b1 27 [I ka, .slice Aqa qa.length cqa, Str na, I pa], .blk b2 27 [I kb, .slice Aqb qb.length cqb, Str nb, I pb]]) => ?_)
 refine q trivial rfl rfl (asg (v := .bool false) rfl) ?_
 refine nl ?_
 refine nN ?_
 refine sq ?_
 refine sq ?_
 refine rg ?_
 refine q trivial rfl rfl (fa 0 fo27_0 rfl) ?_
 refine q trivial rfl rfl (ld (v := I ka) hs2 0 rfl rfl rfl one3) ?_
 refine q trivial rfl rfl (fa 0 fo27_0 rfl) ?_
 refine q trivial rfl rfl (ld (v := I kb) hs2 1 rfl rfl rfl one3) ?_
 refine q trivial rfl rfl (nei (k := .i64) (a := ka) (b := kb) rfl rfl) ?_
 refine nl ?_
 refine nN ?_
 refine cdd (p := ka ≠ kb) rfl (fun h1 => ?_) (fun h1 => ?_)
 · refine sq ?_
   refine rg ?_
   refine q trivial rfl rfl (asg (v := .bool false) rfl) ?_
   refine nl ?_
   refine nN ?_
   refine rt (tR ?_)
   refine fret (v := .bool false) (.tmp .nil) rfl ?_
   have e1 : false = (decide (ka = kb ∧ qa = qb ∧ na = nb ∧ pa = pb)) := by simp [h1] <;> simp_all
   exact ⟨(congrArg (Value.bool) e1), (hs2.pick [] rfl (by decide))⟩
 · refine sk ?_
   refine nN ?_
   refine sq ?_
   refine sq ?_
   refine rg ?_
   refine q trivial rfl rfl (fa 1 fo27_1 rfl) ?_
   refine q trivial rfl rfl (ld (v := .slice Aqa qa.length cqa) hs2 0 rfl rfl rfl one23) ?_
   refine q trivial rfl rfl (fa 1 fo27_1 rfl) ?_
   refine q trivial rfl rfl (ld (v := .slice Aqb qb.length cqb) hs2 1 rfl rfl rfl one23) ?_
   refine cl trivial rfl (eqIntS (Axs := Aqa) (cxs := cqa) (xs := qa) (Abs := Aqb) (cbs := cqb) (bs := qb) (w := _) (hxs := (hqa.up0 hs2)) (hbs := (hqb.up0 hs2))) ?_
   rintro _ w3 ⟨rfl, hs3'⟩
   have hs3 : SH w w3 [] [.blk b1 27 [I ka, .slice Aqa qa.length cqa, Str na, I pa], .blk b2 27 [I kb, .slice Aqb qb.length cqb, Str nb, I pb]] := hs2.call0 hs3'
   clear hs3'
   refine q trivial rfl rfl (nd (p := qa = qb) rfl) ?_
   refine nl ?_
   refine nN ?_
   refine cdd (p := ¬ (qa = qb)) rfl (fun h2 => ?_) (fun h2 => ?_)
   · refine sq ?_
     refine rg ?_
     refine q trivial rfl rfl (asg (v := .bool false) rfl) ?_
     refine nl ?_
     refine nN ?_
     refine rt (tR ?_)
     refine fret (v := .bool false) (.tmp .nil) rfl ?_
     have e2 : false = (decide (ka = kb ∧ qa = qb ∧ na = nb ∧ pa = pb)) := by simp [h1, h2] <;> simp_all
     exact ⟨(congrArg (Value.bool) e2), (hs3.pick [] rfl (by decide))⟩
   · refine sk ?_
     refine nN ?_
     refine sq ?_
     refine sq ?_
     refine rg ?_
     refine q trivial rfl rfl (fa 2 fo27_2 rfl) ?_
     refine q trivial rfl rfl (ld (v := Str na) hs3 0 rfl rfl rfl one9) ?_
     refine q trivial rfl rfl (fa 2 fo27_2 rfl) ?_
     refine q trivial rfl rfl (ld (v := Str nb) hs3 1 rfl rfl rfl one9) ?_
     refine q trivial rfl rfl (nes (l := na) (m := nb) rfl rfl) ?_
     refine nl ?_
     refine nN ?_
     refine cdd (p := na ≠ nb) rfl (fun h3 => ?_) (fun h3 => ?_)
     · refine sq ?_
       refine rg ?_
       refine q trivial rfl rfl (asg (v := .bool false) rfl) ?_
       refine nl ?_
       refine nN ?_
       refine rt (tR ?_)
       refine fret (v := .bool false) (.tmp .nil) rfl ?_
       have e3 : false = (decide (ka = kb ∧ qa = qb ∧ na = nb ∧ pa = pb)) := by simp [h1, h2, h3] <;> simp_all
       exact ⟨(congrArg (Value.bool) e3), (hs3.pick [] rfl (by decide))⟩
     · refine sk ?_
       refine nN ?_
       refine sq ?_
       refine sq ?_
       refine rg ?_
       refine q trivial rfl rfl (fa 3 fo27_3 rfl) ?_
       refine q trivial rfl rfl (ld (v := I pa) hs3 0 rfl rfl rfl one3) ?_
       refine q trivial rfl rfl (fa 3 fo27_3 rfl) ?_
       refine q trivial rfl rfl (ld (v := I pb) hs3 1 rfl rfl rfl one3) ?_
       refine q trivial rfl rfl (nei (k := .i64) (a := pa) (b := pb) rfl rfl) ?_
       refine nl ?_
       refine nN ?_
       refine cdd (p := pa ≠ pb) rfl (fun h4 => ?_) (fun h4 => ?_)
       · refine sq ?_
         refine rg ?_
         refine q trivial rfl rfl (asg (v := .bool false) rfl) ?_
         refine nl ?_
         refine nN ?_
         refine rt (tR ?_)
         refine fret (v := .bool false) (.tmp .nil) rfl ?_
         have e4 : false = (decide (ka = kb ∧ qa = qb ∧ na = nb ∧ pa = pb)) := by simp [h1, h2, h3, h4] <;> simp_all
         exact ⟨(congrArg (Value.bool) e4), (hs3.pick [] rfl (by decide))⟩
       · refine sk ?_
         refine nN ?_
         refine sq ?_
         refine rg ?_
         refine q trivial rfl rfl (asg (v := .bool true) rfl) ?_
         refine nl ?_
         refine nN ?_
         refine rt ?_
         refine fret (v := .bool true) (.tmp .nil) rfl ?_
         have e5 : true = (decide (ka = kb ∧ qa = qb ∧ na = nb ∧ pa = pb)) := by simp [h1, h2, h3, h4] <;> simp_all
         exact ⟨(congrArg (Value.bool) e5), (hs3.pick [] rfl (by decide))⟩

theorem eqClient {Ama : Option Addr} {cma : Nat} (ma : List Int) (ua : List UInt8) (wa : List UInt8) (ka : Int) {Aqa : Option Addr} {cqa : Nat} (qa : List Int) (na : List UInt8) (pa : Int) {Amb : Option Addr} {cmb : Nat} (mb : List Int) (ub : List UInt8) (wb : List UInt8) (kb : Int) {Aqb : Option Addr} {cqb : Nat} (qb : List Int) (nb : List UInt8) (pb : Int) (w : World) (hma : Sl w [] 1 Ama ma.length cma (ma.map I)) (hqa : Sl w [] 1 Aqa qa.length cqa (qa.map I)) (hmb : Sl w [] 1 Amb mb.length cmb (mb.map I)) (hqb : Sl w [] 1 Aqb qb.length cqb (qb.map I)) : Does Tryd.prog 13 [.agg #[.slice Ama ma.length cma, Str ua, Str wa, I ka, .slice Aqa qa.length cqa, Str na, I pa], .agg #[.slice Amb mb.length cmb, Str ub, Str wb, I kb, .slice Aqb qb.length cqb, Str nb, I pb]] w (fun v w' => v = .bool (decide (ma = mb ∧ (ua = ub ∧ wa = wb) ∧ (ka = kb ∧ qa = qb ∧ na = nb ∧ pa = pb))) ∧ SH w w' [] []) := by
 refine fn_enter (N := 23) Tryd.func13 rfl (by kernel_rfl) rfl rfl rfl ?_
 have hs0 : SH w w [] [] := SH.refl w []
 have hma_m : ma.length ≤ 9223372036854775807 := Nat.le_trans hma.cap hma.capMax
 have hqa_m : qa.length ≤ 9223372036854775807 := Nat.le_trans hqa.cap hqa.capMax
 have hmb_m : mb.length ≤ 9223372036854775807 := Nat.le_trans hmb.cap hmb.capMax
 have hqb_m : qb.length ≤ 9223372036854775807 := Nat.le_trans hqb.cap hqb.capMax
 refine sq ?_
 refine rg ?_
 refine bx (v := .agg #[.slice Ama ma.length cma, Str ua, Str wa, I ka, .slice Aqa qa.length cqa, Str na, I pa]) (cs := [.slice Ama ma.length cma, Str ua, Str wa, I ka, .slice Aqa qa.length cqa, Str na, I pa]) hs0 rfl rfl trivial rfl (fun b1 w1 (hs1 : SH w w1 [] [.blk b1 29 [.slice Ama ma.length cma, Str ua, Str wa, I ka, .slice Aqa qa.length cqa, Str na, I pa]]) => ?_)
 refine bx (v := .agg #[.slice Amb mb.length cmb, Str ub, Str wb, I kb, .slice Aqb qb.length cqb, Str nb, I pb]) (cs := [.slice Amb mb.length cmb, Str ub, Str wb, I kb, .slice Aqb qb.length cqb, Str nb, I pb]) hs1 rfl rfl trivial rfl (fun b2 w2 (hs2 : SH w w2 [] [.blk b1 29 [.slice Ama ma.length cma, Str ua, Str wa, I ka, .slice Aqa qa.length cqa, Str na, I pa], .blk b2 29 [.slice Amb mb.length cmb, Str ub, Str wb, I kb, .slice Aqb qb.length cqb, Str nb, I pb]]) => ?_)
 refine q trivial rfl rfl (asg (v := .bool false) rfl) ?_
 refine nl ?_
 refine nN ?_
 refine sq ?_
 refine sq ?_
 refine rg ?_
 refine q trivial rfl rfl (fa 0 fo29_0 rfl) ?_
 refine q trivial rfl rfl (ld (v := .slice Ama ma.length cma) hs2 0 rfl rfl rfl one23) ?_
 refine q trivial rfl rfl (fa 0 fo29_0 rfl) ?_
 refine q trivial rfl rfl (ld (v := .slice Amb mb.length cmb) hs2 1 rfl rfl rfl one23) ?_
 refine cl trivial rfl (eqIntS (Axs := Ama) (cxs := cma) (xs := ma) (Abs := Amb) (cbs := cmb) (bs := mb) (w := _) (hxs := (hma.up0 hs2)) (hbs := (hmb.up0 hs2))) ?_
 rintro _ w3 ⟨rfl, hs3'⟩
 have hs3 : SH w w3 [] [.blk b1 29 [.slice Ama ma.length cma, Str ua, Str wa, I ka, .slice Aqa qa.length cqa, Str na, I pa], .blk b2 29 [.slice Amb mb.length cmb, Str ub, Str wb, I kb, .slice Aqb qb.length cqb, Str nb, I pb]] := hs2.call0 hs3'
 clear hs3'
 refine q trivial rfl rfl (nd (p := ma = mb) rfl) ?_
 refine nl ?_
 refine nN ?_
 refine cdd (p := ¬ (ma = mb)) rfl (fun h1 => ?_) (fun h1 => ?_)
 · refine sq ?_
   refine rg ?_
   refine q trivial rfl rfl (asg (v := .bool false) rfl) ?_
   refine nl ?_
   refine nN ?_
   refine rt (tR ?_)
   refine fret (v := .bool false) (.tmp .nil) rfl ?_
   have e1 : false = (decide (ma = mb ∧ (ua = ub ∧ wa = wb) ∧ (ka = kb ∧ qa = qb ∧ na = nb ∧ pa = pb))) := by simp [h1] <;> simp_all
   exact ⟨(congrArg (Value.bool) e1), (hs3.pick [] rfl (by decide))⟩
 · refine sk ?_
   refine nN ?_
   refine sq ?_
   refine sq ?_
   refine rg ?_
   refine q trivial rfl rfl (fa 1 fo29_1 rfl) ?_
   refine q trivial rfl rfl (ldg (vs := [Str ua, Str wa]) hs3 0 rfl rfl rfl rfl ag25) ?_
   refine q trivial rfl rfl (fa 1 fo29_1 rfl) ?_
   refine q trivial rfl rfl (ldg (vs := [Str ub, Str wb]) hs3 1 rfl rfl rfl rfl ag25) ?_
   refine cl trivial rfl (eqLogin (u1 := ua) (p1 := wa) (u2 := ub) (p2 := wb) (w := _)) ?_
   rintro _ w4 ⟨rfl, hs4'⟩
   have hs4 : SH w w4 [] [.blk b1 29 [.slice Ama ma.length cma, Str ua, Str wa, I ka, .slice Aqa qa.length cqa, Str na, I pa], .blk b2 29 [.slice Amb mb.length cmb, Str ub, Str wb, I kb, .slice Aqb qb.length cqb, Str nb, I pb]] := hs3.call0 hs4'
   clear hs4'
   refine q trivial rfl rfl (nd (p := ua = ub ∧ wa = wb) rfl) ?_
   refine nl ?_
   refine nN ?_
   refine cdd (p := ¬ (ua = ub ∧ wa = wb)) rfl (fun h2 => ?_) (fun h2 => ?_)
   · refine sq ?_
     refine rg ?_
     refine q trivial rfl rfl (asg (v := .bool false) rfl) ?_
     refine nl ?_
     refine nN ?_
     refine rt (tR ?_)
     refine fret (v := .bool false) (.tmp .nil) rfl ?_
     have e2 : false = (decide (ma = mb ∧ (ua = ub ∧ wa = wb) ∧ (ka = kb ∧ qa = qb ∧ na = nb ∧ pa = pb))) := by simp [h1, h2] <;> simp_all
     exact ⟨(congrArg (Value.bool) e2), (hs4.pick [] rfl (by decide))⟩
   · refine sk ?_
     refine nN ?_
     refine sq ?_
     refine sq ?_
     refine rg ?_
     refine q trivial rfl rfl (fa 3 fo29_2 rfl) ?_
     refine q trivial rfl rfl (ldg (vs := [I ka, .slice Aqa qa.length cqa, Str na, I pa]) hs4 0 rfl rfl rfl rfl ag27) ?_
     refine q trivial rfl rfl (fa 3 fo29_2 rfl) ?_
     refine q trivial rfl rfl (ldg (vs := [I kb, .slice Aqb qb.length cqb, Str nb, I pb]) hs4 1 rfl rfl rfl rfl ag27) ?_
     refine cl trivial rfl (eqAddress (ka := ka) (Aqa := Aqa) (cqa := cqa) (qa := qa) (na := na) (pa := pa) (kb := kb) (Aqb := Aqb) (cqb := cqb) (qb := qb) (nb := nb) (pb := pb) (w := _) (hqa := (hqa.up0 hs4)) (hqb := (hqb.up0 hs4))) ?_
     rintro _ w5 ⟨rfl, hs5'⟩
     have hs5 : SH w w5 [] [.blk b1 29 [.slice Ama ma.length cma, Str ua, Str wa, I ka, .slice Aqa qa.length cqa, Str na, I pa], .blk b2 29 [.slice Amb mb.length cmb, Str ub, Str wb, I kb, .slice Aqb qb.length cqb, Str nb, I pb]] := hs4.call0 hs5'
     clear hs5'
     refine q trivial rfl rfl (nd (p := ka = kb ∧ qa = qb ∧ na = nb ∧ pa = pb) rfl) ?_
     refine nl ?_
     refine nN ?_
     refine cdd (p := ¬ (ka = kb ∧ qa = qb ∧ na = nb ∧ pa = pb)) rfl (fun h3 => ?_) (fun h3 => ?_)
     · refine sq ?_
       refine rg ?_
       refine q trivial rfl rfl (asg (v := .bool false) rfl) ?_
       refine nl ?_
       refine nN ?_
       refine rt (tR ?_)
       refine fret (v := .bool false) (.tmp .nil) rfl ?_
       have e3 : false = (decide (ma = mb ∧ (ua = ub ∧ wa = wb) ∧ (ka = kb ∧ qa = qb ∧ na = nb ∧ pa = pb))) := by simp [h1, h2, h3] <;> simp_all
       exact ⟨(congrArg (Value.bool) e3), (hs5.pick [] rfl (by decide))⟩
     · refine sk ?_
       refine nN ?_
       refine sq ?_
       refine rg ?_
       refine q trivial rfl rfl (asg (v := .bool true) rfl) ?_
       refine nl ?_
       refine nN ?_
       refine rt ?_
       refine fret (v := .bool true) (.tmp .nil) rfl ?_
       have e4 : true = (decide (ma = mb ∧ (ua = ub ∧ wa = wb) ∧ (ka = kb ∧ qa = qb ∧ na = nb ∧ pa = pb))) := by simp [h1, h2, h3] <;> simp_all
       exact ⟨(congrArg (Value.bool) e4), (hs5.pick [] rfl (by decide))⟩

set_option maxHeartbeats 8000000 in
theorem l91Quad {rb : Nat} {Ab : Option Addr} {cb : Nat} {bs : List UInt8} {p : Nat} (w : World) (hr : w.heap[rb]? = some (.cells [.slice Ab bs.length cb, .int .i64 ((p : Nat) : Int)].toArray 78 (0, 0))) (hb : Sl w [rb] 1 Ab bs.length cb (bs.map U)) (hbn : bs.length ≤ 2000) (hp : p ≤ 549755813888) : Does Tryd.prog 67 [pb rb] w (fun v w' => ∃ Ar : Option Addr, ∃ cr : Nat, ∃ r : List Int, ∃ q : Nat, v = .slice Ar r.length cr ∧ (r.length ≤ 4) ∧ (q ≤ p + 10) ∧ SH w w' [rb] [.blk rb 78 [.slice Ab bs.length cb, I ((q : Nat) : Int)], .own Ar r.length cr 3 1 (r.map I)]) := by
 refine fn_enter (N := 31) Tryd.func67 rfl (by kernel_rfl) rfl rfl rfl ?_
 have hs0 : SH w w [rb] [.blk rb 78 [.slice Ab bs.length cb, I ((p : Nat) : Int)]] := SH.entry1 hr
 refine sq ?_
 refine rg ?_
 refine q trivial rfl rfl (asg (v := ns) rfl) ?_
 refine nl ?_
 refine nN ?_
 refine sq ?_
 refine raJ (fun w' => ∃ L, SH w w' [rb] L ∧ True) (fun f w' => ∃ (r1' : Int) (q1' b2' : Nat) (r4' : Int) (q4' : Nat) (r8' : Int) (q8' : Nat) (r10' : Int) (q10' : Nat) (r12' : Int) (q12' b13' : Nat), Has f [(0, pb rb), (3, sb b13' (([([0, 1, 10, 255, r1'] : List Int).getD r4'.toNat 0, r8', r10', r12'] : List Int).length) 4)] ∧ (0 ≤ r1' ∧ (r1' < 256 ∨ r1' = 0)) ∧ (q1' ≤ p + 1) ∧ (0 ≤ r4' ∧ (r4' < 5 ∨ r4' = 0)) ∧ (q4' ≤ q1' + 1) ∧ (0 ≤ r8' ∧ (r8' < 2 ∨ r8' = 0)) ∧ (q8' ≤ q4' + 1) ∧ (0 ≤ r10' ∧ (r10' < 2 ∨ r10' = 0)) ∧ (q10' ≤ q8' + 1) ∧ (0 ≤ r12' ∧ (r12' < 256 ∨ r12' = 0)) ∧ (q12' ≤ q10' + 1) ∧ SH w w' [rb] [.blk rb 78 [.slice Ab bs.length cb, I ((q12' : Nat) : Int)], oI b13' ([([0, 1, 10, 255, r1'] : List Int).getD r4'.toNat 0, r8', r10', r12'] : List Int) 4 3, oI b2' ([0, 1, 10, 255, r1'] : List Int) 5 3]) mixed ?_ ?_
 · refine dag (fuel' := 2) (listed' := lbits 15 8191) (fun f w' => ∃ (r1' : Int) (q1' b2' : Nat) (r4' : Int) (q4' : Nat) (r8' : Int) (q8' : Nat) (r10' : Int) (q10' : Nat) (r12' : Int) (q12' : Nat), Has f [(0, pb rb), (10, I (([0, 1, 10, 255, r1'] : List Int).getD r4'.toNat 0)), (12, I r8'), (14, I r10'), (16, I r12')] ∧ (0 ≤ r1' ∧ (r1' < 256 ∨ r1' = 0)) ∧ (q1' ≤ p + 1) ∧ (0 ≤ r4' ∧ (r4' < 5 ∨ r4' = 0)) ∧ (q4' ≤ q1' + 1) ∧ (0 ≤ r8' ∧ (r8' < 2 ∨ r8' = 0)) ∧ (q8' ≤ q4' + 1) ∧ (0 ≤ r10' ∧ (r10' < 2 ∨ r10' = 0)) ∧ (q10' ≤ q8' + 1) ∧ (0 ≤ r12' ∧ (r12' < 256 ∨ r12' = 0)) ∧ (q12' ≤ q10' + 1) ∧ SH w w' [rb] [.blk rb 78 [.slice Ab bs.length cb, I ((q12' : Nat) : Int)], oI b2' ([0, 1, 10, 255, r1'] : List Int) 5 3]) ?_ (fun D_1_0 => ?_)
   · rintro f w1 ⟨r1', q1', b2', r4', q4', r8', q8', r10', q10', r12', q12', hf, p1, p2, p3, p4, p5, p6, p7, p8, p9, p10, hs1⟩
     obtain ⟨g1, rfl⟩ := has_upd hf
     clear hf
     refine aaL [13] (fa_one ?_)
     refine one_ rfl ?_
     refine bsk hs1 sl23 [I (([0, 1, 10, 255, r1'] : List Int).getD r4'.toNat 0), I r8', I r10', I r12'] [I (([0, 1, 10, 255, r1'] : List Int).getD r4'.toNat 0), I r8', I r10', I r12'] trivial rfl (fun b13' w2 hs2 => ?_)
     refine nl (kq ⟨_, hs2, trivial⟩ ?_)
     refine tk (fuel := 0) (is := [14]) (.cons rfl (.nil)) (by kernel_rfl) (by kernel_rfl) ⟨_, hs2, trivial⟩ ?_
     refine .op trivial rfl rfl (fun wq _ => asg (v := sb b13' (([([0, 1, 10, 255, r1'] : List Int).getD r4'.toNat 0, r8', r10', r12'] : List Int).length) 4) rfl) ?_
     refine .nil ?_
     refine ad (by kernel_rfl) ?_
     exact ⟨r1', q1', b2', r4', q4', r8', q8', r10', q10', r12', q12', b13', ⟨rfl, rfl, trivial⟩, p1, p2, p3, p4, p5, p6, p7, p8, p9, p10, (hs2.pick [0, 2, 1] rfl (by decide))⟩
   refine dag (fuel' := 3) (listed' := lbits 15 4095) (fun f w' => ∃ (r1' : Int) (q1' b2' : Nat) (r4' : Int) (q4' : Nat) (r8' : Int) (q8' : Nat) (r10' : Int) (q10' : Nat), Has f [(0, pb rb), (10, I (([0, 1, 10, 255, r1'] : List Int).getD r4'.toNat 0)), (12, I r8'), (14, I r10'), (15, pb rb)] ∧ (0 ≤ r1' ∧ (r1' < 256 ∨ r1' = 0)) ∧ (q1' ≤ p + 1) ∧ (0 ≤ r4' ∧ (r4' < 5 ∨ r4' = 0)) ∧ (q4' ≤ q1' + 1) ∧ (0 ≤ r8' ∧ (r8' < 2 ∨ r8' = 0)) ∧ (q8' ≤ q4' + 1) ∧ (0 ≤ r10' ∧ (r10' < 2 ∨ r10' = 0)) ∧ (q10' ≤ q8' + 1) ∧ SH w w' [rb] [.blk rb 78 [.slice Ab bs.length cb, I ((q10' : Nat) : Int)], oI b2' ([0, 1, 10, 255, r1'] : List Int) 5 3]) ?_ (fun D_1_1 => ?_)
   · rintro f w3 ⟨r1', q1', b2', r4', q4', r8', q8', r10', q10', hf, p11, p12, p13, p14, p15, p16, p17, p18, hs3⟩
     obtain ⟨g2, rfl⟩ := has_upd hf
     clear hf
     refine aaL [12] (fa_one ?_)
     refine one_ rfl ?_
     refine cl trivial rfl (pick (rb := rb) (Ab := Ab) (cb := cb) (bs := bs) (p := q10') (n := 256) (w := _) (hr := (blk_heap hs3 0 rfl)) (hb := (hb.up hs3 (fun _ h => h) (fun _ h => .inl h))) (hbn := (by first | assumption | (simp; omega))) (hp := (by omega))) ?_
     rintro _ w4 ⟨r12', q12', rfl, p19, p20, hs4'⟩
     have hs4 := hs3.callM 0 rfl hs4' (by intro k hk; simp at hk; exact hk.symm)
     clear hs4'
     exact nl (kq ⟨_, hs4, trivial⟩ (alc D_1_0 ⟨r1', q1', b2', r4', q4', r8', q8', r10', q10', r12', q12', ⟨rfl, rfl, rfl, rfl, rfl, trivial⟩, p11, p12, p13, p14, p15, p16, p17, p18, p19, p20, (hs4.pick [1, 0] rfl (by decide))⟩))
   refine dag (fuel' := 3) (listed' := lbits 15 8127) (fun f w' => ∃ (r1' : Int) (q1' b2' : Nat) (r4' : Int) (q4' : Nat) (r8' : Int) (q8' : Nat) (r10' : Int) (q10' : Nat) (r12' : Int) (q12' : Nat), Has f [(0, pb rb), (9, .pointer (some ⟨b2', r4'.toNat * 1, none⟩)), (12, I r8'), (14, I r10'), (16, I r12')] ∧ (0 ≤ r1' ∧ (r1' < 256 ∨ r1' = 0)) ∧ (q1' ≤ p + 1) ∧ (0 ≤ r4' ∧ (r4' < 5 ∨ r4' = 0)) ∧ (q4' ≤ q1' + 1) ∧ (0 ≤ r8' ∧ (r8' < 2 ∨ r8' = 0)) ∧ (q8' ≤ q4' + 1) ∧ (0 ≤ r10' ∧ (r10' < 2 ∨ r10' = 0)) ∧ (q10' ≤ q8' + 1) ∧ (0 ≤ r12' ∧ (r12' < 256 ∨ r12' = 0)) ∧ (q12' ≤ q10' + 1) ∧ SH w w' [rb] [.blk rb 78 [.slice Ab bs.length cb, I ((q12' : Nat) : Int)], oI b2' ([0, 1, 10, 255, r1'] : List Int) 5 3]) ?_ (fun D_1_2 => ?_)
   · rintro f w5 ⟨r1', q1', b2', r4', q4', r8', q8', r10', q10', r12', q12', hf, p21, p22, p23, p24, p25, p26, p27, p28, p29, p30, hs5⟩
     obtain ⟨g3, rfl⟩ := has_upd hf
     clear hf
     refine aaL [6] (fa_one ?_)
     refine one_ rfl ?_
     refine q trivial rfl rfl (ldo1n (g := I) (ys := ([0, 1, 10, 255, r1'] : List Int)) (o := r4'.toNat) 0 hs5 1 rfl rfl (by first | omega | (simp; done) | (simp; omega)) one3) ?_
     exact nl (kq ⟨_, hs5, trivial⟩ (alc D_1_0 ⟨r1', q1', b2', r4', q4', r8', q8', r10', q10', r12', q12', ⟨rfl, rfl, rfl, rfl, rfl, trivial⟩, p21, p22, p23, p24, p25, p26, p27, p28, p29, p30, hs5⟩))
   refine dag (fuel' := 4) (listed' := lbits 15 3071) (fun f w' => ∃ (r1' : Int) (q1' b2' : Nat) (r4' : Int) (q4' : Nat) (r8' : Int) (q8' : Nat), Has f [(0, pb rb), (10, I (([0, 1, 10, 255, r1'] : List Int).getD r4'.toNat 0)), (12, I r8'), (13, pb rb), (15, pb rb)] ∧ (0 ≤ r1' ∧ (r1' < 256 ∨ r1' = 0)) ∧ (q1' ≤ p + 1) ∧ (0 ≤ r4' ∧ (r4' < 5 ∨ r4' = 0)) ∧ (q4' ≤ q1' + 1) ∧ (0 ≤ r8' ∧ (r8' < 2 ∨ r8' = 0)) ∧ (q8' ≤ q4' + 1) ∧ SH w w' [rb] [.blk rb 78 [.slice Ab bs.length cb, I ((q8' : Nat) : Int)], oI b2' ([0, 1, 10, 255, r1'] : List Int) 5 3]) ?_ (fun D_1_3 => ?_)
   · rintro f w6 ⟨r1', q1', b2', r4', q4', r8', q8', hf, p31, p32, p33, p34, p35, p36, hs6⟩
     obtain ⟨g4, rfl⟩ := has_upd hf
     clear hf
     refine aaL [10] (fa_one ?_)
     refine one_ rfl ?_
     refine cl trivial rfl (pick (rb := rb) (Ab := Ab) (cb := cb) (bs := bs) (p := q8') (n := 2) (w := _) (hr := (blk_heap hs6 0 rfl)) (hb := (hb.up hs6 (fun _ h => h) (fun _ h => .inl h))) (hbn := (by first | assumption | (simp; omega))) (hp := (by omega))) ?_
     rintro _ w7 ⟨r10', q10', rfl, p37, p38, hs7'⟩
     have hs7 := hs6.callM 0 rfl hs7' (by intro k hk; simp at hk; exact hk.symm)
     clear hs7'
     exact nl (kq ⟨_, hs7, trivial⟩ (alc D_1_1 ⟨r1', q1', b2', r4', q4', r8', q8', r10', q10', ⟨rfl, rfl, rfl, rfl, rfl, trivial⟩, p31, p32, p33, p34, p35, p36, p37, p38, (hs7.pick [1, 0] rfl (by decide))⟩))
   refine dag (fuel' := 4) (listed' := lbits 15 4031) (fun f w' => ∃ (r1' : Int) (q1' b2' : Nat) (r4' : Int) (q4' : Nat) (r8' : Int) (q8' : Nat) (r10' : Int) (q10' : Nat), Has f [(0, pb rb), (9, .pointer (some ⟨b2', r4'.toNat * 1, none⟩)), (12, I r8'), (14, I r10'), (15, pb rb)] ∧ (0 ≤ r1' ∧ (r1' < 256 ∨ r1' = 0)) ∧ (q1' ≤ p + 1) ∧ (0 ≤ r4' ∧ (r4' < 5 ∨ r4' = 0)) ∧ (q4' ≤ q1' + 1) ∧ (0 ≤ r8' ∧ (r8' < 2 ∨ r8' = 0)) ∧ (q8' ≤ q4' + 1) ∧ (0 ≤ r10' ∧ (r10' < 2 ∨ r10' = 0)) ∧ (q10' ≤ q8' + 1) ∧ SH w w' [rb] [.blk rb 78 [.slice Ab bs.length cb, I ((q10' : Nat) : Int)], oI b2' ([0, 1, 10, 255, r1'] : List Int) 5 3]) ?_ (fun D_1_4 => ?_)
   · rintro f w8 ⟨r1', q1', b2', r4', q4', r8', q8', r10', q10', hf, p39, p40, p41, p42, p43, p44, p45, p46, hs8⟩
     obtain ⟨g5, rfl⟩ := has_upd hf
     clear hf
     refine aaL [6, 12] (fa_cons ?_ (fa_one ?_))
     · refine one_ rfl ?_
       refine q trivial rfl rfl (ldo1n (g := I) (ys := ([0, 1, 10, 255, r1'] : List Int)) (o := r4'.toNat) 0 hs8 1 rfl rfl (by first | omega | (simp; done) | (simp; omega)) one3) ?_
       exact nl (kq ⟨_, hs8, trivial⟩ (alc D_1_1 ⟨r1', q1', b2', r4', q4', r8', q8', r10', q10', ⟨rfl, rfl, rfl, rfl, rfl, trivial⟩, p39, p40, p41, p42, p43, p44, p45, p46, hs8⟩))
     · refine one_ rfl ?_
       refine cl trivial rfl (pick (rb := rb) (Ab := Ab) (cb := cb) (bs := bs) (p := q10') (n := 256) (w := _) (hr := (blk_heap hs8 0 rfl)) (hb := (hb.up hs8 (fun _ h => h) (fun _ h => .inl h))) (hbn := (by first | assumption | (simp; omega))) (hp := (by omega))) ?_
       rintro _ w9 ⟨r12', q12', rfl, p47, p48, hs9'⟩
       have hs9 := hs8.callM 0 rfl hs9' (by intro k hk; simp at hk; exact hk.symm)
       clear hs9'
       exact nl (kq ⟨_, hs9, trivial⟩ (alc D_1_2 ⟨r1', q1', b2', r4', q4', r8', q8', r10', q10', r12', q12', ⟨rfl, rfl, rfl, rfl, rfl, trivial⟩, p39, p40, p41, p42, p43, p44, p45, p46, p47, p48, (hs9.pick [1, 0] rfl (by decide))⟩))
   refine dag (fuel' := 5) (listed' := lbits 15 2815) (fun f w' => ∃ (r1' : Int) (q1' b2' : Nat) (r4' : Int) (q4' : Nat), Has f [(0, pb rb), (10, I (([0, 1, 10, 255, r1'] : List Int).getD r4'.toNat 0)), (11, pb rb), (13, pb rb), (15, pb rb)] ∧ (0 ≤ r1' ∧ (r1' < 256 ∨ r1' = 0)) ∧ (q1' ≤ p + 1) ∧ (0 ≤ r4' ∧ (r4' < 5 ∨ r4' = 0)) ∧ (q4' ≤ q1' + 1) ∧ SH w w' [rb] [.blk rb 78 [.slice Ab bs.length cb, I ((q4' : Nat) : Int)], oI b2' ([0, 1, 10, 255, r1'] : List Int) 5 3]) ?_ (fun D_1_5 => ?_)
   · rintro f w10 ⟨r1', q1', b2', r4', q4', hf, p49, p50, p51, p52, hs10⟩
     obtain ⟨g6, rfl⟩ := has_upd hf
     clear hf
     refine aaL [8] (fa_one ?_)
     refine one_ rfl ?_
     refine cl trivial rfl (pick (rb := rb) (Ab := Ab) (cb := cb) (bs := bs) (p := q4') (n := 2) (w := _) (hr := (blk_heap hs10 0 rfl)) (hb := (hb.up hs10 (fun _ h => h) (fun _ h => .inl h))) (hbn := (by first | assumption | (simp; omega))) (hp := (by omega))) ?_
     rintro _ w11 ⟨r8', q8', rfl, p53, p54, hs11'⟩
     have hs11 := hs10.callM 0 rfl hs11' (by intro k hk; simp at hk; exact hk.symm)
     clear hs11'
     exact nl (kq ⟨_, hs11, trivial⟩ (alc D_1_3 ⟨r1', q1', b2', r4', q4', r8', q8', ⟨rfl, rfl, rfl, rfl, rfl, trivial⟩, p49, p50, p51, p52, p53, p54, (hs11.pick [1, 0] rfl (by decide))⟩))
   refine dag (fuel' := 5) (listed' := lbits 15 3007) (fun f w' => ∃ (r1' : Int) (q1' b2' : Nat) (r4' : Int) (q4' : Nat) (r8' : Int) (q8' : Nat), Has f [(0, pb rb), (9, .pointer (some ⟨b2', r4'.toNat * 1, none⟩)), (12, I r8'), (13, pb rb), (15, pb rb)] ∧ (0 ≤ r1' ∧ (r1' < 256 ∨ r1' = 0)) ∧ (q1' ≤ p + 1) ∧ (0 ≤ r4' ∧ (r4' < 5 ∨ r4' = 0)) ∧ (q4' ≤ q1' + 1) ∧ (0 ≤ r8' ∧ (r8' < 2 ∨ r8' = 0)) ∧ (q8' ≤ q4' + 1) ∧ SH w w' [rb] [.blk rb 78 [.slice Ab bs.length cb, I ((q8' : Nat) : Int)], oI b2' ([0, 1, 10, 255, r1'] : List Int) 5 3]) ?_ (fun D_1_6 => ?_)
   · rintro f w12 ⟨r1', q1', b2', r4', q4', r8', q8', hf, p55, p56, p57, p58, p59, p60, hs12⟩
     obtain ⟨g7, rfl⟩ := has_upd hf
     clear hf
     refine aaL [6, 10] (fa_cons ?_ (fa_one ?_))
     · refine one_ rfl ?_
       refine q trivial rfl rfl (ldo1n (g := I) (ys := ([0, 1, 10, 255, r1'] : List Int)) (o := r4'.toNat) 0 hs12 1 rfl rfl (by first | omega | (simp; done) | (simp; omega)) one3) ?_
       exact nl (kq ⟨_, hs12, trivial⟩ (alc D_1_3 ⟨r1', q1', b2', r4', q4', r8', q8', ⟨rfl, rfl, rfl, rfl, rfl, trivial⟩, p55, p56, p57, p58, p59, p60, hs12⟩))
     · refine one_ rfl ?_
       refine cl trivial rfl (pick (rb := rb) (Ab := Ab) (cb := cb) (bs := bs) (p := q8') (n := 2) (w := _) (hr := (blk_heap hs12 0 rfl)) (hb := (hb.up hs12 (fun _ h => h) (fun _ h => .inl h))) (hbn := (by first | assumption | (simp; omega))) (hp := (by omega))) ?_
       rintro _ w13 ⟨r10', q10', rfl, p61, p62, hs13'⟩
       have hs13 := hs12.callM 0 rfl hs13' (by intro k hk; simp at hk; exact hk.symm)
       clear hs13'
       exact nl (kq ⟨_, hs13, trivial⟩ (alc D_1_4 ⟨r1', q1', b2', r4', q4', r8', q8', r10', q10', ⟨rfl, rfl, rfl, rfl, rfl, trivial⟩, p55, p56, p57, p58, p59, p60, p61, p62, (hs13.pick [1, 0] rfl (by decide))⟩))
   refine dag (fuel' := 5) (listed' := lbits 15 8091) (fun f w' => ∃ (r1' : Int) (q1' : Nat) (r4' : Int) (q4' : Nat) (r8' : Int) (q8' : Nat) (r10' : Int) (q10' : Nat) (r12' : Int) (q12' : Nat), Has f [(0, pb rb), (5, I r1'), (8, I r4'), (12, I r8'), (14, I r10'), (16, I r12')] ∧ (0 ≤ r1' ∧ (r1' < 256 ∨ r1' = 0)) ∧ (q1' ≤ p + 1) ∧ (0 ≤ r4' ∧ (r4' < 5 ∨ r4' = 0)) ∧ (q4' ≤ q1' + 1) ∧ (0 ≤ r8' ∧ (r8' < 2 ∨ r8' = 0)) ∧ (q8' ≤ q4' + 1) ∧ (0 ≤ r10' ∧ (r10' < 2 ∨ r10' = 0)) ∧ (q10' ≤ q8' + 1) ∧ (0 ≤ r12' ∧ (r12' < 256 ∨ r12' = 0)) ∧ (q12' ≤ q10' + 1) ∧ SH w w' [rb] [.blk rb 78 [.slice Ab bs.length cb, I ((q12' : Nat) : Int)]]) ?_ (fun D_1_7 => ?_)
   · rintro f w14 ⟨r1', q1', r4', q4', r8', q8', r10', q10', r12', q12', hf, p63, p64, p65, p66, p67, p68, p69, p70, p71, p72, hs14⟩
     obtain ⟨g8, rfl⟩ := has_upd hf
     clear hf
     refine aaL [2] (fa_one ?_)
     refine one_ rfl ?_
     refine bsk hs14 sl23 [I 0, I 1, I 10, I 255, I r1'] [I 0, I 1, I 10, I 255, I r1'] trivial rfl (fun b2' w15 hs15 => ?_)
     refine nl (kq ⟨_, hs15, trivial⟩ ?_)
     refine tk (fuel := 3) (is := [5]) (.cons rfl (.nil)) (by kernel_rfl) (by kernel_rfl) ⟨_, hs15, trivial⟩ ?_
     refine .op trivial rfl rfl (fun wq _ => ixo r4'.toNat sl23 rfl (ieq (x := r4') (by omega)) (by first | omega | (simp; done) | (simp; omega))) ?_
     refine .nil ?_
     exact alc D_1_2 ⟨r1', q1', b2', r4', q4', r8', q8', r10', q10', r12', q12', ⟨rfl, rfl, rfl, rfl, rfl, trivial⟩, p63, p64, p65, p66, p67, p68, p69, p70, p71, p72, hs15⟩
   refine dag (fuel' := 6) (listed' := lbits 15 2751) (fun f w' => ∃ (r1' : Int) (q1' b2' : Nat) (r4' : Int) (q4' : Nat), Has f [(0, pb rb), (9, .pointer (some ⟨b2', r4'.toNat * 1, none⟩)), (11, pb rb), (13, pb rb), (15, pb rb)] ∧ (0 ≤ r1' ∧ (r1' < 256 ∨ r1' = 0)) ∧ (q1' ≤ p + 1) ∧ (0 ≤ r4' ∧ (r4' < 5 ∨ r4' = 0)) ∧ (q4' ≤ q1' + 1) ∧ SH w w' [rb] [.blk rb 78 [.slice Ab bs.length cb, I ((q4' : Nat) : Int)], oI b2' ([0, 1, 10, 255, r1'] : List Int) 5 3]) ?_ (fun D_1_8 => ?_)
   · rintro f w16 ⟨r1', q1', b2', r4', q4', hf, p73, p74, p75, p76, hs16⟩
     obtain ⟨g9, rfl⟩ := has_upd hf
     clear hf
     refine aaL [6, 8] (fa_cons ?_ (fa_one ?_))
     · refine one_ rfl ?_
       refine q trivial rfl rfl (ldo1n (g := I) (ys := ([0, 1, 10, 255, r1'] : List Int)) (o := r4'.toNat) 0 hs16 1 rfl rfl (by first | omega | (simp; done) | (simp; omega)) one3) ?_
       exact nl (kq ⟨_, hs16, trivial⟩ (alc D_1_5 ⟨r1', q1', b2', r4', q4', ⟨rfl, rfl, rfl, rfl, rfl, trivial⟩, p73, p74, p75, p76, hs16⟩))
     · refine one_ rfl ?_
       refine cl trivial rfl (pick (rb := rb) (Ab := Ab) (cb := cb) (bs := bs) (p := q4') (n := 2) (w := _) (hr := (blk_heap hs16 0 rfl)) (hb := (hb.up hs16 (fun _ h => h) (fun _ h => .inl h))) (hbn := (by first | assumption | (simp; omega))) (hp := (by omega))) ?_
       rintro _ w17 ⟨r8', q8', rfl, p77, p78, hs17'⟩
       have hs17 := hs16.callM 0 rfl hs17' (by intro k hk; simp at hk; exact hk.symm)
       clear hs17'
       exact nl (kq ⟨_, hs17, trivial⟩ (alc D_1_6 ⟨r1', q1', b2', r4', q4', r8', q8', ⟨rfl, rfl, rfl, rfl, rfl, trivial⟩, p73, p74, p75, p76, p77, p78, (hs17.pick [1, 0] rfl (by decide))⟩))
   refine dag (fuel' := 6) (listed' := lbits 15 3995) (fun f w' => ∃ (r1' : Int) (q1' : Nat) (r4' : Int) (q4' : Nat) (r8' : Int) (q8' : Nat) (r10' : Int) (q10' : Nat), Has f [(0, pb rb), (5, I r1'), (8, I r4'), (12, I r8'), (14, I r10'), (15, pb rb)] ∧ (0 ≤ r1' ∧ (r1' < 256 ∨ r1' = 0)) ∧ (q1' ≤ p + 1) ∧ (0 ≤ r4' ∧ (r4' < 5 ∨ r4' = 0)) ∧ (q4' ≤ q1' + 1) ∧ (0 ≤ r8' ∧ (r8' < 2 ∨ r8' = 0)) ∧ (q8' ≤ q4' + 1) ∧ (0 ≤ r10' ∧ (r10' < 2 ∨ r10' = 0)) ∧ (q10' ≤ q8' + 1) ∧ SH w w' [rb] [.blk rb 78 [.slice Ab bs.length cb, I ((q10' : Nat) : Int)]]) ?_ (fun D_1_9 => ?_)
   · rintro f w18 ⟨r1', q1', r4', q4', r8', q8', r10', q10', hf, p79, p80, p81, p82, p83, p84, p85, p86, hs18⟩
     obtain ⟨g10, rfl⟩ := has_upd hf
     clear hf
     refine aaL [2, 12] (fa_cons ?_ (fa_one ?_))
     · refine one_ rfl ?_
       refine bsk hs18 sl23 [I 0, I 1, I 10, I 255, I r1'] [I 0, I 1, I 10, I 255, I r1'] trivial rfl (fun b2' w19 hs19 => ?_)
       refine nl (kq ⟨_, hs19, trivial⟩ ?_)
       refine tk (fuel := 4) (is := [5]) (.cons rfl (.nil)) (by kernel_rfl) (by kernel_rfl) ⟨_, hs19, trivial⟩ ?_
       refine .op trivial rfl rfl (fun wq _ => ixo r4'.toNat sl23 rfl (ieq (x := r4') (by omega)) (by first | omega | (simp; done) | (simp; omega))) ?_
       refine .nil ?_
       exact alc D_1_4 ⟨r1', q1', b2', r4', q4', r8', q8', r10', q10', ⟨rfl, rfl, rfl, rfl, rfl, trivial⟩, p79, p80, p81, p82, p83, p84, p85, p86, hs19⟩
     · refine one_ rfl ?_
       refine cl trivial rfl (pick (rb := rb) (Ab := Ab) (cb := cb) (bs := bs) (p := q10') (n := 256) (w := _) (hr := (blk_heap hs18 0 rfl)) (hb := (hb.up hs18 (fun _ h => h) (fun _ h => .inl h))) (hbn := (by first | assumption | (simp; omega))) (hp := (by omega))) ?_
       rintro _ w20 ⟨r12', q12', rfl, p87, p88, hs20'⟩
       have hs20 := hs18.callM 0 rfl hs20' (by intro k hk; simp at hk; exact hk.symm)
       clear hs20'
       exact nl (kq ⟨_, hs20, trivial⟩ (alc D_1_7 ⟨r1', q1', r4', q4', r8', q8', r10', q10', r12', q12', ⟨rfl, rfl, rfl, rfl, rfl, rfl, trivial⟩, p79, p80, p81, p82, p83, p84, p85, p86, p87, p88, hs20⟩))
   refine dag (fuel' := 7) (listed' := lbits 15 2971) (fun f w' => ∃ (r1' : Int) (q1' : Nat) (r4' : Int) (q4' : Nat) (r8' : Int) (q8' : Nat), Has f [(0, pb rb), (5, I r1'), (8, I r4'), (12, I r8'), (13, pb rb), (15, pb rb)] ∧ (0 ≤ r1' ∧ (r1' < 256 ∨ r1' = 0)) ∧ (q1' ≤ p + 1) ∧ (0 ≤ r4' ∧ (r4' < 5 ∨ r4' = 0)) ∧ (q4' ≤ q1' + 1) ∧ (0 ≤ r8' ∧ (r8' < 2 ∨ r8' = 0)) ∧ (q8' ≤ q4' + 1) ∧ SH w w' [rb] [.blk rb 78 [.slice Ab bs.length cb, I ((q8' : Nat) : Int)]]) ?_ (fun D_1_10 => ?_)
   · rintro f w21 ⟨r1', q1', r4', q4', r8', q8', hf, p89, p90, p91, p92, p93, p94, hs21⟩
     obtain ⟨g11, rfl⟩ := has_upd hf
     clear hf
     refine aaL [2, 10] (fa_cons ?_ (fa_one ?_))
     · refine one_ rfl ?_
       refine bsk hs21 sl23 [I 0, I 1, I 10, I 255, I r1'] [I 0, I 1, I 10, I 255, I r1'] trivial rfl (fun b2' w22 hs22 => ?_)
       refine nl (kq ⟨_, hs22, trivial⟩ ?_)
       refine tk (fuel := 5) (is := [5]) (.cons rfl (.nil)) (by kernel_rfl) (by kernel_rfl) ⟨_, hs22, trivial⟩ ?_
       refine .op trivial rfl rfl (fun wq _ => ixo r4'.toNat sl23 rfl (ieq (x := r4') (by omega)) (by first | omega | (simp; done) | (simp; omega))) ?_
       refine .nil ?_
       exact alc D_1_6 ⟨r1', q1', b2', r4', q4', r8', q8', ⟨rfl, rfl, rfl, rfl, rfl, trivial⟩, p89, p90, p91, p92, p93, p94, hs22⟩
     · refine one_ rfl ?_
       refine cl trivial rfl (pick (rb := rb) (Ab := Ab) (cb := cb) (bs := bs) (p := q8') (n := 2) (w := _) (hr := (blk_heap hs21 0 rfl)) (hb := (hb.up hs21 (fun _ h => h) (fun _ h => .inl h))) (hbn := (by first | assumption | (simp; omega))) (hp := (by omega))) ?_
       rintro _ w23 ⟨r10', q10', rfl, p95, p96, hs23'⟩
       have hs23 := hs21.callM 0 rfl hs23' (by intro k hk; simp at hk; exact hk.symm)
       clear hs23'
       exact nl (kq ⟨_, hs23, trivial⟩ (alc D_1_9 ⟨r1', q1', r4', q4', r8', q8', r10', q10', ⟨rfl, rfl, rfl, rfl, rfl, rfl, trivial⟩, p89, p90, p91, p92, p93, p94, p95, p96, hs23⟩))
   refine dag (fuel' := 8) (listed' := lbits 15 2703) (fun f w' => ∃ (r1' : Int) (q1' b2' : Nat), Has f [(0, pb rb), (6, sb b2' (([0, 1, 10, 255, r1'] : List Int).length) 5), (7, pb rb), (11, pb rb), (13, pb rb), (15, pb rb)] ∧ (0 ≤ r1' ∧ (r1' < 256 ∨ r1' = 0)) ∧ (q1' ≤ p + 1) ∧ SH w w' [rb] [.blk rb 78 [.slice Ab bs.length cb, I ((q1' : Nat) : Int)], oI b2' ([0, 1, 10, 255, r1'] : List Int) 5 3]) ?_ (fun D_1_11 => ?_)
   · rintro f w24 ⟨r1', q1', b2', hf, p97, p98, hs24⟩
     obtain ⟨g12, rfl⟩ := has_upd hf
     clear hf
     refine aaL [4] (fa_one ?_)
     refine one_ rfl ?_
     refine cl trivial rfl (pick (rb := rb) (Ab := Ab) (cb := cb) (bs := bs) (p := q1') (n := 5) (w := _) (hr := (blk_heap hs24 0 rfl)) (hb := (hb.up hs24 (fun _ h => h) (fun _ h => .inl h))) (hbn := (by first | assumption | (simp; omega))) (hp := (by omega))) ?_
     rintro _ w25 ⟨r4', q4', rfl, p99, p100, hs25'⟩
     have hs25 := hs24.callM 0 rfl hs25' (by intro k hk; simp at hk; exact hk.symm)
     clear hs25'
     refine nl (kq ⟨_, hs25, trivial⟩ ?_)
     refine tk (fuel := 6) (is := [5]) (.cons rfl (.nil)) (by kernel_rfl) (by kernel_rfl) ⟨_, hs25, trivial⟩ ?_
     refine .op trivial rfl rfl (fun wq _ => ixo r4'.toNat sl23 rfl (ieq (x := r4') (by omega)) (by first | omega | (simp; done) | (simp; omega))) ?_
     refine .nil ?_
     exact alc D_1_8 ⟨r1', q1', b2', r4', q4', ⟨rfl, rfl, rfl, rfl, rfl, trivial⟩, p97, p98, p99, p100, (hs25.pick [1, 0] rfl (by decide))⟩
   refine dag (fuel' := 8) (listed' := lbits 15 2715) (fun f w' => ∃ (r1' : Int) (q1' : Nat) (r4' : Int) (q4' : Nat), Has f [(0, pb rb), (5, I r1'), (8, I r4'), (11, pb rb), (13, pb rb), (15, pb rb)] ∧ (0 ≤ r1' ∧ (r1' < 256 ∨ r1' = 0)) ∧ (q1' ≤ p + 1) ∧ (0 ≤ r4' ∧ (r4' < 5 ∨ r4' = 0)) ∧ (q4' ≤ q1' + 1) ∧ SH w w' [rb] [.blk rb 78 [.slice Ab bs.length cb, I ((q4' : Nat) : Int)]]) ?_ (fun D_1_12 => ?_)
   · rintro f w26 ⟨r1', q1', r4', q4', hf, p101, p102, p103, p104, hs26⟩
     obtain ⟨g13, rfl⟩ := has_upd hf
     clear hf
     refine aaL [2, 8] (fa_cons ?_ (fa_one ?_))
     · refine one_ rfl ?_
       refine bsk hs26 sl23 [I 0, I 1, I 10, I 255, I r1'] [I 0, I 1, I 10, I 255, I r1'] trivial rfl (fun b2' w27 hs27 => ?_)
       refine nl (kq ⟨_, hs27, trivial⟩ ?_)
       refine tk (fuel := 6) (is := [5]) (.cons rfl (.nil)) (by kernel_rfl) (by kernel_rfl) ⟨_, hs27, trivial⟩ ?_
       refine .op trivial rfl rfl (fun wq _ => ixo r4'.toNat sl23 rfl (ieq (x := r4') (by omega)) (by first | omega | (simp; done) | (simp; omega))) ?_
       refine .nil ?_
       exact alc D_1_8 ⟨r1', q1', b2', r4', q4', ⟨rfl, rfl, rfl, rfl, rfl, trivial⟩, p101, p102, p103, p104, hs27⟩
     · refine one_ rfl ?_
       refine cl trivial rfl (pick (rb := rb) (Ab := Ab) (cb := cb) (bs := bs) (p := q4') (n := 2) (w := _) (hr := (blk_heap hs26 0 rfl)) (hb := (hb.up hs26 (fun _ h => h) (fun _ h => .inl h))) (hbn := (by first | assumption | (simp; omega))) (hp := (by omega))) ?_
       rintro _ w28 ⟨r8', q8', rfl, p105, p106, hs28'⟩
       have hs28 := hs26.callM 0 rfl hs28' (by intro k hk; simp at hk; exact hk.symm)
       clear hs28'
       exact nl (kq ⟨_, hs28, trivial⟩ (alc D_1_10 ⟨r1', q1', r4', q4', r8', q8', ⟨rfl, rfl, rfl, rfl, rfl, rfl, trivial⟩, p101, p102, p103, p104, p105, p106, hs28⟩))
   refine dag (fuel' := 9) (listed' := lbits 15 2699) (fun f w' => ∃ (r1' : Int) (q1' : Nat), Has f [(0, pb rb), (5, I r1'), (7, pb rb), (11, pb rb), (13, pb rb), (15, pb rb)] ∧ (0 ≤ r1' ∧ (r1' < 256 ∨ r1' = 0)) ∧ (q1' ≤ p + 1) ∧ SH w w' [rb] [.blk rb 78 [.slice Ab bs.length cb, I ((q1' : Nat) : Int)]]) ?_ (fun D_1_13 => ?_)
   · rintro f w29 ⟨r1', q1', hf, p107, p108, hs29⟩
     obtain ⟨g14, rfl⟩ := has_upd hf
     clear hf
     refine aaL [2, 4] (fa_cons ?_ (fa_one ?_))
     · refine one_ rfl ?_
       refine bsk hs29 sl23 [I 0, I 1, I 10, I 255, I r1'] [I 0, I 1, I 10, I 255, I r1'] trivial rfl (fun b2' w30 hs30 => ?_)
       exact nl (kq ⟨_, hs30, trivial⟩ (alc D_1_11 ⟨r1', q1', b2', ⟨rfl, rfl, rfl, rfl, rfl, rfl, trivial⟩, p107, p108, hs30⟩))
     · refine one_ rfl ?_
       refine cl trivial rfl (pick (rb := rb) (Ab := Ab) (cb := cb) (bs := bs) (p := q1') (n := 5) (w := _) (hr := (blk_heap hs29 0 rfl)) (hb := (hb.up hs29 (fun _ h => h) (fun _ h => .inl h))) (hbn := (by first | assumption | (simp; omega))) (hp := (by omega))) ?_
       rintro _ w31 ⟨r4', q4', rfl, p109, p110, hs31'⟩
       have hs31 := hs29.callM 0 rfl hs31' (by intro k hk; simp at hk; exact hk.symm)
       clear hs31'
       exact nl (kq ⟨_, hs31, trivial⟩ (alc D_1_12 ⟨r1', q1', r4', q4', ⟨rfl, rfl, rfl, rfl, rfl, rfl, trivial⟩, p107, p108, p109, p110, hs31⟩))
   refine dag (fuel' := 10) (listed' := lbits 15 2697) (fun f w' => Has f [(0, pb rb), (4, pb rb), (7, pb rb), (11, pb rb), (13, pb rb), (15, pb rb)] ∧ SH w w' [rb] [.blk rb 78 [.slice Ab bs.length cb, I ((p : Nat) : Int)]]) ?_ (fun D_1_14 => ?_)
   · rintro f w32 ⟨hf, hs32⟩
     obtain ⟨g15, rfl⟩ := has_upd hf
     clear hf
     refine aaL [1] (fa_one ?_)
     refine one_ rfl ?_
     refine cl trivial rfl (pick (rb := rb) (Ab := Ab) (cb := cb) (bs := bs) (p := p) (n := 256) (w := _) (hr := (blk_heap hs32 0 rfl)) (hb := (hb.up hs32 (fun _ h => h) (fun _ h => .inl h))) (hbn := (by first | assumption | (simp; omega))) (hp := (by omega))) ?_
     rintro _ w33 ⟨r1', q1', rfl, p111, p112, hs33'⟩
     have hs33 := hs32.callM 0 rfl hs33' (by intro k hk; simp at hk; exact hk.symm)
     clear hs33'
     exact nl (kq ⟨_, hs33, trivial⟩ (alc D_1_13 ⟨r1', q1', ⟨rfl, rfl, rfl, rfl, rfl, rfl, trivial⟩, p111, p112, hs33⟩))
   have hs34 := hs0.drew
   refine tk (fuel := 10) (is := [0, 3, 7, 9, 11]) (.cons rfl (.cons rfl (.cons rfl (.cons rfl (.cons rfl (.nil)))))) (by kernel_rfl) (by kernel_rfl) ⟨_, hs34, trivial⟩ ?_
   refine .op trivial rfl rfl (fun wq _ => mv (v := pb rb) rfl) ?_
   refine .op trivial rfl rfl (fun wq _ => mv (v := pb rb) rfl) ?_
   refine .op trivial rfl rfl (fun wq _ => mv (v := pb rb) rfl) ?_
   refine .op trivial rfl rfl (fun wq _ => mv (v := pb rb) rfl) ?_
   refine .op trivial rfl rfl (fun wq _ => mv (v := pb rb) rfl) ?_
   refine .nil ?_
   exact alc D_1_14 ⟨⟨rfl, rfl, rfl, rfl, rfl, rfl, trivial⟩, hs34⟩
 rintro f w34 ⟨r1', q1', b2', r4', q4', r8', q8', r10', q10', r12', q12', b13', hf, p113, p114, p115, p116, p117, p118, p119, p120, p121, p122, hs35⟩
 obtain ⟨g16, rfl⟩ := has_upd hf
 clear hf
 refine nN ?_
 refine sq ?_
 refine sq ?_
 refine rg ?_
 refine q trivial rfl rfl (mv (v := pb rb) rfl) ?_
 refine cl trivial rfl (pick (rb := rb) (Ab := Ab) (cb := cb) (bs := bs) (p := q12') (n := 40) (w := _) (hr := (blk_heap hs35 0 rfl)) (hb := (hb.up hs35 (fun _ h => h) (fun _ h => .inl h))) (hbn := (by first | assumption | (simp; omega))) (hp := (by omega))) ?_
 rintro _ w35 ⟨r1, q1, rfl, p123, p124, hs36'⟩
 have hs36 : SH w w35 [rb] [oI b13' ([([0, 1, 10, 255, r1'] : List Int).getD r4'.toNat 0, r8', r10', r12'] : List Int) 4 3, oI b2' ([0, 1, 10, 255, r1'] : List Int) 5 3, .blk rb 78 [.slice Ab bs.length cb, I ((q1 : Nat) : Int)]] := hs35.callM 0 rfl hs36' (by intro k hk; simp at hk; exact hk.symm)
 clear hs36'
 refine nl ?_
 refine nN ?_
 refine bl ?_
 refine sq ?_
 refine rg ?_
 refine q trivial rfl rfl (eqi (k := .i64) (a := r1) (b := 0) rfl rfl) ?_
 refine q trivial rfl rfl (asg (v := .bool (decide (r1 = 0))) rfl) ?_
 refine nl ?_
 refine nN ?_
 refine cdd (p := r1 = 0) rfl (fun h1 => ?_) (fun h1 => ?_)
 · refine rg ?_
   refine q trivial rfl rfl (mv (v := sb b13' (([([0, 1, 10, 255, r1'] : List Int).getD r4'.toNat 0, r8', r10', r12'] : List Int).length) 4) rfl) ?_
   refine q trivial rfl rfl (mv (v := pb rb) rfl) ?_
   refine cl trivial rfl (pick (rb := rb) (Ab := Ab) (cb := cb) (bs := bs) (p := q1) (n := 4) (w := _) (hr := (blk_heap hs36 2 rfl)) (hb := (hb.up hs36 (fun _ h => h) (fun _ h => .inl h))) (hbn := (by first | assumption | (simp; omega))) (hp := (by omega))) ?_
   rintro _ w36 ⟨r2, q2, rfl, p125, p126, hs37'⟩
   have hs37 : SH w w36 [rb] [oI b13' ([([0, 1, 10, 255, r1'] : List Int).getD r4'.toNat 0, r8', r10', r12'] : List Int) 4 3, oI b2' ([0, 1, 10, 255, r1'] : List Int) 5 3, .blk rb 78 [.slice Ab bs.length cb, I ((q2 : Nat) : Int)]] := hs36.callM 2 rfl hs37' (by intro k hk; simp at hk; exact hk.symm)
   clear hs37'
   refine q trivial rfl rfl (ixo r2.toNat sl23 rfl (ieq (x := r2) (by omega)) (by first | omega | (simp; done) | (simp; omega))) ?_
   refine stomn (g := I) (ys := ([([0, 1, 10, 255, r1'] : List Int).getD r4'.toNat 0, r8', r10', r12'] : List Int)) (o := r2.toNat) (u := 256) hs37 0 rfl rfl rfl rfl (by first | omega | (simp; done) | (simp; omega)) rfl one3 trivial (fun w37 (hs38 : SH w w37 [rb] [oI b2' ([0, 1, 10, 255, r1'] : List Int) 5 3, .blk rb 78 [.slice Ab bs.length cb, I ((q2 : Nat) : Int)], .own (some ⟨b13', 0, none⟩) (([([0, 1, 10, 255, r1'] : List Int).getD r4'.toNat 0, r8', r10', r12'] : List Int).length) 4 3 1 ((([([0, 1, 10, 255, r1'] : List Int).getD r4'.toNat 0, r8', r10', r12'] : List Int).set r2.toNat 256).map I)]) => ?_)
   refine nl ?_
   refine bN ?_
   refine nN ?_
   refine sq ?_
   refine rg ?_
   refine q trivial rfl rfl (mv (v := sb b13' (([([0, 1, 10, 255, r1'] : List Int).getD r4'.toNat 0, r8', r10', r12'] : List Int).length) 4) rfl) ?_
   refine q trivial rfl rfl (asg (v := sb b13' (([([0, 1, 10, 255, r1'] : List Int).getD r4'.toNat 0, r8', r10', r12'] : List Int).length) 4) rfl) ?_
   refine nl ?_
   refine nN ?_
   refine rt ?_
   refine fret (v := sb b13' (([([0, 1, 10, 255, r1'] : List Int).getD r4'.toNat 0, r8', r10', r12'] : List Int).length) 4) (.tmp .nil) rfl ?_
   have e1 : ([([0, 1, 10, 255, r1'] : List Int).getD r4'.toNat 0, r8', r10', r12'] : List Int).length = (([([0, 1, 10, 255, r1'] : List Int).getD r4'.toNat 0, r8', r10', r12'] : List Int).set r2.toNat 256).length := by first | rfl | (simp; done) | (simp; omega) | omega
   exact ⟨(some ⟨b13', 0, none⟩), 4, ([([0, 1, 10, 255, r1'] : List Int).getD r4'.toNat 0, r8', r10', r12'] : List Int).set r2.toNat 256, q2, (slv rfl e1 rfl), (by first | omega | (simp; omega) | simp), (by omega), ((hs38.pick [1, 2] rfl (by decide)).cast (lc rfl (lc (own_eq (g := I) rfl e1 rfl rfl) rfl)))⟩
 · refine sq ?_
   refine rg ?_
   refine q trivial rfl rfl (eqi (k := .i64) (a := r1) (b := 1) rfl rfl) ?_
   refine q trivial rfl rfl (asg (v := .bool (decide (r1 = 1))) rfl) ?_
   refine nl ?_
   refine nN ?_
   refine cdd (p := r1 = 1) rfl (fun h2 => ?_) (fun h2 => ?_)
   · refine sq ?_
     refine rg ?_
     refine q trivial rfl rfl (mv (v := sb b13' (([([0, 1, 10, 255, r1'] : List Int).getD r4'.toNat 0, r8', r10', r12'] : List Int).length) 4) rfl) ?_
     have e2 : (([([0, 1, 10, 255, r1'] : List Int).getD r4'.toNat 0, r8', r10', r12'] : List Int).map I).take (3 * 1) = (([([0, 1, 10, 255, r1'] : List Int).getD r4'.toNat 0, r8', r10', r12'] : List Int).take 3).map I := by first | rfl | simp [List.map_take]
     have hs39 : SH w w35 [rb] [oI b2' ([0, 1, 10, 255, r1'] : List Int) 5 3, .blk rb 78 [.slice Ab bs.length cb, I ((q1 : Nat) : Int)], .own (some ⟨b13', 0, none⟩) 3 4 3 1 ((([([0, 1, 10, 255, r1'] : List Int).getD r4'.toNat 0, r8', r10', r12'] : List Int).take 3).map I)] := e2 ▸ SH.trunc hs36 0 (3) rfl (by first | omega | (simp; done) | (simp; omega))
     refine q trivial rfl rfl (cuh 3 sl23 rfl rfl (Nat.le_trans (by first | omega | (simp; done) | (simp; omega)) (own_cap hs36 0 rfl).1)) ?_
     refine q trivial rfl rfl (asg (v := sb b13' 3 4) rfl) ?_
     refine nl ?_
     refine nN ?_
     refine rt (bR (tR ?_))
     refine fret (v := sb b13' 3 4) (.tmp .nil) rfl ?_
     have e3 : 3 = (([([0, 1, 10, 255, r1'] : List Int).getD r4'.toNat 0, r8', r10', r12'] : List Int).take 3).length := by first | rfl | (simp; done) | (simp; omega) | omega
     exact ⟨(some ⟨b13', 0, none⟩), 4, ([([0, 1, 10, 255, r1'] : List Int).getD r4'.toNat 0, r8', r10', r12'] : List Int).take 3, q1, (slv rfl e3 rfl), (by first | omega | (simp; omega) | simp), (by omega), ((hs39.pick [1, 2] rfl (by decide)).cast (lc rfl (lc (own_eq (g := I) rfl e3 rfl rfl) rfl)))⟩
   · refine sk ?_
     refine bN ?_
     refine nN ?_
     refine sq ?_
     refine rg ?_
     refine q trivial rfl rfl (mv (v := sb b13' (([([0, 1, 10, 255, r1'] : List Int).getD r4'.toNat 0, r8', r10', r12'] : List Int).length) 4) rfl) ?_
     refine q trivial rfl rfl (asg (v := sb b13' (([([0, 1, 10, 255, r1'] : List Int).getD r4'.toNat 0, r8', r10', r12'] : List Int).length) 4) rfl) ?_
     refine nl ?_
     refine nN ?_
     refine rt ?_
     refine fret (v := sb b13' (([([0, 1, 10, 255, r1'] : List Int).getD r4'.toNat 0, r8', r10', r12'] : List Int).length) 4) (.tmp .nil) rfl ?_
     exact ⟨(some ⟨b13', 0, none⟩), 4, ([([0, 1, 10, 255, r1'] : List Int).getD r4'.toNat 0, r8', r10', r12'] : List Int), q1, rfl, (by first | omega | (simp; omega) | simp), (by omega), (hs36.pick [2, 0] rfl (by decide))⟩

set_option maxHeartbeats 8000000 in
theorem l91Port {rb : Nat} {Ab : Option Addr} {cb : Nat} {bs : List UInt8} {p : Nat} (w : World) (hr : w.heap[rb]? = some (.cells [.slice Ab bs.length cb, .int .i64 ((p : Nat) : Int)].toArray 78 (0, 0))) (hb : Sl w [rb] 1 Ab bs.length cb (bs.map U)) (hbn : bs.length ≤ 2000) (hp : p ≤ 549755813888) : Does Tryd.prog 68 [pb rb] w (fun v w' => ∃ r : Int, ∃ q : Nat, v = .int .i64 r ∧ (q ≤ p + 10) ∧ SH w w' [rb] [.blk rb 78 [.slice Ab bs.length cb, I ((q : Nat) : Int)]]) := by
 refine fn_enter (N := 18) Tryd.func68 rfl (by kernel_rfl) rfl rfl rfl ?_
 have hs0 : SH w w [rb] [.blk rb 78 [.slice Ab bs.length cb, I ((p : Nat) : Int)]] := SH.entry1 hr
 refine sq ?_
 refine rg ?_
 refine q trivial rfl rfl (asg (v := I 0) rfl) ?_
 refine nl ?_
 refine nN ?_
 refine sq ?_
 refine sq ?_
 refine rg ?_
 refine q trivial rfl rfl (mv (v := pb rb) rfl) ?_
 refine cl trivial rfl (pick (rb := rb) (Ab := Ab) (cb := cb) (bs := bs) (p := p) (n := 40) (w := _) (hr := (blk_heap hs0 0 rfl)) (hb := (hb.up hs0 (fun _ h => h) (fun _ h => .inl h))) (hbn := (by first | assumption | (simp; omega))) (hp := (by omega))) ?_
 rintro _ w1 ⟨r1, q1, rfl, p1, p2, hs1'⟩
 have hs1 : SH w w1 [rb] [.blk rb 78 [.slice Ab bs.length cb, I ((q1 : Nat) : Int)]] := hs0.callM 0 rfl hs1' (by intro k hk; simp at hk; exact hk.symm)
 clear hs1'
 refine q trivial rfl rfl (eqi (k := .i64) (a := r1) (b := 0) rfl rfl) ?_
 refine nl ?_
 refine nN ?_
 refine cdd (p := r1 = 0) rfl (fun h1 => ?_) (fun h1 => ?_)
 · refine sq ?_
   refine rg ?_
   refine bsk hs1 sl23 [I (-1), I 65536] [I (-1), I 65536] trivial rfl (fun b1 w2 (hs2 : SH w w2 [rb] [.blk rb 78 [.slice Ab bs.length cb, I ((q1 : Nat) : Int)], oI b1 ([(-1), 65536] : List Int) 2 3]) => ?_)
   refine q trivial rfl rfl (mv (v := pb rb) rfl) ?_
   refine cl trivial rfl (pick (rb := rb) (Ab := Ab) (cb := cb) (bs := bs) (p := q1) (n := 2) (w := _) (hr := (blk_heap hs2 0 rfl)) (hb := (hb.up hs2 (fun _ h => h) (fun _ h => .inl h))) (hbn := (by first | assumption | (simp; omega))) (hp := (by omega))) ?_
   rintro _ w3 ⟨r2, q2, rfl, p3, p4, hs3'⟩
   have hs3 : SH w w3 [rb] [oI b1 ([(-1), 65536] : List Int) 2 3, .blk rb 78 [.slice Ab bs.length cb, I ((q2 : Nat) : Int)]] := hs2.callM 0 rfl hs3' (by intro k hk; simp at hk; exact hk.symm)
   clear hs3'
   refine q trivial rfl rfl (ixo r2.toNat sl23 rfl (ieq (x := r2) (by omega)) (by first | omega | (simp; done) | (simp; omega))) ?_
   refine q trivial rfl rfl (ldo1n (g := I) (ys := ([(-1), 65536] : List Int)) (o := r2.toNat) 0 hs3 0 rfl rfl (by first | omega | (simp; done) | (simp; omega)) one3) ?_
   refine q trivial rfl rfl (asg (v := I (([(-1), 65536] : List Int).getD r2.toNat 0)) rfl) ?_
   refine nl ?_
   refine nN ?_
   refine rt (tR ?_)
   refine fret (v := I (([(-1), 65536] : List Int).getD r2.toNat 0)) (.tmp .nil) rfl ?_
   exact ⟨([(-1), 65536] : List Int).getD r2.toNat 0, q2, rfl, (by omega), (hs3.pick [1] rfl (by decide))⟩
 · refine sk ?_
   refine nN ?_
   refine sq ?_
   refine rg ?_
   refine q trivial rfl rfl (mv (v := pb rb) rfl) ?_
   refine cl trivial rfl (pick (rb := rb) (Ab := Ab) (cb := cb) (bs := bs) (p := q1) (n := 65536) (w := _) (hr := (blk_heap hs1 0 rfl)) (hb := (hb.up hs1 (fun _ h => h) (fun _ h => .inl h))) (hbn := (by first | assumption | (simp; omega))) (hp := (by omega))) ?_
   rintro _ w4 ⟨r3, q3, rfl, p5, p6, hs4'⟩
   have hs4 : SH w w4 [rb] [.blk rb 78 [.slice Ab bs.length cb, I ((q3 : Nat) : Int)]] := hs1.callM 0 rfl hs4' (by intro k hk; simp at hk; exact hk.symm)
   clear hs4'
   refine bsk hs4 sl23 [I 0, I 80, I 443, I 65535, I r3] [I 0, I 80, I 443, I 65535, I r3] trivial rfl (fun b2 w5 (hs5 : SH w w5 [rb] [.blk rb 78 [.slice Ab bs.length cb, I ((q3 : Nat) : Int)], oI b2 ([0, 80, 443, 65535, r3] : List Int) 5 3]) => ?_)
   refine q trivial rfl rfl (mv (v := pb rb) rfl) ?_
   refine cl trivial rfl (pick (rb := rb) (Ab := Ab) (cb := cb) (bs := bs) (p := q3) (n := 5) (w := _) (hr := (blk_heap hs5 0 rfl)) (hb := (hb.up hs5 (fun _ h => h) (fun _ h => .inl h))) (hbn := (by first | assumption | (simp; omega))) (hp := (by omega))) ?_
   rintro _ w6 ⟨r4, q4, rfl, p7, p8, hs6'⟩
   have hs6 : SH w w6 [rb] [oI b2 ([0, 80, 443, 65535, r3] : List Int) 5 3, .blk rb 78 [.slice Ab bs.length cb, I ((q4 : Nat) : Int)]] := hs5.callM 0 rfl hs6' (by intro k hk; simp at hk; exact hk.symm)
   clear hs6'
   refine q trivial rfl rfl (ixo r4.toNat sl23 rfl (ieq (x := r4) (by omega)) (by first | omega | (simp; done) | (simp; omega))) ?_
   refine q trivial rfl rfl (ldo1n (g := I) (ys := ([0, 80, 443, 65535, r3] : List Int)) (o := r4.toNat) 0 hs6 0 rfl rfl (by first | omega | (simp; done) | (simp; omega)) one3) ?_
   refine q trivial rfl rfl (asg (v := I (([0, 80, 443, 65535, r3] : List Int).getD r4.toNat 0)) rfl) ?_
   refine nl ?_
   refine nN ?_
   refine rt ?_
   refine fret (v := I (([0, 80, 443, 65535, r3] : List Int).getD r4.toNat 0)) (.tmp .nil) rfl ?_
   exact ⟨([0, 80, 443, 65535, r3] : List Int).getD r4.toNat 0, q4, rfl, (by omega), (hs6.pick [1] rfl (by decide))⟩

theorem l91Name {rb : Nat} {Ab : Option Addr} {cb : Nat} {bs : List UInt8} {p : Nat} (w : World) (hr : w.heap[rb]? = some (.cells [.slice Ab bs.length cb, .int .i64 ((p : Nat) : Int)].toArray 78 (0, 0))) (hb : Sl w [rb] 1 Ab bs.length cb (bs.map U)) (hbn : bs.length ≤ 2000) (hp : p ≤ 274877906944) : Does Tryd.prog 69 [pb rb] w (fun v w' => ∃ s : List UInt8, ∃ q : Nat, v = Str s ∧ (s.length ≤ 21) ∧ (q ≤ p + 10) ∧ SH w w' [rb] [.blk rb 78 [.slice Ab bs.length cb, I ((q : Nat) : Int)]]) := by
 refine fn_enter (N := 12) Tryd.func69 rfl (by kernel_rfl) rfl rfl rfl ?_
 have hs0 : SH w w [rb] [.blk rb 78 [.slice Ab bs.length cb, I ((p : Nat) : Int)]] := SH.entry1 hr
 refine sq ?_
 refine rg ?_
 refine q trivial rfl rfl (asg (v := Str []) rfl) ?_
 refine nl ?_
 refine nN ?_
 refine sq ?_
 refine sq ?_
 refine rg ?_
 refine q trivial rfl rfl (mv (v := pb rb) rfl) ?_
 refine cl trivial rfl (pick (rb := rb) (Ab := Ab) (cb := cb) (bs := bs) (p := p) (n := 20) (w := _) (hr := (blk_heap hs0 0 rfl)) (hb := (hb.up hs0 (fun _ h => h) (fun _ h => .inl h))) (hbn := (by first | assumption | (simp; omega))) (hp := (by omega))) ?_
 rintro _ w1 ⟨r1, q1, rfl, p1, p2, hs1'⟩
 have hs1 : SH w w1 [rb] [.blk rb 78 [.slice Ab bs.length cb, I ((q1 : Nat) : Int)]] := hs0.callM 0 rfl hs1' (by intro k hk; simp at hk; exact hk.symm)
 clear hs1'
 refine q trivial rfl rfl (eqi (k := .i64) (a := r1) (b := 0) rfl rfl) ?_
 refine nl ?_
 refine nN ?_
 refine cdd (p := r1 = 0) rfl (fun h1 => ?_) (fun h1 => ?_)
 · refine sq ?_
   refine rg ?_
   refine q trivial rfl rfl (mv (v := pb rb) rfl) ?_
   refine bsk hs1 sl88 [Str [], Str [97, 46, 46, 98], Str [46, 97], Str [97, 46], Str [65], Str [97, 95, 98], Str [97, 98, 99, 100, 101, 102, 103, 104, 105, 106, 107, 108, 109, 110, 111, 112, 113, 114, 115, 116], Str [97, 98, 99, 100, 101, 102, 103, 104, 105, 106, 107, 108, 109, 110, 111, 112, 113, 114, 115, 116, 117], Str [97, 46, 57]] [Str [], Str [97, 46, 46, 98], Str [46, 97], Str [97, 46], Str [65], Str [97, 95, 98], Str [97, 98, 99, 100, 101, 102, 103, 104, 105, 106, 107, 108, 109, 110, 111, 112, 113, 114, 115, 116], Str [97, 98, 99, 100, 101, 102, 103, 104, 105, 106, 107, 108, 109, 110, 111, 112, 113, 114, 115, 116, 117], Str [97, 46, 57]] trivial rfl (fun b1 w2 (hs2 : SH w w2 [rb] [.blk rb 78 [.slice Ab bs.length cb, I ((q1 : Nat) : Int)], .own (some ⟨b1, 0, none⟩) (([[], [97, 46, 46, 98], [46, 97], [97, 46], [65], [97, 95, 98], [97, 98, 99, 100, 101, 102, 103, 104, 105, 106, 107, 108, 109, 110, 111, 112, 113, 114, 115, 116], [97, 98, 99, 100, 101, 102, 103, 104, 105, 106, 107, 108, 109, 110, 111, 112, 113, 114, 115, 116, 117], [97, 46, 57]] : List (List UInt8)).length) 9 9 1 (([[], [97, 46, 46, 98], [46, 97], [97, 46], [65], [97, 95, 98], [97, 98, 99, 100, 101, 102, 103, 104, 105, 106, 107, 108, 109, 110, 111, 112, 113, 114, 115, 116], [97, 98, 99, 100, 101, 102, 103, 104, 105, 106, 107, 108, 109, 110, 111, 112, 113, 114, 115, 116, 117], [97, 46, 57]] : List (List UInt8)).map Str)]) => ?_)
   refine cl trivial rfl (rdOf (rb := rb) (Ab := Ab) (cb := cb) (bs := bs) (p := q1) (Ass := (some ⟨b1, 0, none⟩)) (css := 9) (ss := ([[], [97, 46, 46, 98], [46, 97], [97, 46], [65], [97, 95, 98], [97, 98, 99, 100, 101, 102, 103, 104, 105, 106, 107, 108, 109, 110, 111, 112, 113, 114, 115, 116], [97, 98, 99, 100, 101, 102, 103, 104, 105, 106, 107, 108, 109, 110, 111, 112, 113, 114, 115, 116, 117], [97, 46, 57]] : List (List UInt8))) (w := _) (hr := (blk_heap hs2 0 rfl)) (hb := (hb.up hs2 (fun _ h => h) (fun _ h => .inl h))) (hbn := (by first | assumption | (simp; omega))) (hp := (by omega)) (hss := (hs2.sl 1 rfl (by intro k hk; simp at hk; subst hk; exact ⟨_, memi 0 rfl, rfl⟩))) (hne := (by first | omega | assumption | (simp; done) | (simp; omega)))) ?_
   rintro _ w3 ⟨s1, q2, rfl, p3, p4, hs3'⟩
   have hs3 : SH w w3 [rb] [.own (some ⟨b1, 0, none⟩) (([[], [97, 46, 46, 98], [46, 97], [97, 46], [65], [97, 95, 98], [97, 98, 99, 100, 101, 102, 103, 104, 105, 106, 107, 108, 109, 110, 111, 112, 113, 114, 115, 116], [97, 98, 99, 100, 101, 102, 103, 104, 105, 106, 107, 108, 109, 110, 111, 112, 113, 114, 115, 116, 117], [97, 46, 57]] : List (List UInt8)).length) 9 9 1 (([[], [97, 46, 46, 98], [46, 97], [97, 46], [65], [97, 95, 98], [97, 98, 99, 100, 101, 102, 103, 104, 105, 106, 107, 108, 109, 110, 111, 112, 113, 114, 115, 116], [97, 98, 99, 100, 101, 102, 103, 104, 105, 106, 107, 108, 109, 110, 111, 112, 113, 114, 115, 116, 117], [97, 46, 57]] : List (List UInt8)).map Str), .blk rb 78 [.slice Ab bs.length cb, I ((q2 : Nat) : Int)]] := hs2.callM 0 rfl hs3' (by intro k hk; simp at hk; exact hk.symm)
   clear hs3'
   refine q trivial rfl rfl (asg (v := Str s1) rfl) ?_
   refine nl ?_
   refine nN ?_
   refine rt (tR ?_)
   refine fret (v := Str s1) (.tmp .nil) rfl ?_
   exact ⟨s1, q2, rfl, (by first | exact names9 (by assumption) | exact names6 (by assumption)), (by omega), (hs3.pick [1] rfl (by decide))⟩
 · refine sk ?_
   refine nN ?_
   refine sq ?_
   refine rg ?_
   refine q trivial rfl rfl (mv (v := pb rb) rfl) ?_
   refine bsk hs1 sl88 [Str [120, 46, 111, 114, 103], Str [119, 119, 119, 46, 120, 46, 111, 114, 103], Str [97], Str [98, 45, 99, 46, 110, 101, 116], Str [57, 97, 46, 98], Str [121]] [Str [120, 46, 111, 114, 103], Str [119, 119, 119, 46, 120, 46, 111, 114, 103], Str [97], Str [98, 45, 99, 46, 110, 101, 116], Str [57, 97, 46, 98], Str [121]] trivial rfl (fun b2 w4 (hs4 : SH w w4 [rb] [.blk rb 78 [.slice Ab bs.length cb, I ((q1 : Nat) : Int)], .own (some ⟨b2, 0, none⟩) (([[120, 46, 111, 114, 103], [119, 119, 119, 46, 120, 46, 111, 114, 103], [97], [98, 45, 99, 46, 110, 101, 116], [57, 97, 46, 98], [121]] : List (List UInt8)).length) 6 9 1 (([[120, 46, 111, 114, 103], [119, 119, 119, 46, 120, 46, 111, 114, 103], [97], [98, 45, 99, 46, 110, 101, 116], [57, 97, 46, 98], [121]] : List (List UInt8)).map Str)]) => ?_)
   refine cl trivial rfl (rdOf (rb := rb) (Ab := Ab) (cb := cb) (bs := bs) (p := q1) (Ass := (some ⟨b2, 0, none⟩)) (css := 6) (ss := ([[120, 46, 111, 114, 103], [119, 119, 119, 46, 120, 46, 111, 114, 103], [97], [98, 45, 99, 46, 110, 101, 116], [57, 97, 46, 98], [121]] : List (List UInt8))) (w := _) (hr := (blk_heap hs4 0 rfl)) (hb := (hb.up hs4 (fun _ h => h) (fun _ h => .inl h))) (hbn := (by first | assumption | (simp; omega))) (hp := (by omega)) (hss := (hs4.sl 1 rfl (by intro k hk; simp at hk; subst hk; exact ⟨_, memi 0 rfl, rfl⟩))) (hne := (by first | omega | assumption | (simp; done) | (simp; omega)))) ?_
   rintro _ w5 ⟨s2, q3, rfl, p5, p6, hs5'⟩
   have hs5 : SH w w5 [rb] [.own (some ⟨b2, 0, none⟩) (([[120, 46, 111, 114, 103], [119, 119, 119, 46, 120, 46, 111, 114, 103], [97], [98, 45, 99, 46, 110, 101, 116], [57, 97, 46, 98], [121]] : List (List UInt8)).length) 6 9 1 (([[120, 46, 111, 114, 103], [119, 119, 119, 46, 120, 46, 111, 114, 103], [97], [98, 45, 99, 46, 110, 101, 116], [57, 97, 46, 98], [121]] : List (List UInt8)).map Str), .blk rb 78 [.slice Ab bs.length cb, I ((q3 : Nat) : Int)]] := hs4.callM 0 rfl hs5' (by intro k hk; simp at hk; exact hk.symm)
   clear hs5'
   refine q trivial rfl rfl (asg (v := Str s2) rfl) ?_
   refine nl ?_
   refine nN ?_
   refine rt ?_
   refine fret (v := Str s2) (.tmp .nil) rfl ?_
   exact ⟨s2, q3, rfl, (by first | exact names9 (by assumption) | exact names6 (by assumption)), (by omega), (hs5.pick [1] rfl (by decide))⟩

set_option maxHeartbeats 8000000 in
theorem l91Address {rb : Nat} {Ab : Option Addr} {cb : Nat} {bs : List UInt8} {p : Nat} (w : World) (hr : w.heap[rb]? = some (.cells [.slice Ab bs.length cb, .int .i64 ((p : Nat) : Int)].toArray 78 (0, 0))) (hb : Sl w [rb] 1 Ab bs.length cb (bs.map U)) (hbn : bs.length ≤ 2000) (hp : p ≤ 137438953472) : Does Tryd.prog 52 [pb rb] w (fun v w' => ∃ Aqr : Option Addr, ∃ cqr : Nat, ∃ ak : Int, ∃ aq : List Int, ∃ an : List UInt8, ∃ apt : Int, ∃ q : Nat, v = .agg #[.int .i64 ak, .slice Aqr aq.length cqr, Str an, .int .i64 apt] ∧ (aq.length ≤ 4) ∧ (an.length ≤ 21) ∧ (q ≤ p + 40) ∧ SH w w' [rb] [.blk rb 78 [.slice Ab bs.length cb, I ((q : Nat) : Int)], .own Aqr aq.length cqr 3 1 (aq.map I)]) := by
 refine fn_enter (N := 25) Tryd.func52 rfl (by kernel_rfl) rfl rfl rfl ?_
 have hs0 : SH w w [rb] [.blk rb 78 [.slice Ab bs.length cb, I ((p : Nat) : Int)]] := SH.entry1 hr
 refine sq ?_
 refine rg ?_
 refine al (v := .agg #[I 0, ns, Str [], I 0]) (cs := [I 0, ns, Str [], I 0]) hs0 tz27 rfl trivial rfl (fun b1 w1 (hs1 : SH w w1 [rb] [.blk rb 78 [.slice Ab bs.length cb, I ((p : Nat) : Int)], .blk b1 27 [I 0, ns, Str [], I 0]]) => ?_)
 refine nl ?_
 refine nN ?_
 refine sq ?_
 refine sq ?_
 refine rg ?_
 refine q trivial rfl rfl (mv (v := pb rb) rfl) ?_
 refine cl trivial rfl (pick (rb := rb) (Ab := Ab) (cb := cb) (bs := bs) (p := p) (n := 2) (w := _) (hr := (blk_heap hs1 0 rfl)) (hb := (hb.up hs1 (fun _ h => h) (fun _ h => .inl h))) (hbn := (by first | assumption | (simp; omega))) (hp := (by omega))) ?_
 rintro _ w2 ⟨r1, q1, rfl, p1, p2, hs2'⟩
 have hs2 : SH w w2 [rb] [.blk b1 27 [I 0, ns, Str [], I 0], .blk rb 78 [.slice Ab bs.length cb, I ((q1 : Nat) : Int)]] := hs1.callM 0 rfl hs2' (by intro k hk; simp at hk; exact hk.symm)
 clear hs2'
 refine q trivial rfl rfl (eqi (k := .i64) (a := r1) (b := 0) rfl rfl) ?_
 refine nl ?_
 refine nN ?_
 refine cdd (p := r1 = 0) rfl (fun h1 => ?_) (fun h1 => ?_)
 · refine sq ?_
   refine rg ?_
   refine q trivial rfl rfl (mv (v := pb rb) rfl) ?_
   refine cl trivial rfl (l91Quad (rb := rb) (Ab := Ab) (cb := cb) (bs := bs) (p := q1) (w := _) (hr := (blk_heap hs2 1 rfl)) (hb := (hb.up hs2 (fun _ h => h) (fun _ h => .inl h))) (hbn := (by first | assumption | (simp; omega))) (hp := (by omega))) ?_
   rintro _ w3 ⟨A1, c1, r2, q2, rfl, p3, p4, hs3'⟩
   have hs3 : SH w w3 [rb] [.blk b1 27 [I 0, ns, Str [], I 0], .blk rb 78 [.slice Ab bs.length cb, I ((q2 : Nat) : Int)], .own A1 r2.length c1 3 1 (r2.map I)] := hs2.callM 1 rfl hs3' (by intro k hk; simp at hk; exact hk.symm)
   clear hs3'
   refine q trivial rfl rfl (mv (v := pb rb) rfl) ?_
   refine cl trivial rfl (l91Port (rb := rb) (Ab := Ab) (cb := cb) (bs := bs) (p := q2) (w := _) (hr := (blk_heap hs3 1 rfl)) (hb := (hb.up hs3 (fun _ h => h) (fun _ h => .inl h))) (hbn := (by first | assumption | (simp; omega))) (hp := (by omega))) ?_
   rintro _ w4 ⟨r3, q3, rfl, p5, hs4'⟩
   have hs4 : SH w w4 [rb] [.blk b1 27 [I 0, ns, Str [], I 0], .own A1 r2.length c1 3 1 (r2.map I), .blk rb 78 [.slice Ab bs.length cb, I ((q3 : Nat) : Int)]] := hs3.callM 1 rfl hs4' (by intro k hk; simp at hk; exact hk.symm)
   clear hs4'
   refine q trivial rfl rfl (bdv (v := .agg #[I 1, .slice A1 r2.length c1, Str [], I r3]) [(0, I 1), (1, .slice A1 r2.length c1), (3, I r3)] rfl (fun _ => by kernel_rfl)) ?_
   refine stg (vs := [I 1, .slice A1 r2.length c1, Str [], I r3]) hs4 0 rfl rfl rfl rfl rfl rfl rfl ag27 trivial (fun w5 (hs5 : SH w w5 [rb] [.own A1 r2.length c1 3 1 (r2.map I), .blk rb 78 [.slice Ab bs.length cb, I ((q3 : Nat) : Int)], .blk b1 27 [I 1, .slice A1 r2.length c1, Str [], I r3]]) => ?_)
   refine nl ?_
   refine nN ?_
   refine rt (tR ?_)
   refine fret (v := .agg #[I 1, .slice A1 r2.length c1, Str [], I r3]) (resC hs5 2 rfl rfl ag27 rfl .nil) rfl ?_
   exact ⟨A1, c1, 1, r2, [], r3, q3, rfl, (by first | omega | simp), (by first | omega | simp), (by omega), (hs5.pick [1, 0] rfl (by decide))⟩
 · refine sk ?_
   refine nN ?_
   refine sq ?_
   refine rg ?_
   refine bsk hs2 sl23 [] [] trivial rfl (fun b2 w6 (hs6 : SH w w6 [rb] [.blk b1 27 [I 0, ns, Str [], I 0], .blk rb 78 [.slice Ab bs.length cb, I ((q1 : Nat) : Int)], oI b2 ([] : List Int) 0 3]) => ?_)
   refine q trivial rfl rfl (mv (v := pb rb) rfl) ?_
   refine cl trivial rfl (l91Name (rb := rb) (Ab := Ab) (cb := cb) (bs := bs) (p := q1) (w := _) (hr := (blk_heap hs6 1 rfl)) (hb := (hb.up hs6 (fun _ h => h) (fun _ h => .inl h))) (hbn := (by first | assumption | (simp; omega))) (hp := (by omega))) ?_
   rintro _ w7 ⟨s1, q4, rfl, p6, p7, hs7'⟩
   have hs7 : SH w w7 [rb] [.blk b1 27 [I 0, ns, Str [], I 0], oI b2 ([] : List Int) 0 3, .blk rb 78 [.slice Ab bs.length cb, I ((q4 : Nat) : Int)]] := hs6.callM 1 rfl hs7' (by intro k hk; simp at hk; exact hk.symm)
   clear hs7'
   refine q trivial rfl rfl (mv (v := pb rb) rfl) ?_
   refine cl trivial rfl (l91Port (rb := rb) (Ab := Ab) (cb := cb) (bs := bs) (p := q4) (w := _) (hr := (blk_heap hs7 2 rfl)) (hb := (hb.up hs7 (fun _ h => h) (fun _ h => .inl h))) (hbn := (by first | assumption | (simp; omega))) (hp := (by omega))) ?_
   rintro _ w8 ⟨r4, q5, rfl, p8, hs8'⟩
   have hs8 : SH w w8 [rb] [.blk b1 27 [I 0, ns, Str [], I 0], oI b2 ([] : List Int) 0 3, .blk rb 78 [.slice Ab bs.length cb, I ((q5 : Nat) : Int)]] := hs7.callM 2 rfl hs8' (by intro k hk; simp at hk; exact hk.symm)
   clear hs8'
   refine q trivial rfl rfl (bdv (v := .agg #[I 3, sb b2 (([] : List Int).length) 0, Str s1, I r4]) [(0, I 3), (1, sb b2 (([] : List Int).length) 0), (2, Str s1), (3, I r4)] rfl (fun _ => by kernel_rfl)) ?_
   refine al (v := .agg #[I 0, ns, Str [], I 0]) (cs := [I 0, ns, Str [], I 0]) hs8 tz27 rfl trivial rfl (fun b3 w9 (hs9 : SH w w9 [rb] [.blk b1 27 [I 0, ns, Str [], I 0], oI b2 ([] : List Int) 0 3, .blk rb 78 [.slice Ab bs.length cb, I ((q5 : Nat) : Int)], .blk b3 27 [I 0, ns, Str [], I 0]]) => ?_)
   refine stg (vs := [I 3, sb b2 (([] : List Int).length) 0, Str s1, I r4]) hs9 3 rfl rfl rfl rfl rfl rfl rfl ag27 trivial (fun w10 (hs10 : SH w w10 [rb] [.blk b1 27 [I 0, ns, Str [], I 0], oI b2 ([] : List Int) 0 3, .blk rb 78 [.slice Ab bs.length cb, I ((q5 : Nat) : Int)], .blk b3 27 [I 3, sb b2 (([] : List Int).length) 0, Str s1, I r4]]) => ?_)
   refine nl ?_
   refine nN ?_
   refine sq ?_
   refine sq ?_
   refine rg ?_
   refine q trivial rfl rfl (mv (v := pb rb) rfl) ?_
   refine cl trivial rfl (pick (rb := rb) (Ab := Ab) (cb := cb) (bs := bs) (p := q5) (n := 40) (w := _) (hr := (blk_heap hs10 2 rfl)) (hb := (hb.up hs10 (fun _ h => h) (fun _ h => .inl h))) (hbn := (by first | assumption | (simp; omega))) (hp := (by omega))) ?_
   rintro _ w11 ⟨r5, q6, rfl, p9, p10, hs11'⟩
   have hs11 : SH w w11 [rb] [.blk b1 27 [I 0, ns, Str [], I 0], oI b2 ([] : List Int) 0 3, .blk b3 27 [I 3, sb b2 (([] : List Int).length) 0, Str s1, I r4], .blk rb 78 [.slice Ab bs.length cb, I ((q6 : Nat) : Int)]] := hs10.callM 2 rfl hs11' (by intro k hk; simp at hk; exact hk.symm)
   clear hs11'
   refine q trivial rfl rfl (eqi (k := .i64) (a := r5) (b := 0) rfl rfl) ?_
   refine nl ?_
   refine nN ?_
   refine cdd (p := r5 = 0) rfl (fun h2 => ?_) (fun h2 => ?_)
   · refine rg ?_
     refine q trivial rfl rfl (mv (v := pb rb) rfl) ?_
     refine cl trivial rfl (pick (rb := rb) (Ab := Ab) (cb := cb) (bs := bs) (p := q6) (n := 5) (w := _) (hr := (blk_heap hs11 3 rfl)) (hb := (hb.up hs11 (fun _ h => h) (fun _ h => .inl h))) (hbn := (by first | assumption | (simp; omega))) (hp := (by omega))) ?_
     rintro _ w12 ⟨r6, q7, rfl, p11, p12, hs12'⟩
     have hs12 : SH w w12 [rb] [.blk b1 27 [I 0, ns, Str [], I 0], oI b2 ([] : List Int) 0 3, .blk b3 27 [I 3, sb b2 (([] : List Int).length) 0, Str s1, I r4], .blk rb 78 [.slice Ab bs.length cb, I ((q7 : Nat) : Int)]] := hs11.callM 3 rfl hs12' (by intro k hk; simp at hk; exact hk.symm)
     clear hs12'
     refine q trivial rfl rfl (fa 0 fo27_0 rfl) ?_
     refine st (v := I r6) hs12 2 rfl rfl rfl rfl rfl one3 trivial (fun w13 (hs13 : SH w w13 [rb] [.blk b1 27 [I 0, ns, Str [], I 0], oI b2 ([] : List Int) 0 3, .blk rb 78 [.slice Ab bs.length cb, I ((q7 : Nat) : Int)], .blk b3 27 [I r6, sb b2 (([] : List Int).length) 0, Str s1, I r4]]) => ?_)
     refine nl ?_
     refine nN ?_
     refine sq ?_
     refine rg ?_
     refine q trivial rfl rfl (ldg (vs := [I r6, sb b2 (([] : List Int).length) 0, Str s1, I r4]) hs13 3 rfl rfl rfl rfl ag27) ?_
     refine stg (vs := [I r6, sb b2 (([] : List Int).length) 0, Str s1, I r4]) hs13 0 rfl rfl rfl rfl rfl rfl rfl ag27 trivial (fun w14 (hs14 : SH w w14 [rb] [oI b2 ([] : List Int) 0 3, .blk rb 78 [.slice Ab bs.length cb, I ((q7 : Nat) : Int)], .blk b3 27 [I r6, sb b2 (([] : List Int).length) 0, Str s1, I r4], .blk b1 27 [I r6, sb b2 (([] : List Int).length) 0, Str s1, I r4]]) => ?_)
     refine nl ?_
     refine nN ?_
     refine rt ?_
     refine fret (v := .agg #[I r6, sb b2 (([] : List Int).length) 0, Str s1, I r4]) (resC hs14 3 rfl rfl ag27 rfl .nil) rfl ?_
     exact ⟨(some ⟨b2, 0, none⟩), 0, r6, ([] : List Int), s1, r4, q7, rfl, (by first | omega | simp), (by first | omega | simp), (by omega), (hs14.pick [1, 0] rfl (by decide))⟩
   · refine sk ?_
     refine nN ?_
     refine sq ?_
     refine rg ?_
     refine q trivial rfl rfl (ldg (vs := [I 3, sb b2 (([] : List Int).length) 0, Str s1, I r4]) hs11 2 rfl rfl rfl rfl ag27) ?_
     refine stg (vs := [I 3, sb b2 (([] : List Int).length) 0, Str s1, I r4]) hs11 0 rfl rfl rfl rfl rfl rfl rfl ag27 trivial (fun w15 (hs15 : SH w w15 [rb] [oI b2 ([] : List Int) 0 3, .blk b3 27 [I 3, sb b2 (([] : List Int).length) 0, Str s1, I r4], .blk rb 78 [.slice Ab bs.length cb, I ((q6 : Nat) : Int)], .blk b1 27 [I 3, sb b2 (([] : List Int).length) 0, Str s1, I r4]]) => ?_)
     refine nl ?_
     refine nN ?_
     refine rt ?_
     refine fret (v := .agg #[I 3, sb b2 (([] : List Int).length) 0, Str s1, I r4]) (resC hs15 3 rfl rfl ag27 rfl .nil) rfl ?_
     exact ⟨(some ⟨b2, 0, none⟩), 0, 3, ([] : List Int), s1, r4, q6, rfl, (by first | omega | simp), (by first | omega | simp), (by omega), (hs15.pick [2, 0] rfl (by decide))⟩


end Go.Proofs.YtpddahloogjghaaDoor
