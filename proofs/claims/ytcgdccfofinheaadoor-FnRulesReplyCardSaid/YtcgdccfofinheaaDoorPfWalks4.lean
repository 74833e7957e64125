/-
  Part of the proofs over this seat: what each function of the program computes, function by function (the text is written by a program of this hand-in's own).
  Conditions: each theorem states its own.
-/
import Derived.Test.YtcgdccfofinheaaDoorPfWalks3
namespace Go.Proofs.YtcgdccfofinheaaDoor
open Go.PF
set_option maxRecDepth 100000
set_option linter.unusedSimpArgs false
set_option linter.unusedVariables false

theorem sRulesAllow {Azs : Option Addr} {czs : Nat} (zs : List (List UInt8 × Int × Bool)) (ak : Int) {Aaq : Option Addr} {caq : Nat} (aq : List Int) (an : List UInt8) (apt : Int) (w : World) (hzs : Sl w [] 3 Azs zs.length czs (zs.flatMap gRule)) (hzs_e : ∀ u ∈ zs, u.1.length ≤ 9223372036854775807) (haq : Sl w [] 1 Aaq aq.length caq (aq.map I)) (han_n : an.length ≤ 1099511627776) : Does Tryd.prog 50 [.slice Azs zs.length czs, .agg #[I ak, .slice Aaq aq.length caq, Str an, I apt]] w (fun v w' => v = .bool (rulesAllow zs ak aq an apt) ∧ SH w w' [] []) := by
 refine fn_enter (N := 31) Tryd.func50 rfl (by kernel_rfl) rfl rfl rfl ?_
 have hs0 : SH w w [] [] := SH.refl w []
 have hzs_m : zs.length ≤ 9223372036854775807 := Nat.le_trans hzs.cap hzs.capMax
 have haq_m : aq.length ≤ 9223372036854775807 := Nat.le_trans haq.cap haq.capMax
 refine sq ?_
 refine rg ?_
 refine bx (v := .agg #[I ak, .slice Aaq aq.length caq, Str an, I apt]) (cs := [I ak, .slice Aaq aq.length caq, Str an, I apt]) hs0 rfl rfl trivial rfl (fun b1 w1 (hs1 : SH w w1 [] [.blk b1 25 [I ak, .slice Aaq aq.length caq, Str an, I apt]]) => ?_)
 refine q trivial rfl rfl (asg (v := .bool false) rfl) ?_
 refine nl ?_
 refine nN ?_
 refine sq ?_
 refine sq ?_
 refine rg ?_
 refine q trivial rfl rfl (asg (v := I 0) rfl) ?_
 refine nl ?_
 refine nN ?_
 refine bl ?_
 refine lp (σ := Nat) (fun (k : Nat) f w' => Has f [(0, .slice Azs zs.length czs), (3, pB b1), (5, I ((k : Nat) : Int))] ∧ (k ≤ zs.length) ∧ (∀ j, j < k → fitB (zs.getD j rule0) (hostT ak aq an) apt = false) ∧ SH w w' [] [.blk b1 25 [I ak, .slice Aaq aq.length caq, Str an, I apt]]) (fun k => zs.length - k) 0 ⟨⟨rfl, rfl, rfl, trivial⟩, (by simp), (by intro j hj; omega), hs1⟩ ?_
 rintro k f w2 ⟨hf, hk, hn, hs2⟩
 obtain ⟨g1, rfl⟩ := has_upd hf
 clear hf
 refine sq ?_
 refine sq ?_
 refine rg ?_
 refine q trivial rfl rfl (mv (v := I ((k : Nat) : Int)) rfl) ?_
 refine q trivial rfl rfl (mv (v := .slice Azs zs.length czs) rfl) ?_
 refine q trivial rfl rfl (lnA (n := zs.length) sl42 rfl) ?_
 refine q trivial rfl rfl (lss (k := .i64) (a := ((k : Nat) : Int)) (b := ((zs.length : Nat) : Int)) rfl rfl) ?_
 refine q trivial rfl rfl (mv (v := .bool (decide (((k : Nat) : Int) < ((zs.length : Nat) : Int)))) rfl) ?_
 refine spd (p := ((k : Nat) : Int) < ((zs.length : Nat) : Int)) 10 rfl (fun h1 => ?_) (fun h1 => ?_)
 · refine q ⟨_, rfl, rfl⟩ rfl rfl (mv (v := .slice Azs zs.length czs) rfl) ?_
   refine cl ⟨_, rfl, rfl⟩ rfl (sRulesValid (Azs := Azs) (czs := czs) (zs := zs) (w := _) (hzs := (hzs.up0 hs2)) (hzs_e := hzs_e)) ?_
   rintro _ w3 ⟨rfl, hs3'⟩
   have hs3 : SH w w3 [] [.blk b1 25 [I ak, .slice Aaq aq.length caq, Str an, I apt]] := hs2.call0 hs3'
   clear hs3'
   refine q trivial rfl rfl (pt (v := .bool (rulesOk zs)) rfl rfl) ?_
   refine q trivial rfl rfl (mv (v := .bool (rulesOk zs)) rfl) ?_
   refine spl (b := rulesOk zs) 14 rfl (fun h2 => ?_) (fun h2 => ?_)
   · refine q ⟨_, rfl, rfl⟩ rfl rfl (ldg (vs := [I ak, .slice Aaq aq.length caq, Str an, I apt]) hs3 0 rfl rfl rfl rfl ag25) ?_
     refine cl ⟨_, rfl, rfl⟩ rfl (sAddressValid (ak := ak) (Aaq := Aaq) (caq := caq) (aq := aq) (an := an) (apt := apt) (w := _) (haq := (haq.up0 hs3)) (han_n := (by first | (first | omega | (simp; done) | (simp; omega)) | (have hre := hzs_e _ (getD_mem' (d := rule0) (show k < zs.length by omega)); first | omega | (simp; done) | (simp; omega))))) ?_
     rintro _ w4 ⟨rfl, hs4'⟩
     have hs4 : SH w w4 [] [.blk b1 25 [I ak, .slice Aaq aq.length caq, Str an, I apt]] := hs3.call0 hs4'
     clear hs4'
     refine q trivial rfl rfl (pt (v := .bool (addrOk ak aq an apt)) rfl rfl) ?_
     refine nl ?_
     refine nN ?_
     refine cd (b := addrOk ak aq an apt) rfl (fun h3 => ?_) (fun h3 => ?_)
     · refine sk ?_
       refine nN ?_
       refine sq ?_
       refine bl ?_
       refine sq ?_
       refine rq (fun w' => SH w w' [] [.blk b1 25 [I ak, .slice Aaq aq.length caq, Str an, I apt]]) mixed (by kernel_rfl) hs4.drew ?_
       refine qq trivial rfl rfl (fun wq hsq => mv (v := .slice Azs zs.length czs) rfl) ?_
       refine qq trivial rfl rfl (fun wq hsq => mv (v := I ((k : Nat) : Int)) rfl) ?_
       refine ixqf (g := gRule) (zs := zs) (fun _ => rfl) rule0 k sl42 rfl rfl hzs (by first | (first | omega | (simp; done) | (simp; omega)) | (have hre := hzs_e _ (getD_mem' (d := rule0) (show k < zs.length by omega)); first | omega | (simp; done) | (simp; omega))) (by first | (first | omega | (simp; done) | (simp; omega)) | (have hre := hzs_e _ (getD_mem' (d := rule0) (show k < zs.length by omega)); first | omega | (simp; done) | (simp; omega))) trivial rfl (fun a1 ha1 => ?_)
       refine qq trivial rfl rfl (fun wq hsq => ldag (us := [Str ((zs.getD k rule0).1), I ((zs.getD k rule0).2.1), .bool ((zs.getD k rule0).2.2)]) hsq ha1 (fun _ h => h) rfl rfl ag83) ?_
       refine qq trivial rfl rfl (fun wq hsq => ldg (vs := [I ak, .slice Aaq aq.length caq, Str an, I apt]) hsq 0 rfl rfl rfl rfl ag25) ?_
       refine qc (.bool (fitB (((zs.getD k rule0).1), ((zs.getD k rule0).2.1), ((zs.getD k rule0).2.2)) (hostT ak aq an) apt)) trivial rfl (fun wq hsq => (sL32Fits (l := (zs.getD k rule0).1) (n := (zs.getD k rule0).2.1) (b := ((zs.getD k rule0).2.2)) (ak := ak) (Aaq := Aaq) (caq := caq) (aq := aq) (an := an) (apt := apt) (w := _) (hl_n := (by first | (first | omega | (simp; done) | (simp; omega)) | (have hre := hzs_e _ (getD_mem' (d := rule0) (show k < zs.length by omega)); first | omega | (simp; done) | (simp; omega)))) (haq := (haq.up0 hsq)) (han_n := (by first | (first | omega | (simp; done) | (simp; omega)) | (have hre := hzs_e _ (getD_mem' (d := rule0) (show k < zs.length by omega)); first | omega | (simp; done) | (simp; omega)))) (hok := (by first | (first | omega | assumption | (simp; done) | (simp; omega)) | (have hre := hzs_e _ (getD_mem' (d := rule0) (show k < zs.length by omega)); first | omega | assumption | (simp; done) | (simp; omega))))).mono (fun v w' h => ⟨h.1, by simpa using hsq.call0 h.2⟩)) ?_
       refine qn (fun w5 hs5 => ?_)
       refine nN ?_
       refine cd (b := fitB (((zs.getD k rule0).1), ((zs.getD k rule0).2.1), ((zs.getD k rule0).2.2)) (hostT ak aq an) apt) rfl (fun h4 => ?_) (fun h4 => ?_)
       · refine sq ?_
         refine rg ?_
         refine q trivial rfl rfl (mv (v := .slice Azs zs.length czs) rfl) ?_
         refine q trivial rfl rfl (mv (v := I ((k : Nat) : Int)) rfl) ?_
         refine ixwf (g := gRule) (zs := zs) (fun _ => rfl) rule0 k sl42 rfl rfl hzs (by first | (first | omega | (simp; done) | (simp; omega)) | (have hre := hzs_e _ (getD_mem' (d := rule0) (show k < zs.length by omega)); first | omega | (simp; done) | (simp; omega))) (by first | (first | omega | (simp; done) | (simp; omega)) | (have hre := hzs_e _ (getD_mem' (d := rule0) (show k < zs.length by omega)); first | omega | (simp; done) | (simp; omega))) trivial rfl (fun a2 ha2 => ?_)
         refine q trivial rfl rfl (fap 2 fo83_2 rfl) ?_
         refine q trivial rfl rfl (ldf (v := .bool ((zs.getD k rule0).2.2)) 2 hs5 ha2 (fun _ h => h) rfl rfl one4) ?_
         refine q trivial rfl rfl (asg (v := .bool ((zs.getD k rule0).2.2)) rfl) ?_
         refine nl ?_
         refine nN ?_
         refine rt (bR (tR (tR (bR (tR ?_)))))
         refine fret (v := .bool ((zs.getD k rule0).2.2)) (.tmp .nil) rfl ?_
         have e1 : ((zs.getD k rule0).2.2) = rulesAllow zs ak aq an apt := by first | (rw [rulesAllow_ok (by assumption) (by assumption)]; exact (allow_yes (by omega) hn (by assumption)).symm) | exact (rulesAllow_no (.inl (by assumption))).symm | exact (rulesAllow_no (.inr (by assumption))).symm | exact (rulesAllow_end (by omega) hn).symm
         exact ⟨(congrArg (Value.bool) e1), (hs5.pick [] rfl (by decide))⟩
       · refine sk ?_
         refine bN ?_
         refine nN ?_
         refine rg ?_
         refine q trivial rfl rfl (mv (v := I ((k : Nat) : Int)) rfl) ?_
         refine q trivial rfl rfl (add (a := ((k : Nat) : Int)) (b := 1) rfl rfl (by first | (exact ⟨by omega, by omega⟩) | (have hre := hzs_e _ (getD_mem' (d := rule0) (show k < zs.length by omega)); exact ⟨by omega, by omega⟩))) ?_
         refine q trivial rfl rfl (asg (v := I (((k : Nat) : Int) + 1)) rfl) ?_
         refine nl ?_
         refine nN ?_
         refine ⟨(k + 1), ⟨⟨rfl, rfl, rfl, trivial⟩, (by omega), (by intro j hj; rcases Nat.lt_succ_iff_lt_or_eq.1 hj with h | h; exact hn j h; subst h; assumption), hs5⟩, ?_⟩
         omega
     · refine ex (tE (tE (bE ?_)))
       refine nN ?_
       refine sq ?_
       refine rg ?_
       refine q trivial rfl rfl (asg (v := .bool false) rfl) ?_
       refine nl ?_
       refine nN ?_
       refine rt ?_
       refine fret (v := .bool false) (.tmp .nil) rfl ?_
       have e2 : false = rulesAllow zs ak aq an apt := by first | (rw [rulesAllow_ok (by assumption) (by assumption)]; exact (allow_yes (by omega) hn (by assumption)).symm) | exact (rulesAllow_no (.inl (by assumption))).symm | exact (rulesAllow_no (.inr (by assumption))).symm | exact (rulesAllow_end (by omega) hn).symm
       exact ⟨(congrArg (Value.bool) e2), (hs4.pick [] rfl (by decide))⟩
   · refine gk false rfl rfl rfl rfl rfl ?_
     refine gk false rfl rfl rfl rfl rfl ?_
     refine q trivial rfl rfl (pf (v := .bool false) rfl rfl) ?_
     refine nl ?_
     refine nN ?_
     refine cdf rfl ?_
     refine ex (tE (tE (bE ?_)))
     refine nN ?_
     refine sq ?_
     refine rg ?_
     refine q trivial rfl rfl (asg (v := .bool false) rfl) ?_
     refine nl ?_
     refine nN ?_
     refine rt ?_
     refine fret (v := .bool false) (.tmp .nil) rfl ?_
     have e3 : false = rulesAllow zs ak aq an apt := by first | (rw [rulesAllow_ok (by assumption) (by assumption)]; exact (allow_yes (by omega) hn (by assumption)).symm) | exact (rulesAllow_no (.inl (by assumption))).symm | exact (rulesAllow_no (.inr (by assumption))).symm | exact (rulesAllow_end (by omega) hn).symm
     exact ⟨(congrArg (Value.bool) e3), (hs3.pick [] rfl (by decide))⟩
 · refine gk false rfl rfl rfl rfl rfl ?_
   refine gk false rfl rfl rfl rfl rfl ?_
   refine q trivial rfl rfl (pf (v := .bool false) rfl rfl) ?_
   refine q trivial rfl rfl (mv (v := .bool false) rfl) ?_
   refine gk false rfl rfl rfl rfl rfl ?_
   refine gk false rfl rfl rfl rfl rfl ?_
   refine q trivial rfl rfl (pf (v := .bool false) rfl rfl) ?_
   refine nl ?_
   refine nN ?_
   refine cdf rfl ?_
   refine ex (tE (tE (bE ?_)))
   refine nN ?_
   refine sq ?_
   refine rg ?_
   refine q trivial rfl rfl (asg (v := .bool false) rfl) ?_
   refine nl ?_
   refine nN ?_
   refine rt ?_
   refine fret (v := .bool false) (.tmp .nil) rfl ?_
   have e4 : false = rulesAllow zs ak aq an apt := by first | (rw [rulesAllow_ok (by assumption) (by assumption)]; exact (allow_yes (by omega) hn (by assumption)).symm) | exact (rulesAllow_no (.inl (by assumption))).symm | exact (rulesAllow_no (.inr (by assumption))).symm | exact (rulesAllow_end (by omega) hn).symm
   exact ⟨(congrArg (Value.bool) e4), (hs2.pick [] rfl (by decide))⟩

theorem iAddressText (ak : Int) {Aaq : Option Addr} {caq : Nat} (aq : List Int) (an : List UInt8) (apt : Int) (w : World) (haq : Sl w [] 1 Aaq aq.length caq (aq.map I)) (han_n : an.length ≤ 1099511627776) (hok : addrOk ak aq an apt = true) (hGp : Lib.TabIs Tryd.prog w "internal/strconv.uint64pow10" .u64 Lib.pow10Tab) : Does Tryd.prog 70 [.agg #[I ak, .slice Aaq aq.length caq, Str an, I apt]] w (fun v w' => v = Str (hostT ak aq an ++ [58] ++ Lib.itoa apt) ∧ SH w w' [] []) := by
 refine fn_enter (N := 10) Tryd.func70 rfl (by kernel_rfl) rfl rfl rfl ?_
 have hs0 : SH w w [] [] := SH.refl w []
 have haq_m : aq.length ≤ 9223372036854775807 := Nat.le_trans haq.cap haq.capMax
 refine sq ?_
 refine rg ?_
 refine bx (v := .agg #[I ak, .slice Aaq aq.length caq, Str an, I apt]) (cs := [I ak, .slice Aaq aq.length caq, Str an, I apt]) hs0 rfl rfl trivial rfl (fun b1 w1 (hs1 : SH w w1 [] [.blk b1 25 [I ak, .slice Aaq aq.length caq, Str an, I apt]]) => ?_)
 refine q trivial rfl rfl (asg (v := Str []) rfl) ?_
 refine nl ?_
 refine nN ?_
 refine sq ?_
 refine rq (fun w' => SH w w' [] [.blk b1 25 [I ak, .slice Aaq aq.length caq, Str an, I apt]]) mixed (by kernel_rfl) hs1.drew ?_
 refine qq trivial rfl rfl (fun wq hsq => ldg (vs := [I ak, .slice Aaq aq.length caq, Str an, I apt]) hsq 0 rfl rfl rfl rfl ag25) ?_
 refine qc (Str (hostT ak aq an)) trivial rfl (fun wq hsq => (iHostText (ak := ak) (Aaq := Aaq) (caq := caq) (aq := aq) (an := an) (apt := apt) (w := _) (haq := (haq.up0 hsq)) (han_n := (by first | (first | omega | (simp; done) | (simp; omega)) | (have haf := addrOk_fit hok; have hhl := hostT_len hok; have hil := Lib.itoa_length_le apt (by omega) (by omega); first | omega | (simp; done) | (simp; omega)))) (hok := (by first | (first | omega | assumption | (simp; done) | (simp; omega)) | (have haf := addrOk_fit hok; have hhl := hostT_len hok; have hil := Lib.itoa_length_le apt (by omega) (by omega); first | omega | assumption | (simp; done) | (simp; omega)))) (hGp := (tab_up hGp hsq))).mono (fun v w' h => ⟨h.1, by simpa using hsq.call0 h.2⟩)) ?_
 refine qq trivial rfl rfl (fun wq hsq => cat (l := hostT ak aq an) (m := [58]) rfl rfl (by have haf := addrOk_fit hok; have hhl := hostT_len hok; have hil := Lib.itoa_length_le apt (by omega) (by omega); simp only [List.length_append, List.length_cons, List.length_nil]; omega)) ?_
 refine qq trivial rfl rfl (fun wq hsq => fa 3 fo25_3 rfl) ?_
 refine qq trivial rfl rfl (fun wq hsq => ld (v := I apt) hsq 0 rfl rfl rfl one3) ?_
 refine qc (Str (Lib.itoa apt)) trivial rfl (fun wq hsq => (stItoa (n := apt) (w := _) (hn := (by first | (first | omega | assumption | (simp; done) | (simp; omega)) | (have haf := addrOk_fit hok; have hhl := hostT_len hok; have hil := Lib.itoa_length_le apt (by omega) (by omega); first | omega | assumption | (simp; done) | (simp; omega)))) (hGp := (tab_up hGp hsq))).mono (fun v w' h => ⟨h.1, by simpa using hsq.call0 h.2⟩)) ?_
 refine qq trivial rfl rfl (fun wq hsq => cat (l := (hostT ak aq an) ++ [58]) (m := Lib.itoa apt) rfl rfl (by have haf := addrOk_fit hok; have hhl := hostT_len hok; have hil := Lib.itoa_length_le apt (by omega) (by omega); simp only [List.length_append, List.length_cons, List.length_nil]; omega)) ?_
 refine qq trivial rfl rfl (fun wq hsq => asg (v := Str (((hostT ak aq an) ++ [58]) ++ (Lib.itoa apt))) rfl) ?_
 refine qn (fun w2 hs2 => ?_)
 refine nN ?_
 refine rt ?_
 refine fret (v := Str (((hostT ak aq an) ++ [58]) ++ (Lib.itoa apt))) (.tmp .nil) rfl ?_
 have e1 : ((hostT ak aq an) ++ [58]) ++ (Lib.itoa apt) = hostT ak aq an ++ [58] ++ Lib.itoa apt := by first | rfl | (simp; done) | (simp_all; done) | omega
 exact ⟨(congrArg (Str) e1), (hs2.pick [] rfl (by decide))⟩

theorem iAddressTextQ (ak : Int) {Aaq : Option Addr} {caq : Nat} (aq : List Int) (an : List UInt8) (apt : Int) (w : World) (haq : Sl w [] 1 Aaq aq.length caq (aq.map I)) (han_n : an.length ≤ 1099511627776) (hGp : Lib.TabIs Tryd.prog w "internal/strconv.uint64pow10" .u64 Lib.pow10Tab) : Does Tryd.prog 42 [.agg #[I ak, .slice Aaq aq.length caq, Str an, I apt]] w (fun v w' => v = Str (addrT ak aq an apt) ∧ SH w w' [] []) := by
 refine fn_enter (N := 8) Tryd.func42 rfl (by kernel_rfl) rfl rfl rfl ?_
 have hs0 : SH w w [] [] := SH.refl w []
 have haq_m : aq.length ≤ 9223372036854775807 := Nat.le_trans haq.cap haq.capMax
 refine sq ?_
 refine rg ?_
 refine bx (v := .agg #[I ak, .slice Aaq aq.length caq, Str an, I apt]) (cs := [I ak, .slice Aaq aq.length caq, Str an, I apt]) hs0 rfl rfl trivial rfl (fun b1 w1 (hs1 : SH w w1 [] [.blk b1 25 [I ak, .slice Aaq aq.length caq, Str an, I apt]]) => ?_)
 refine q trivial rfl rfl (asg (v := Str []) rfl) ?_
 refine nl ?_
 refine nN ?_
 refine sq ?_
 refine sq ?_
 refine rg ?_
 refine q trivial rfl rfl (ldg (vs := [I ak, .slice Aaq aq.length caq, Str an, I apt]) hs1 0 rfl rfl rfl rfl ag25) ?_
 refine cl trivial rfl (iAddressValid (ak := ak) (Aaq := Aaq) (caq := caq) (aq := aq) (an := an) (apt := apt) (w := _) (haq := (haq.up0 hs1)) (han_n := (by first | omega | (simp; done) | (simp; omega)))) ?_
 rintro _ w2 ⟨rfl, hs2'⟩
 have hs2 : SH w w2 [] [.blk b1 25 [I ak, .slice Aaq aq.length caq, Str an, I apt]] := hs1.call0 hs2'
 clear hs2'
 refine q trivial rfl rfl (nt (b := addrOk ak aq an apt) rfl) ?_
 refine nl ?_
 refine nN ?_
 refine cd (b := !(addrOk ak aq an apt)) rfl (fun h1 => ?_) (fun h1 => ?_)
 · have h2 : (addrOk ak aq an apt) = false := by simpa using h1
   refine sq ?_
   refine rg ?_
   refine q trivial rfl rfl (asg (v := Str []) rfl) ?_
   refine nl ?_
   refine nN ?_
   refine rt (tR ?_)
   refine fret (v := Str []) (.tmp .nil) rfl ?_
   have e1 : [] = addrT ak aq an apt := by simp [addrT, h2]
   exact ⟨(congrArg (Str) e1), (hs2.pick [] rfl (by decide))⟩
 · have h3 : (addrOk ak aq an apt) = true := by simpa using h1
   refine sk ?_
   refine nN ?_
   refine sq ?_
   refine rg ?_
   refine q trivial rfl rfl (ldg (vs := [I ak, .slice Aaq aq.length caq, Str an, I apt]) hs2 0 rfl rfl rfl rfl ag25) ?_
   refine cl trivial rfl (iAddressText (ak := ak) (Aaq := Aaq) (caq := caq) (aq := aq) (an := an) (apt := apt) (w := _) (haq := (haq.up0 hs2)) (han_n := (by first | omega | (simp; done) | (simp; omega))) (hok := (by first | omega | assumption | (simp; done) | (simp; omega))) (hGp := (tab_up hGp hs2))) ?_
   rintro _ w3 ⟨rfl, hs3'⟩
   have hs3 : SH w w3 [] [.blk b1 25 [I ak, .slice Aaq aq.length caq, Str an, I apt]] := hs2.call0 hs3'
   clear hs3'
   refine q trivial rfl rfl (asg (v := Str (hostT ak aq an ++ [58] ++ Lib.itoa apt)) rfl) ?_
   refine nl ?_
   refine nN ?_
   refine rt ?_
   refine fret (v := Str (hostT ak aq an ++ [58] ++ Lib.itoa apt)) (.tmp .nil) rfl ?_
   have e2 : hostT ak aq an ++ [58] ++ Lib.itoa apt = addrT ak aq an apt := by simp [addrT, h3]
   exact ⟨(congrArg (Str) e2), (hs3.pick [] rfl (by decide))⟩

theorem slEqual {Axs : Option Addr} {cxs : Nat} (xs : List Int) {Abs : Option Addr} {cbs : Nat} (bs : List Int) (w : World) (hxs : Sl w [] 1 Axs xs.length cxs (xs.map I)) (hbs : Sl w [] 1 Abs bs.length cbs (bs.map I)) : Does Tryd.prog 66 [.slice Axs xs.length cxs, .slice Abs bs.length cbs] w (fun v w' => v = .bool (decide (xs = bs)) ∧ SH w w' [] []) := by
 refine fn_enter (N := 26) Tryd.func66 rfl (by kernel_rfl) rfl rfl rfl ?_
 have hs0 : SH w w [] [] := SH.refl w []
 have hxs_m : xs.length ≤ 9223372036854775807 := Nat.le_trans hxs.cap hxs.capMax
 have hbs_m : bs.length ≤ 9223372036854775807 := Nat.le_trans hbs.cap hbs.capMax
 refine sq ?_
 refine rg ?_
 refine q trivial rfl rfl (asg (v := .bool false) rfl) ?_
 refine nl ?_
 refine nN ?_
 refine sq ?_
 refine sq ?_
 refine rg ?_
 refine q trivial rfl rfl (mv (v := .slice Axs xs.length cxs) rfl) ?_
 refine q trivial rfl rfl (lnA (n := xs.length) sl23 rfl) ?_
 refine q trivial rfl rfl (mv (v := .slice Abs bs.length cbs) rfl) ?_
 refine q trivial rfl rfl (lnA (n := bs.length) sl23 rfl) ?_
 refine q trivial rfl rfl (nei (k := .i64) (a := ((xs.length : Nat) : Int)) (b := ((bs.length : Nat) : Int)) rfl rfl) ?_
 refine nl ?_
 refine nN ?_
 refine cdd (p := ((xs.length : Nat) : Int) ≠ ((bs.length : Nat) : Int)) rfl (fun h1 => ?_) (fun h1 => ?_)
 · refine sq ?_
   refine rg ?_
   refine q trivial rfl rfl (asg (v := .bool false) rfl) ?_
   refine nl ?_
   refine nN ?_
   refine rt (tR ?_)
   refine fret (v := .bool false) (.tmp .nil) rfl ?_
   have e1 : false = (decide (xs = bs)) := by simp; intro h; subst h; exact h1 rfl
   exact ⟨(congrArg (Value.bool) e1), hs0⟩
 · refine sk ?_
   refine nN ?_
   refine sq ?_
   refine sq ?_
   refine rg ?_
   refine q trivial rfl rfl (mv (v := .slice Axs xs.length cxs) rfl) ?_
   refine q trivial rfl rfl (lnA (n := xs.length) sl23 rfl) ?_
   refine q trivial rfl rfl (mv (v := I 0) rfl) ?_
   refine nl ?_
   refine nN ?_
   refine bl ?_
   refine lp (σ := Nat) (fun (k : Nat) f w' => Has f [(0, .slice Axs xs.length cxs), (1, .slice Abs bs.length cbs), (12, I ((xs.length : Nat) : Int)), (13, I ((k : Nat) : Int))] ∧ (xs.length = bs.length) ∧ (k ≤ xs.length) ∧ (xs.take k = bs.take k) ∧ SH w w' [] []) (fun k => xs.length - k) 0 ⟨⟨rfl, rfl, rfl, rfl, trivial⟩, (by omega), (by simp), (by simp), hs0⟩ ?_
   rintro k f w1 ⟨hf, hl, hk, ha, hs1⟩
   obtain ⟨g1, rfl⟩ := has_upd hf
   clear hf
   refine sq ?_
   refine rg ?_
   refine q trivial rfl rfl (lss (k := .i64) (a := ((k : Nat) : Int)) (b := ((xs.length : Nat) : Int)) rfl rfl) ?_
   refine nl ?_
   refine nN ?_
   refine sq ?_
   refine cdd (p := ((k : Nat) : Int) < ((xs.length : Nat) : Int)) rfl (fun h2 => ?_) (fun h2 => ?_)
   · refine sk ?_
     refine nN ?_
     refine sq ?_
     refine bl ?_
     refine sq ?_
     refine rg ?_
     refine q trivial rfl rfl (mv (v := I ((k : Nat) : Int)) rfl) ?_
     refine q trivial rfl rfl (asg (v := I ((k : Nat) : Int)) rfl) ?_
     refine nl ?_
     refine nN ?_
     refine sq ?_
     refine rq (fun w' => SH w w' [] []) mixed (by kernel_rfl) hs1.drew ?_
     refine qq trivial rfl rfl (fun wq hsq => mv (v := .slice Axs xs.length cxs) rfl) ?_
     refine qq trivial rfl rfl (fun wq hsq => mv (v := I ((k : Nat) : Int)) rfl) ?_
     refine ixq1 k sl23 rfl rfl hxs (by first | omega | (simp; done) | (simp; omega)) (getm I 0 (by first | omega | (simp; done) | (simp; omega))) trivial rfl (fun a1 ha1 => ?_)
     refine qq trivial rfl rfl (fun wq hsq => lda (v := I (xs.getD k 0)) hsq ha1 (fun _ h => h) rfl rfl one3) ?_
     refine qq trivial rfl rfl (fun wq hsq => mv (v := .slice Abs bs.length cbs) rfl) ?_
     refine qq trivial rfl rfl (fun wq hsq => mv (v := I ((k : Nat) : Int)) rfl) ?_
     refine ixq1 k sl23 rfl rfl hbs (by first | omega | (simp; done) | (simp; omega)) (getm I 0 (by first | omega | (simp; done) | (simp; omega))) trivial rfl (fun a2 ha2 => ?_)
     refine qq trivial rfl rfl (fun wq hsq => lda (v := I (bs.getD k 0)) hsq ha2 (fun _ h => h) rfl rfl one3) ?_
     refine qq trivial rfl rfl (fun wq hsq => nei (k := .i64) (a := xs.getD k 0) (b := bs.getD k 0) rfl rfl) ?_
     refine qn (fun w2 hs2 => ?_)
     refine nN ?_
     refine cdd (p := (xs.getD k 0) ≠ (bs.getD k 0)) rfl (fun h3 => ?_) (fun h3 => ?_)
     · refine sq ?_
       refine rg ?_
       refine q trivial rfl rfl (asg (v := .bool false) rfl) ?_
       refine nl ?_
       refine nN ?_
       refine rt (bR (tR (tR (bR (tR ?_)))))
       refine fret (v := .bool false) (.tmp .nil) rfl ?_
       have e2 : false = (decide (xs = bs)) := by simp; intro h; subst h; exact h3 rfl
       exact ⟨(congrArg (Value.bool) e2), hs2⟩
     · refine sk ?_
       refine bN ?_
       refine nN ?_
       refine rg ?_
       refine q trivial rfl rfl (add (a := ((k : Nat) : Int)) (b := 1) rfl rfl (by exact ⟨by omega, by omega⟩)) ?_
       refine q trivial rfl rfl (mv (v := I (((k : Nat) : Int) + 1)) rfl) ?_
       refine nl ?_
       refine nN ?_
       refine ⟨(k + 1), ⟨⟨rfl, rfl, rfl, rfl, trivial⟩, (hl), (by omega), (take_succ_eq (by omega) (by omega) ha (by simpa using h3)), hs2⟩, ?_⟩
       omega
   · refine ex (tE (tE (bE ?_)))
     refine nN ?_
     refine sq ?_
     refine rg ?_
     refine q trivial rfl rfl (asg (v := .bool true) rfl) ?_
     refine nl ?_
     refine nN ?_
     refine rt ?_
     refine fret (v := .bool true) (.tmp .nil) rfl ?_
     have e3 : true = (decide (xs = bs)) := by simp; exact take_all_eq hl (by omega) ha
     exact ⟨(congrArg (Value.bool) e3), hs1⟩

theorem iIsOld (c : Int) (ak : Int) {Aaq : Option Addr} {caq : Nat} (aq : List Int) (an : List UInt8) (apt : Int) (us : List UInt8) (w : World) (haq : Sl w [] 1 Aaq aq.length caq (aq.map I)) (han_n : an.length ≤ 1099511627776) (hus_n : us.length ≤ 2147483648) : Does Tryd.prog 34 [.agg #[I c, I ak, .slice Aaq aq.length caq, Str an, I apt, Str us]] w (fun v w' => v = .bool (oldOk c ak aq an apt us) ∧ SH w w' [] []) := by
 refine fn_enter (N := 32) Tryd.func34 rfl (by kernel_rfl) rfl rfl rfl ?_
 have hs0 : SH w w [] [] := SH.refl w []
 have haq_m : aq.length ≤ 9223372036854775807 := Nat.le_trans haq.cap haq.capMax
 refine sq ?_
 refine rg ?_
 refine bx (v := .agg #[I c, I ak, .slice Aaq aq.length caq, Str an, I apt, Str us]) (cs := [I c, I ak, .slice Aaq aq.length caq, Str an, I apt, Str us]) hs0 rfl rfl trivial rfl (fun b1 w1 (hs1 : SH w w1 [] [.blk b1 34 [I c, I ak, .slice Aaq aq.length caq, Str an, I apt, Str us]]) => ?_)
 refine q trivial rfl rfl (asg (v := .bool false) rfl) ?_
 refine nl ?_
 refine nN ?_
 refine sq ?_
 refine sq ?_
 refine rg ?_
 refine q trivial rfl rfl (fa 0 fo34_0 rfl) ?_
 refine q trivial rfl rfl (ld (v := I c) hs1 0 rfl rfl rfl one3) ?_
 refine cl trivial rfl (iWithin (x := c) (lo := 1) (hi := 2) (w := _)) ?_
 rintro _ w2 ⟨rfl, hs2'⟩
 have hs2 : SH w w2 [] [.blk b1 34 [I c, I ak, .slice Aaq aq.length caq, Str an, I apt, Str us]] := hs1.call0 hs2'
 clear hs2'
 refine q trivial rfl rfl (nd (p := 1 ≤ c ∧ c ≤ 2) rfl) ?_
 refine q trivial rfl rfl (mv (v := .bool (decide (¬ (1 ≤ c ∧ c ≤ 2)))) rfl) ?_
 refine spd (p := ¬ (1 ≤ c ∧ c ≤ 2)) 7 rfl (fun h1 => ?_) (fun h1 => ?_)
 · refine gk true rfl rfl rfl rfl rfl ?_
   refine gk true rfl rfl rfl rfl rfl ?_
   refine gk true rfl rfl rfl rfl rfl ?_
   refine gk true rfl rfl rfl rfl rfl ?_
   refine q trivial rfl rfl (pt (v := .bool true) rfl rfl) ?_
   refine q trivial rfl rfl (mv (v := .bool true) rfl) ?_
   refine gk true rfl rfl rfl rfl rfl ?_
   refine gk true rfl rfl rfl rfl rfl ?_
   refine gk true rfl rfl rfl rfl rfl ?_
   refine gk true rfl rfl rfl rfl rfl ?_
   refine q trivial rfl rfl (pt (v := .bool true) rfl rfl) ?_
   refine nl ?_
   refine nN ?_
   refine cdt rfl ?_
   refine sq ?_
   refine rg ?_
   refine q trivial rfl rfl (asg (v := .bool false) rfl) ?_
   refine nl ?_
   refine nN ?_
   refine rt (tR ?_)
   refine fret (v := .bool false) (.tmp .nil) rfl ?_
   have e1 : false = oldOk c ak aq an apt us := by first | exact (oldOk_3 (by first | assumption | exact Decidable.not_not.1 (by assumption)) (by assumption) (by assumption) (by assumption)).symm | (rw [oldOk_1 (by first | assumption | exact Decidable.not_not.1 (by assumption)) (by assumption) (by assumption) (by assumption)]; simp; done) | (simp [oldOk, h1]; done) | (simp only [oldOk, h1, decide_true, decide_false, Bool.true_and, Bool.false_and, Bool.and_true, Bool.false_or, Bool.true_or, Bool.not_true, Bool.not_false]; done) | (simp [oldOk, h1] <;> omega)
   exact ⟨(congrArg (Value.bool) e1), (hs2.pick [] rfl (by decide))⟩
 · refine q ⟨_, rfl, rfl⟩ rfl rfl (fa 1 fo34_1 rfl) ?_
   refine q ⟨_, rfl, rfl⟩ rfl rfl (ldg (vs := [I ak, .slice Aaq aq.length caq, Str an, I apt]) hs2 0 rfl rfl rfl rfl ag25) ?_
   refine cl ⟨_, rfl, rfl⟩ rfl (iAddressValid (ak := ak) (Aaq := Aaq) (caq := caq) (aq := aq) (an := an) (apt := apt) (w := _) (haq := (haq.up0 hs2)) (han_n := (by first | (first | omega | (simp; done) | (simp; omega)) | (have h4_ := (addr_quad4 (by assumption : addrOk ak aq an apt = true) (by assumption)).1; first | omega | (simp; done) | (simp; omega))))) ?_
   rintro _ w3 ⟨rfl, hs3'⟩
   have hs3 : SH w w3 [] [.blk b1 34 [I c, I ak, .slice Aaq aq.length caq, Str an, I apt, Str us]] := hs2.call0 hs3'
   clear hs3'
   refine q ⟨_, rfl, rfl⟩ rfl rfl (nt (b := addrOk ak aq an apt) rfl) ?_
   refine q trivial rfl rfl (pf (v := .bool (!(addrOk ak aq an apt))) rfl rfl) ?_
   refine q trivial rfl rfl (mv (v := .bool (!(addrOk ak aq an apt))) rfl) ?_
   refine spl (b := !(addrOk ak aq an apt)) 13 rfl (fun h2 => ?_) (fun h2 => ?_)
   · have h3 : (addrOk ak aq an apt) = false := by simpa using h2
     refine gk true rfl rfl rfl rfl rfl ?_
     refine gk true rfl rfl rfl rfl rfl ?_
     refine gk true rfl rfl rfl rfl rfl ?_
     refine gk true rfl rfl rfl rfl rfl ?_
     refine q trivial rfl rfl (pt (v := .bool true) rfl rfl) ?_
     refine nl ?_
     refine nN ?_
     refine cdt rfl ?_
     refine sq ?_
     refine rg ?_
     refine q trivial rfl rfl (asg (v := .bool false) rfl) ?_
     refine nl ?_
     refine nN ?_
     refine rt (tR ?_)
     refine fret (v := .bool false) (.tmp .nil) rfl ?_
     have e2 : false = oldOk c ak aq an apt us := by first | exact (oldOk_3 (by first | assumption | exact Decidable.not_not.1 (by assumption)) (by assumption) (by assumption) (by assumption)).symm | (rw [oldOk_1 (by first | assumption | exact Decidable.not_not.1 (by assumption)) (by assumption) (by assumption) (by assumption)]; simp; done) | (simp [oldOk, h1, h3]; done) | (simp only [oldOk, h1, h3, decide_true, decide_false, Bool.true_and, Bool.false_and, Bool.and_true, Bool.false_or, Bool.true_or, Bool.not_true, Bool.not_false]; done) | (simp [oldOk, h1, h3] <;> omega)
     exact ⟨(congrArg (Value.bool) e2), (hs3.pick [] rfl (by decide))⟩
   · have h4 : (addrOk ak aq an apt) = true := by simpa using h2
     refine q ⟨_, rfl, rfl⟩ rfl rfl (fa 5 fo34_2 rfl) ?_
     refine q ⟨_, rfl, rfl⟩ rfl rfl (ld (v := Str us) hs3 0 rfl rfl rfl one9) ?_
     refine cl ⟨_, rfl, rfl⟩ rfl (iUserValid (s := us) (w := _) (hs_n := (by first | (first | omega | (simp; done) | (simp; omega)) | (have h4_ := (addr_quad4 (by assumption : addrOk ak aq an apt = true) (by assumption)).1; first | omega | (simp; done) | (simp; omega))))) ?_
     rintro _ w4 ⟨rfl, hs4'⟩
     have hs4 : SH w w4 [] [.blk b1 34 [I c, I ak, .slice Aaq aq.length caq, Str an, I apt, Str us]] := hs3.call0 hs4'
     clear hs4'
     refine q ⟨_, rfl, rfl⟩ rfl rfl (nt (b := userOk us) rfl) ?_
     refine q trivial rfl rfl (pf (v := .bool (!(userOk us))) rfl rfl) ?_
     refine nl ?_
     refine nN ?_
     refine cd (b := !(userOk us)) rfl (fun h5 => ?_) (fun h5 => ?_)
     · have h6 : (userOk us) = false := by simpa using h5
       refine sq ?_
       refine rg ?_
       refine q trivial rfl rfl (asg (v := .bool false) rfl) ?_
       refine nl ?_
       refine nN ?_
       refine rt (tR ?_)
       refine fret (v := .bool false) (.tmp .nil) rfl ?_
       have e3 : false = oldOk c ak aq an apt us := by first | exact (oldOk_3 (by first | assumption | exact Decidable.not_not.1 (by assumption)) (by assumption) (by assumption) (by assumption)).symm | (rw [oldOk_1 (by first | assumption | exact Decidable.not_not.1 (by assumption)) (by assumption) (by assumption) (by assumption)]; simp; done) | (simp [oldOk, h1, h4, h6]; done) | (simp only [oldOk, h1, h4, h6, decide_true, decide_false, Bool.true_and, Bool.false_and, Bool.and_true, Bool.false_or, Bool.true_or, Bool.not_true, Bool.not_false]; done) | (simp [oldOk, h1, h4, h6] <;> omega)
       exact ⟨(congrArg (Value.bool) e3), (hs4.pick [] rfl (by decide))⟩
     · have h7 : (userOk us) = true := by simpa using h5
       refine sk ?_
       refine nN ?_
       refine sq ?_
       refine rg ?_
       refine q trivial rfl rfl (fa 1 fo34_1 rfl) ?_
       refine q trivial rfl rfl (fa 0 fo25_0 rfl) ?_
       refine q trivial rfl rfl (ld (v := I ak) hs4 0 rfl rfl rfl one3) ?_
       refine q trivial rfl rfl (eqi (k := .i64) (a := ak) (b := 3) rfl rfl) ?_
       refine q trivial rfl rfl (mv (v := .bool (decide (ak = 3))) rfl) ?_
       refine spd (p := ak = 3) 23 rfl (fun h8 => ?_) (fun h8 => ?_)
       · refine gk true rfl rfl rfl rfl rfl ?_
         refine gk true rfl rfl rfl rfl rfl ?_
         refine gk true rfl rfl rfl rfl rfl ?_
         refine gk true rfl rfl rfl rfl rfl ?_
         refine gk true rfl rfl rfl rfl rfl ?_
         refine gk true rfl rfl rfl rfl rfl ?_
         refine gk true rfl rfl rfl rfl rfl ?_
         refine q trivial rfl rfl (pt (v := .bool true) rfl rfl) ?_
         refine q trivial rfl rfl (asg (v := .bool true) rfl) ?_
         refine nl ?_
         refine nN ?_
         refine rt ?_
         refine fret (v := .bool true) (.tmp .nil) rfl ?_
         have e4 : true = oldOk c ak aq an apt us := by first | exact (oldOk_3 (by first | assumption | exact Decidable.not_not.1 (by assumption)) (by assumption) (by assumption) (by assumption)).symm | (rw [oldOk_1 (by first | assumption | exact Decidable.not_not.1 (by assumption)) (by assumption) (by assumption) (by assumption)]; simp; done) | (simp [oldOk, h1, h4, h7, h8]; done) | (simp only [oldOk, h1, h4, h7, h8, decide_true, decide_false, Bool.true_and, Bool.false_and, Bool.and_true, Bool.false_or, Bool.true_or, Bool.not_true, Bool.not_false]; done) | (simp [oldOk, h1, h4, h7, h8] <;> omega)
         exact ⟨(congrArg (Value.bool) e4), (hs4.pick [] rfl (by decide))⟩
       · refine q ⟨_, rfl, rfl⟩ rfl rfl (fa 1 fo34_1 rfl) ?_
         refine q ⟨_, rfl, rfl⟩ rfl rfl (fa 1 fo25_1 rfl) ?_
         refine q ⟨_, rfl, rfl⟩ rfl rfl (ld (v := .slice Aaq aq.length caq) hs4 0 rfl rfl rfl one23) ?_
         refine q ⟨_, rfl, rfl⟩ rfl rfl (cuhm_ (zs := aq) 3 sl23 rfl rfl (by first | (first | omega | (simp; done) | (simp; omega)) | (have h4_ := (addr_quad4 (by assumption : addrOk ak aq an apt = true) (by assumption)).1; first | omega | (simp; done) | (simp; omega))) haq.cap) ?_
         refine bsk hs4 sl23 [I 0, I 0, I 0] [I 0, I 0, I 0] ⟨_, rfl, rfl⟩ rfl (fun b2 w5 (hs5 : SH w w5 [] [.blk b1 34 [I c, I ak, .slice Aaq aq.length caq, Str an, I apt, Str us], oI b2 ([0, 0, 0] : List Int) 3 3]) => ?_)
         refine cl ⟨_, rfl, rfl⟩ rfl (slEqual (Axs := Aaq) (cxs := caq) (xs := aq.take 3) (Abs := (some ⟨b2, 0, none⟩)) (cbs := 3) (bs := ([0, 0, 0] : List Int)) (w := _) (hxs := (Sl.cuthm (haq.up0 hs5) (by first | (first | omega | (simp; done) | (simp; omega)) | (have h4_ := (addr_quad4 (by assumption : addrOk ak aq an apt = true) (by assumption)).1; first | omega | (simp; done) | (simp; omega))))) (hbs := (hs5.sl0 1 rfl))) ?_
         rintro _ w6 ⟨rfl, hs6'⟩
         have hs6 : SH w w6 [] [.blk b1 34 [I c, I ak, .slice Aaq aq.length caq, Str an, I apt, Str us], oI b2 ([0, 0, 0] : List Int) 3 3] := hs5.call0 hs6'
         clear hs6'
         refine q ⟨_, rfl, rfl⟩ rfl rfl (nd (p := (aq.take 3) = ([0, 0, 0] : List Int)) rfl) ?_
         refine q trivial rfl rfl (pf (v := .bool (decide (¬ ((aq.take 3) = ([0, 0, 0] : List Int))))) rfl rfl) ?_
         refine q trivial rfl rfl (asg (v := .bool (decide (¬ ((aq.take 3) = ([0, 0, 0] : List Int))))) rfl) ?_
         refine nl ?_
         refine nN ?_
         refine rt ?_
         refine fret (v := .bool (decide (¬ ((aq.take 3) = ([0, 0, 0] : List Int))))) (.tmp .nil) rfl ?_
         have e5 : (decide (¬ ((aq.take 3) = ([0, 0, 0] : List Int)))) = oldOk c ak aq an apt us := by first | exact (oldOk_3 (by first | assumption | exact Decidable.not_not.1 (by assumption)) (by assumption) (by assumption) (by assumption)).symm | (rw [oldOk_1 (by first | assumption | exact Decidable.not_not.1 (by assumption)) (by assumption) (by assumption) (by assumption)]; simp; done) | (simp [oldOk, h1, h4, h7, h8]; done) | (simp only [oldOk, h1, h4, h7, h8, decide_true, decide_false, Bool.true_and, Bool.false_and, Bool.and_true, Bool.false_or, Bool.true_or, Bool.not_true, Bool.not_false]; done) | (simp [oldOk, h1, h4, h7, h8] <;> omega)
         exact ⟨(congrArg (Value.bool) e5), (hs6.pick [] rfl (by decide))⟩

theorem sL4Ok (c : Int) (ak : Int) {Aaq : Option Addr} {caq : Nat} (aq : List Int) (an : List UInt8) (apt : Int) (us : List UInt8) (w : World) (haq : Sl w [] 1 Aaq aq.length caq (aq.map I)) (han_n : an.length ≤ 1099511627776) (hus_n : us.length ≤ 2147483648) : Does Tryd.prog 57 [.agg #[I c, I ak, .slice Aaq aq.length caq, Str an, I apt, Str us]] w (fun v w' => v = .bool (oldOk c ak aq an apt us) ∧ SH w w' [] []) := by
 refine fn_enter (N := 43) Tryd.func57 rfl (by kernel_rfl) rfl rfl rfl ?_
 have hs0 : SH w w [] [] := SH.refl w []
 have haq_m : aq.length ≤ 9223372036854775807 := Nat.le_trans haq.cap haq.capMax
 refine sq ?_
 refine rg ?_
 refine bx (v := .agg #[I c, I ak, .slice Aaq aq.length caq, Str an, I apt, Str us]) (cs := [I c, I ak, .slice Aaq aq.length caq, Str an, I apt, Str us]) hs0 rfl rfl trivial rfl (fun b1 w1 (hs1 : SH w w1 [] [.blk b1 34 [I c, I ak, .slice Aaq aq.length caq, Str an, I apt, Str us]]) => ?_)
 refine q trivial rfl rfl (asg (v := .bool false) rfl) ?_
 refine nl ?_
 refine nN ?_
 refine sq ?_
 refine sq ?_
 refine rg ?_
 refine q trivial rfl rfl (fa 0 fo34_0 rfl) ?_
 refine q trivial rfl rfl (ld (v := I c) hs1 0 rfl rfl rfl one3) ?_
 refine cl trivial rfl (sIn (x := c) (lo := 1) (hi := 2) (w := _)) ?_
 rintro _ w2 ⟨rfl, hs2'⟩
 have hs2 : SH w w2 [] [.blk b1 34 [I c, I ak, .slice Aaq aq.length caq, Str an, I apt, Str us]] := hs1.call0 hs2'
 clear hs2'
 refine q trivial rfl rfl (nd (p := 1 ≤ c ∧ c ≤ 2) rfl) ?_
 refine q trivial rfl rfl (mv (v := .bool (decide (¬ (1 ≤ c ∧ c ≤ 2)))) rfl) ?_
 refine spd (p := ¬ (1 ≤ c ∧ c ≤ 2)) 7 rfl (fun h1 => ?_) (fun h1 => ?_)
 · refine gk true rfl rfl rfl rfl rfl ?_
   refine gk true rfl rfl rfl rfl rfl ?_
   refine gk true rfl rfl rfl rfl rfl ?_
   refine gk true rfl rfl rfl rfl rfl ?_
   refine q trivial rfl rfl (pt (v := .bool true) rfl rfl) ?_
   refine q trivial rfl rfl (mv (v := .bool true) rfl) ?_
   refine gk true rfl rfl rfl rfl rfl ?_
   refine gk true rfl rfl rfl rfl rfl ?_
   refine gk true rfl rfl rfl rfl rfl ?_
   refine gk true rfl rfl rfl rfl rfl ?_
   refine q trivial rfl rfl (pt (v := .bool true) rfl rfl) ?_
   refine nl ?_
   refine nN ?_
   refine cdt rfl ?_
   refine sq ?_
   refine rg ?_
   refine q trivial rfl rfl (asg (v := .bool false) rfl) ?_
   refine nl ?_
   refine nN ?_
   refine rt (tR ?_)
   refine fret (v := .bool false) (.tmp .nil) rfl ?_
   have e1 : false = oldOk c ak aq an apt us := by first | exact (oldOk_3 (by first | assumption | exact Decidable.not_not.1 (by assumption)) (by assumption) (by assumption) (by assumption)).symm | exact (oldOk_1s (by first | assumption | exact Decidable.not_not.1 (by assumption)) (by assumption) (by assumption) (by assumption)).symm | (simp [oldOk, h1]; done) | (have hq4 := addr_quad4 (by assumption : addrOk ak aq an apt = true) (by assumption); unfold oldOk; rw [take3_zero hq4.1 hq4.2]; simp [h1]; done) | (simp [oldOk, h1] <;> omega)
   exact ⟨(congrArg (Value.bool) e1), (hs2.pick [] rfl (by decide))⟩
 · refine q ⟨_, rfl, rfl⟩ rfl rfl (fa 1 fo34_1 rfl) ?_
   refine q ⟨_, rfl, rfl⟩ rfl rfl (ldg (vs := [I ak, .slice Aaq aq.length caq, Str an, I apt]) hs2 0 rfl rfl rfl rfl ag25) ?_
   refine cl ⟨_, rfl, rfl⟩ rfl (sAddressValid (ak := ak) (Aaq := Aaq) (caq := caq) (aq := aq) (an := an) (apt := apt) (w := _) (haq := (haq.up0 hs2)) (han_n := (by first | (first | omega | (simp; done) | (simp; omega)) | (have h4_ := (addr_quad4 (by assumption : addrOk ak aq an apt = true) (by assumption)).1; first | omega | (simp; done) | (simp; omega))))) ?_
   rintro _ w3 ⟨rfl, hs3'⟩
   have hs3 : SH w w3 [] [.blk b1 34 [I c, I ak, .slice Aaq aq.length caq, Str an, I apt, Str us]] := hs2.call0 hs3'
   clear hs3'
   refine q ⟨_, rfl, rfl⟩ rfl rfl (nt (b := addrOk ak aq an apt) rfl) ?_
   refine q trivial rfl rfl (pf (v := .bool (!(addrOk ak aq an apt))) rfl rfl) ?_
   refine q trivial rfl rfl (mv (v := .bool (!(addrOk ak aq an apt))) rfl) ?_
   refine spl (b := !(addrOk ak aq an apt)) 13 rfl (fun h2 => ?_) (fun h2 => ?_)
   · have h3 : (addrOk ak aq an apt) = false := by simpa using h2
     refine gk true rfl rfl rfl rfl rfl ?_
     refine gk true rfl rfl rfl rfl rfl ?_
     refine gk true rfl rfl rfl rfl rfl ?_
     refine gk true rfl rfl rfl rfl rfl ?_
     refine q trivial rfl rfl (pt (v := .bool true) rfl rfl) ?_
     refine nl ?_
     refine nN ?_
     refine cdt rfl ?_
     refine sq ?_
     refine rg ?_
     refine q trivial rfl rfl (asg (v := .bool false) rfl) ?_
     refine nl ?_
     refine nN ?_
     refine rt (tR ?_)
     refine fret (v := .bool false) (.tmp .nil) rfl ?_
     have e2 : false = oldOk c ak aq an apt us := by first | exact (oldOk_3 (by first | assumption | exact Decidable.not_not.1 (by assumption)) (by assumption) (by assumption) (by assumption)).symm | exact (oldOk_1s (by first | assumption | exact Decidable.not_not.1 (by assumption)) (by assumption) (by assumption) (by assumption)).symm | (simp [oldOk, h1, h3]; done) | (have hq4 := addr_quad4 (by assumption : addrOk ak aq an apt = true) (by assumption); unfold oldOk; rw [take3_zero hq4.1 hq4.2]; simp [h1, h3]; done) | (simp [oldOk, h1, h3] <;> omega)
     exact ⟨(congrArg (Value.bool) e2), (hs3.pick [] rfl (by decide))⟩
   · have h4 : (addrOk ak aq an apt) = true := by simpa using h2
     refine q ⟨_, rfl, rfl⟩ rfl rfl (fa 5 fo34_2 rfl) ?_
     refine q ⟨_, rfl, rfl⟩ rfl rfl (ld (v := Str us) hs3 0 rfl rfl rfl one9) ?_
     refine cl ⟨_, rfl, rfl⟩ rfl (sUserValid (s := us) (w := _) (hs_n := (by first | (first | omega | (simp; done) | (simp; omega)) | (have h4_ := (addr_quad4 (by assumption : addrOk ak aq an apt = true) (by assumption)).1; first | omega | (simp; done) | (simp; omega))))) ?_
     rintro _ w4 ⟨rfl, hs4'⟩
     have hs4 : SH w w4 [] [.blk b1 34 [I c, I ak, .slice Aaq aq.length caq, Str an, I apt, Str us]] := hs3.call0 hs4'
     clear hs4'
     refine q ⟨_, rfl, rfl⟩ rfl rfl (nt (b := userOk us) rfl) ?_
     refine q trivial rfl rfl (pf (v := .bool (!(userOk us))) rfl rfl) ?_
     refine nl ?_
     refine nN ?_
     refine cd (b := !(userOk us)) rfl (fun h5 => ?_) (fun h5 => ?_)
     · have h6 : (userOk us) = false := by simpa using h5
       refine sq ?_
       refine rg ?_
       refine q trivial rfl rfl (asg (v := .bool false) rfl) ?_
       refine nl ?_
       refine nN ?_
       refine rt (tR ?_)
       refine fret (v := .bool false) (.tmp .nil) rfl ?_
       have e3 : false = oldOk c ak aq an apt us := by first | exact (oldOk_3 (by first | assumption | exact Decidable.not_not.1 (by assumption)) (by assumption) (by assumption) (by assumption)).symm | exact (oldOk_1s (by first | assumption | exact Decidable.not_not.1 (by assumption)) (by assumption) (by assumption) (by assumption)).symm | (simp [oldOk, h1, h4, h6]; done) | (have hq4 := addr_quad4 (by assumption : addrOk ak aq an apt = true) (by assumption); unfold oldOk; rw [take3_zero hq4.1 hq4.2]; simp [h1, h4, h6]; done) | (simp [oldOk, h1, h4, h6] <;> omega)
       exact ⟨(congrArg (Value.bool) e3), (hs4.pick [] rfl (by decide))⟩
     · have h7 : (userOk us) = true := by simpa using h5
       refine sk ?_
       refine nN ?_
       refine sq ?_
       refine rq (fun w' => SH w w' [] [.blk b1 34 [I c, I ak, .slice Aaq aq.length caq, Str an, I apt, Str us]]) mixed (by kernel_rfl) hs4.drew ?_
       refine qq trivial rfl rfl (fun wq hsq => fa 1 fo34_1 rfl) ?_
       refine qq trivial rfl rfl (fun wq hsq => fa 0 fo25_0 rfl) ?_
       refine qq trivial rfl rfl (fun wq hsq => ld (v := I ak) hsq 0 rfl rfl rfl one3) ?_
       refine qq trivial rfl rfl (fun wq hsq => eqi (k := .i64) (a := ak) (b := 3) rfl rfl) ?_
       refine qq trivial rfl rfl (fun wq hsq => mv (v := .bool (decide (ak = 3))) rfl) ?_
       refine qspd (p := ak = 3) 23 rfl (fun h8 => ?_) (fun h8 => ?_)
       · refine qk true rfl rfl rfl rfl rfl ?_
         refine qk true rfl rfl rfl rfl rfl ?_
         refine qk true rfl rfl rfl rfl rfl ?_
         refine qk true rfl rfl rfl rfl rfl ?_
         refine qk true rfl rfl rfl rfl rfl ?_
         refine qk true rfl rfl rfl rfl rfl ?_
         refine qk true rfl rfl rfl rfl rfl ?_
         refine qk true rfl rfl rfl rfl rfl ?_
         refine qk true rfl rfl rfl rfl rfl ?_
         refine qk true rfl rfl rfl rfl rfl ?_
         refine qk true rfl rfl rfl rfl rfl ?_
         refine qk true rfl rfl rfl rfl rfl ?_
         refine qk true rfl rfl rfl rfl rfl ?_
         refine qk true rfl rfl rfl rfl rfl ?_
         refine qk true rfl rfl rfl rfl rfl ?_
         refine qk true rfl rfl rfl rfl rfl ?_
         refine qk true rfl rfl rfl rfl rfl ?_
         refine qk true rfl rfl rfl rfl rfl ?_
         refine qq trivial rfl rfl (fun wq hsq => pt (v := .bool true) rfl rfl) ?_
         refine qq trivial rfl rfl (fun wq hsq => asg (v := .bool true) rfl) ?_
         refine qn (fun w5 hs5 => ?_)
         refine nN ?_
         refine rt ?_
         refine fret (v := .bool true) (.tmp .nil) rfl ?_
         have e4 : true = oldOk c ak aq an apt us := by first | exact (oldOk_3 (by first | assumption | exact Decidable.not_not.1 (by assumption)) (by assumption) (by assumption) (by assumption)).symm | exact (oldOk_1s (by first | assumption | exact Decidable.not_not.1 (by assumption)) (by assumption) (by assumption) (by assumption)).symm | (simp [oldOk, h1, h4, h7, h8]; done) | (have hq4 := addr_quad4 (by assumption : addrOk ak aq an apt = true) (by assumption); unfold oldOk; rw [take3_zero hq4.1 hq4.2]; simp [h1, h4, h7, h8]; done) | (simp [oldOk, h1, h4, h7, h8] <;> omega)
         exact ⟨(congrArg (Value.bool) e4), (hs5.pick [] rfl (by decide))⟩
       · refine qq ⟨_, rfl, rfl⟩ rfl rfl (fun wq hsq => fa 1 fo34_1 rfl) ?_
         refine qq ⟨_, rfl, rfl⟩ rfl rfl (fun wq hsq => fa 1 fo25_1 rfl) ?_
         refine qq ⟨_, rfl, rfl⟩ rfl rfl (fun wq hsq => ld (v := .slice Aaq aq.length caq) hsq 0 rfl rfl rfl one23) ?_
         refine ixq1 0 sl23 rfl rfl haq (by first | (first | omega | (simp; done) | (simp; omega)) | (have h4_ := (addr_quad4 (by assumption : addrOk ak aq an apt = true) (by assumption)).1; first | omega | (simp; done) | (simp; omega))) (getm I 0 (by first | (first | omega | (simp; done) | (simp; omega)) | (have h4_ := (addr_quad4 (by assumption : addrOk ak aq an apt = true) (by assumption)).1; first | omega | (simp; done) | (simp; omega)))) ⟨_, rfl, rfl⟩ rfl (fun a1 ha1 => ?_)
         refine qq ⟨_, rfl, rfl⟩ rfl rfl (fun wq hsq => lda (v := I (aq.getD 0 0)) hsq ha1 (fun _ h => h) rfl rfl one3) ?_
         refine qq ⟨_, rfl, rfl⟩ rfl rfl (fun wq hsq => fa 1 fo34_1 rfl) ?_
         refine qq ⟨_, rfl, rfl⟩ rfl rfl (fun wq hsq => fa 1 fo25_1 rfl) ?_
         refine qq ⟨_, rfl, rfl⟩ rfl rfl (fun wq hsq => ld (v := .slice Aaq aq.length caq) hsq 0 rfl rfl rfl one23) ?_
         refine ixq1 1 sl23 rfl rfl haq (by first | (first | omega | (simp; done) | (simp; omega)) | (have h4_ := (addr_quad4 (by assumption : addrOk ak aq an apt = true) (by assumption)).1; first | omega | (simp; done) | (simp; omega))) (getm I 0 (by first | (first | omega | (simp; done) | (simp; omega)) | (have h4_ := (addr_quad4 (by assumption : addrOk ak aq an apt = true) (by assumption)).1; first | omega | (simp; done) | (simp; omega)))) ⟨_, rfl, rfl⟩ rfl (fun a2 ha2 => ?_)
         refine qq ⟨_, rfl, rfl⟩ rfl rfl (fun wq hsq => lda (v := I (aq.getD 1 0)) hsq ha2 (fun _ h => h) rfl rfl one3) ?_
         refine qq ⟨_, rfl, rfl⟩ rfl rfl (fun wq hsq => add (a := aq.getD 0 0) (b := aq.getD 1 0) rfl rfl (by (have hq4 := addr_quad4 (by assumption : addrOk ak aq an apt = true) (by assumption); have g0 := isBytes_get hq4.2 (k := 0) (by omega); have g1 := isBytes_get hq4.2 (k := 1) (by omega); have g2 := isBytes_get hq4.2 (k := 2) (by omega); exact ⟨by omega, by omega⟩))) ?_
         refine qq ⟨_, rfl, rfl⟩ rfl rfl (fun wq hsq => fa 1 fo34_1 rfl) ?_
         refine qq ⟨_, rfl, rfl⟩ rfl rfl (fun wq hsq => fa 1 fo25_1 rfl) ?_
         refine qq ⟨_, rfl, rfl⟩ rfl rfl (fun wq hsq => ld (v := .slice Aaq aq.length caq) hsq 0 rfl rfl rfl one23) ?_
         refine ixq1 2 sl23 rfl rfl haq (by first | (first | omega | (simp; done) | (simp; omega)) | (have h4_ := (addr_quad4 (by assumption : addrOk ak aq an apt = true) (by assumption)).1; first | omega | (simp; done) | (simp; omega))) (getm I 0 (by first | (first | omega | (simp; done) | (simp; omega)) | (have h4_ := (addr_quad4 (by assumption : addrOk ak aq an apt = true) (by assumption)).1; first | omega | (simp; done) | (simp; omega)))) ⟨_, rfl, rfl⟩ rfl (fun a3 ha3 => ?_)
         refine qq ⟨_, rfl, rfl⟩ rfl rfl (fun wq hsq => lda (v := I (aq.getD 2 0)) hsq ha3 (fun _ h => h) rfl rfl one3) ?_
         refine qq ⟨_, rfl, rfl⟩ rfl rfl (fun wq hsq => add (a := (aq.getD 0 0) + (aq.getD 1 0)) (b := aq.getD 2 0) rfl rfl (by (have hq4 := addr_quad4 (by assumption : addrOk ak aq an apt = true) (by assumption); have g0 := isBytes_get hq4.2 (k := 0) (by omega); have g1 := isBytes_get hq4.2 (k := 1) (by omega); have g2 := isBytes_get hq4.2 (k := 2) (by omega); exact ⟨by omega, by omega⟩))) ?_
         refine qq ⟨_, rfl, rfl⟩ rfl rfl (fun wq hsq => gtr (k := .i64) (a := ((aq.getD 0 0) + (aq.getD 1 0)) + (aq.getD 2 0)) (b := 0) rfl rfl) ?_
         refine qq trivial rfl rfl (fun wq hsq => pf (v := .bool (decide ((0 : Int) < (((aq.getD 0 0) + (aq.getD 1 0)) + (aq.getD 2 0))))) rfl rfl) ?_
         refine qq trivial rfl rfl (fun wq hsq => asg (v := .bool (decide ((0 : Int) < (((aq.getD 0 0) + (aq.getD 1 0)) + (aq.getD 2 0))))) rfl) ?_
         refine qn (fun w6 hs6 => ?_)
         refine nN ?_
         refine rt ?_
         refine fret (v := .bool (decide ((0 : Int) < (((aq.getD 0 0) + (aq.getD 1 0)) + (aq.getD 2 0))))) (.tmp .nil) rfl ?_
         have e5 : (decide ((0 : Int) < (((aq.getD 0 0) + (aq.getD 1 0)) + (aq.getD 2 0)))) = oldOk c ak aq an apt us := by first | exact (oldOk_3 (by first | assumption | exact Decidable.not_not.1 (by assumption)) (by assumption) (by assumption) (by assumption)).symm | exact (oldOk_1s (by first | assumption | exact Decidable.not_not.1 (by assumption)) (by assumption) (by assumption) (by assumption)).symm | (simp [oldOk, h1, h4, h7, h8]; done) | (have hq4 := addr_quad4 (by assumption : addrOk ak aq an apt = true) (by assumption); unfold oldOk; rw [take3_zero hq4.1 hq4.2]; simp [h1, h4, h7, h8]; done) | (simp [oldOk, h1, h4, h7, h8] <;> omega)
         exact ⟨(congrArg (Value.bool) e5), (hs6.pick [] rfl (by decide))⟩

set_option maxHeartbeats 8000000 in
theorem iOldBytes (c : Int) (ak : Int) {Aaq : Option Addr} {caq : Nat} (aq : List Int) (an : List UInt8) (apt : Int) (us : List UInt8) (w : World) (haq : Sl w [] 1 Aaq aq.length caq (aq.map I)) (han_n : an.length ≤ 1099511627776) (hus_n : us.length ≤ 2147483648) : Does Tryd.prog 13 [.agg #[I c, I ak, .slice Aaq aq.length caq, Str an, I apt, Str us]] w (fun v w' => ∃ Ar : Option Addr, ∃ cr : Nat, v = .tuple #[.slice Ar ((oldP c ak aq an apt us).1).length cr, .bool ((oldP c ak aq an apt us).2)] ∧ SH w w' [] [.own Ar (((oldP c ak aq an apt us).1).length) cr 3 1 (((oldP c ak aq an apt us).1).map I)]) := by
 refine fn_enter (N := 47) Tryd.func13 rfl (by kernel_rfl) rfl rfl rfl ?_
 have hs0 : SH w w [] [] := SH.refl w []
 have haq_m : aq.length ≤ 9223372036854775807 := Nat.le_trans haq.cap haq.capMax
 refine sq ?_
 refine rg ?_
 refine bx (v := .agg #[I c, I ak, .slice Aaq aq.length caq, Str an, I apt, Str us]) (cs := [I c, I ak, .slice Aaq aq.length caq, Str an, I apt, Str us]) hs0 rfl rfl trivial rfl (fun b1 w1 (hs1 : SH w w1 [] [.blk b1 34 [I c, I ak, .slice Aaq aq.length caq, Str an, I apt, Str us]]) => ?_)
 refine q trivial rfl rfl (asg (v := ns) rfl) ?_
 refine q trivial rfl rfl (asg (v := .bool false) rfl) ?_
 refine nl ?_
 refine nN ?_
 refine sq ?_
 refine sq ?_
 refine rg ?_
 refine q trivial rfl rfl (ldg (vs := [I c, I ak, .slice Aaq aq.length caq, Str an, I apt, Str us]) hs1 0 rfl rfl rfl rfl ag34) ?_
 refine cl trivial rfl (iIsOld (c := c) (ak := ak) (Aaq := Aaq) (caq := caq) (aq := aq) (an := an) (apt := apt) (us := us) (w := _) (haq := (haq.up0 hs1)) (han_n := (by first | (first | omega | (simp; done) | (simp; omega)) | (have hop := oldOk_parts (by assumption : oldOk c ak aq an apt us = true); have haf := addr_fit2 hop.2.1; have hap := addrOk_fit hop.2.1; have hul := userOk_len hop.2.2.1; have htn := textI_len an; have htu := textI_len us; have hnb : (numB apt).length = 2 := rfl; first | omega | (simp; done) | (simp; omega)))) (hus_n := (by first | (first | omega | (simp; done) | (simp; omega)) | (have hop := oldOk_parts (by assumption : oldOk c ak aq an apt us = true); have haf := addr_fit2 hop.2.1; have hap := addrOk_fit hop.2.1; have hul := userOk_len hop.2.2.1; have htn := textI_len an; have htu := textI_len us; have hnb : (numB apt).length = 2 := rfl; first | omega | (simp; done) | (simp; omega))))) ?_
 rintro _ w2 ⟨rfl, hs2'⟩
 have hs2 : SH w w2 [] [.blk b1 34 [I c, I ak, .slice Aaq aq.length caq, Str an, I apt, Str us]] := hs1.call0 hs2'
 clear hs2'
 refine q trivial rfl rfl (nt (b := oldOk c ak aq an apt us) rfl) ?_
 refine nl ?_
 refine nN ?_
 refine cd (b := !(oldOk c ak aq an apt us)) rfl (fun h1 => ?_) (fun h1 => ?_)
 · have h2 : (oldOk c ak aq an apt us) = false := by simpa using h1
   refine sq ?_
   refine rg ?_
   refine q trivial rfl rfl (asg (v := ns) rfl) ?_
   refine q trivial rfl rfl (asg (v := .bool false) rfl) ?_
   refine nl ?_
   refine nN ?_
   refine rt (tR ?_)
   refine fret (v := .tuple #[ns, .bool false]) (.tmp (.tmp .nil)) rfl ?_
   have hs3 : SH w w2 [] [.blk b1 34 [I c, I ak, .slice Aaq aq.length caq, Str an, I apt, Str us], .own none (([] : List Int).length) 0 3 1 (([] : List Int).map I)] := SH.nils (by intro i hi; simp at hi; subst hi; exact nilItem) hs2
   have e1 : oldP c ak aq an apt us = (([] : List Int), false) := by first | (rw [oldP_yes (by assumption), oldB_3 (by assumption)]; done) | (rw [oldP_yes (by assumption), oldB_1 (by assumption)]; done) | (simp [oldP, h2]; done) | (exfalso; omega)
   have e2 : ([] : List Int) = (oldP c ak aq an apt us).1 := by rw [e1]
   have e3 : ([] : List Int).length = ((oldP c ak aq an apt us).1).length := by exact congrArg List.length e2
   have e4 : false = (oldP c ak aq an apt us).2 := by rw [e1]
   exact ⟨none, 0, (tup2 (slv rfl e3 rfl) (congrArg (Value.bool) e4)), ((hs3.pick [1] rfl (by decide)).cast (lc (own_eq (g := I) rfl e3 rfl e2) rfl))⟩
 · have h3 : (oldOk c ak aq an apt us) = true := by simpa using h1
   refine sk ?_
   refine nN ?_
   refine sq ?_
   refine raJ (fun w' => ∃ L, SH w w' [] L ∧ (.blk b1 34 [I c, I ak, .slice Aaq aq.length caq, Str an, I apt, Str us]) ∈ L ∧ True) (fun f w' => ∃ (A6' : Option Addr) (c6' : Nat) (A7' : Option Addr) (c7' : Nat), Has f [(1, pB b1), (4, .slice A7' ((([4, c] : List Int) ++ (numB apt)).length) c7')] ∧ SH w w' [] [.blk b1 34 [I c, I ak, .slice Aaq aq.length caq, Str an, I apt, Str us], .own A7' ((([4, c] : List Int) ++ (numB apt)).length) c7' 3 1 ((([4, c] : List Int) ++ (numB apt)).map I), .own A6' ((numB apt).length) c6' 3 1 ((numB apt).map I)]) mixed ?_ ?_
   · refine dag (fuel' := 2) (listed' := lbits 9 127) (fun f w' => ∃ (b2' : Nat) (A6' : Option Addr) (c6' : Nat), Has f [(1, pB b1), (11, sb b2' (([4, c] : List Int).length) 2), (15, .slice A6' ((numB apt).length) c6')] ∧ SH w w' [] [.blk b1 34 [I c, I ak, .slice Aaq aq.length caq, Str an, I apt, Str us], oI b2' ([4, c] : List Int) 2 3, .own A6' ((numB apt).length) c6' 3 1 ((numB apt).map I)]) ?_ (fun D_3_0 => ?_)
     · rintro f w3 ⟨b2', A6', c6', hf, hs4⟩
       obtain ⟨g1, rfl⟩ := has_upd hf
       clear hf
       refine aaL [7] (fa_one ?_)
       refine one_ rfl ?_
       refine apm (g := I) (ys := ([4, c] : List Int)) (zs := numB apt) hs4 1 rfl sl23 rfl rfl rfl (hs4.sl0 2 rfl) (fun _ => rfl) (by unfold maxLen; have hop := oldOk_parts (by assumption : oldOk c ak aq an apt us = true); have haf := addr_fit2 hop.2.1; have hap := addrOk_fit hop.2.1; have hul := userOk_len hop.2.2.1; have htn := textI_len an; have htu := textI_len us; have hnb : (numB apt).length = 2 := rfl; simp only [List.length_append, List.length_cons, List.length_nil]; omega) (by have hop := oldOk_parts (by assumption : oldOk c ak aq an apt us = true); have haf := addr_fit2 hop.2.1; have hap := addrOk_fit hop.2.1; have hul := userOk_len hop.2.2.1; have htn := textI_len an; have htu := textI_len us; have hnb : (numB apt).length = 2 := rfl; simp only [List.length_append, List.length_cons, List.length_nil]; omega) trivial rfl (fun A7' c7' w4 hs5 => ?_)
       refine nl (kq ⟨_, hs5, memi 0 rfl, trivial⟩ ?_)
       refine tk (fuel := 0) (is := [8]) (.cons rfl (.nil)) (by kernel_rfl) (by kernel_rfl) ⟨_, hs5, memi 0 rfl, trivial⟩ ?_
       refine .op trivial rfl rfl (fun wq _ => asg (v := .slice A7' ((([4, c] : List Int) ++ (numB apt)).length) c7') rfl) ?_
       refine .nil ?_
       refine ad (by kernel_rfl) ?_
       exact ⟨A6', c6', A7', c7', ⟨rfl, rfl, trivial⟩, (hs5.pick [0, 2, 1] rfl (by decide))⟩
     refine dag (fuel' := 3) (listed' := lbits 9 63) (fun f w' => ∃ (b2' : Nat), Has f [(1, pB b1), (11, sb b2' (([4, c] : List Int).length) 2), (14, I apt)] ∧ SH w w' [] [.blk b1 34 [I c, I ak, .slice Aaq aq.length caq, Str an, I apt, Str us], oI b2' ([4, c] : List Int) 2 3]) ?_ (fun D_3_1 => ?_)
     · rintro f w5 ⟨b2', hf, hs6⟩
       obtain ⟨g2, rfl⟩ := has_upd hf
       clear hf
       refine aaL [6] (fa_one ?_)
       refine one_ rfl ?_
       refine cl trivial rfl (iNumberBytes (n := apt) (w := _) (hn := (by have hop := oldOk_parts (by assumption : oldOk c ak aq an apt us = true); have haf := addr_fit2 hop.2.1; have hap := addrOk_fit hop.2.1; have hul := userOk_len hop.2.2.1; have htn := textI_len an; have htu := textI_len us; have hnb : (numB apt).length = 2 := rfl; omega))) ?_
       rintro _ w6 ⟨A6', c6', rfl, hs7'⟩
       have hs7 := hs6.call0 hs7'
       clear hs7'
       exact nl (kq ⟨_, hs7, memi 0 rfl, trivial⟩ (alc D_3_0 ⟨b2', A6', c6', ⟨rfl, rfl, rfl, trivial⟩, hs7⟩))
     refine dag (fuel' := 3) (listed' := lbits 9 123) (fun f w' => ∃ (A6' : Option Addr) (c6' : Nat), Has f [(1, pB b1), (10, I c), (15, .slice A6' ((numB apt).length) c6')] ∧ SH w w' [] [.blk b1 34 [I c, I ak, .slice Aaq aq.length caq, Str an, I apt, Str us], .own A6' ((numB apt).length) c6' 3 1 ((numB apt).map I)]) ?_ (fun D_3_2 => ?_)
     · rintro f w7 ⟨A6', c6', hf, hs8⟩
       obtain ⟨g3, rfl⟩ := has_upd hf
       clear hf
       refine aaL [2] (fa_one ?_)
       refine one_ rfl ?_
       refine bsk hs8 sl23 [I 4, I c] [I 4, I c] trivial rfl (fun b2' w8 hs9 => ?_)
       exact nl (kq ⟨_, hs9, memi 0 rfl, trivial⟩ (alc D_3_0 ⟨b2', A6', c6', ⟨rfl, rfl, rfl, trivial⟩, (hs9.pick [0, 2, 1] rfl (by decide))⟩))
     refine dag (fuel' := 4) (listed' := lbits 9 59) (fun f w' => Has f [(1, pB b1), (10, I c), (14, I apt)] ∧ SH w w' [] [.blk b1 34 [I c, I ak, .slice Aaq aq.length caq, Str an, I apt, Str us]]) ?_ (fun D_3_3 => ?_)
     · rintro f w9 ⟨hf, hs10⟩
       obtain ⟨g4, rfl⟩ := has_upd hf
       clear hf
       refine aaL [2, 6] (fa_cons ?_ (fa_one ?_))
       · refine one_ rfl ?_
         refine bsk hs10 sl23 [I 4, I c] [I 4, I c] trivial rfl (fun b2' w10 hs11 => ?_)
         exact nl (kq ⟨_, hs11, memi 0 rfl, trivial⟩ (alc D_3_1 ⟨b2', ⟨rfl, rfl, rfl, trivial⟩, hs11⟩))
       · refine one_ rfl ?_
         refine cl trivial rfl (iNumberBytes (n := apt) (w := _) (hn := (by have hop := oldOk_parts (by assumption : oldOk c ak aq an apt us = true); have haf := addr_fit2 hop.2.1; have hap := addrOk_fit hop.2.1; have hul := userOk_len hop.2.2.1; have htn := textI_len an; have htu := textI_len us; have hnb : (numB apt).length = 2 := rfl; omega))) ?_
         rintro _ w11 ⟨A6', c6', rfl, hs12'⟩
         have hs12 := hs10.call0 hs12'
         clear hs12'
         exact nl (kq ⟨_, hs12, memi 0 rfl, trivial⟩ (alc D_3_2 ⟨A6', c6', ⟨rfl, rfl, rfl, trivial⟩, hs12⟩))
     have hs13 := hs2.drew
     refine tk (fuel := 4) (is := [0, 1, 3, 4, 5]) (.cons rfl (.cons rfl (.cons rfl (.cons rfl (.cons rfl (.nil)))))) (by kernel_rfl) (by kernel_rfl) ⟨_, hs13, memi 0 rfl, trivial⟩ ?_
     refine .op trivial rfl rfl (fun wq _ => fa 0 fo34_0 rfl) ?_
     refine .op trivial rfl rfl (fun wq ⟨Lq, hsq, mh0, _⟩ => ldm (v := I c) hsq mh0 rfl rfl one3) ?_
     refine .op trivial rfl rfl (fun wq _ => fa 1 fo34_1 rfl) ?_
     refine .op trivial rfl rfl (fun wq _ => fa 3 fo25_3 rfl) ?_
     refine .op trivial rfl rfl (fun wq ⟨Lq, hsq, mh0, _⟩ => ldm (v := I apt) hsq mh0 rfl rfl one3) ?_
     refine .nil ?_
     exact alc D_3_3 ⟨⟨rfl, rfl, rfl, trivial⟩, hs13⟩
   rintro f w12 ⟨A6', c6', A7', c7', hf, hs14⟩
   obtain ⟨g5, rfl⟩ := has_upd hf
   clear hf
   refine nN ?_
   refine sq ?_
   refine rg ?_
   refine q trivial rfl rfl (fa 1 fo34_1 rfl) ?_
   refine q trivial rfl rfl (fa 1 fo25_1 rfl) ?_
   refine q trivial rfl rfl (ld (v := .slice Aaq aq.length caq) hs14 0 rfl rfl rfl one23) ?_
   refine q trivial rfl rfl (asg (v := .slice Aaq aq.length caq) rfl) ?_
   refine nl ?_
   refine nN ?_
   refine sq ?_
   refine sq ?_
   refine rg ?_
   refine q trivial rfl rfl (fa 1 fo34_1 rfl) ?_
   refine q trivial rfl rfl (fa 0 fo25_0 rfl) ?_
   refine q trivial rfl rfl (ld (v := I ak) hs14 0 rfl rfl rfl one3) ?_
   refine q trivial rfl rfl (eqi (k := .i64) (a := ak) (b := 3) rfl rfl) ?_
   refine nl ?_
   refine nN ?_
   refine cdd (p := ak = 3) rfl (fun h4 => ?_) (fun h4 => ?_)
   · refine rg ?_
     refine bsk hs14 sl23 [I 0, I 0, I 0, I 1] [I 0, I 0, I 0, I 1] trivial rfl (fun b2 w13 (hs15 : SH w w13 [] [.blk b1 34 [I c, I ak, .slice Aaq aq.length caq, Str an, I apt, Str us], .own A7' ((([4, c] : List Int) ++ (numB apt)).length) c7' 3 1 ((([4, c] : List Int) ++ (numB apt)).map I), .own A6' ((numB apt).length) c6' 3 1 ((numB apt).map I), oI b2 ([0, 0, 0, 1] : List Int) 4 3]) => ?_)
     refine q trivial rfl rfl (asg (v := sb b2 (([0, 0, 0, 1] : List Int).length) 4) rfl) ?_
     refine nl ?_
     refine nN ?_
     refine sq ?_
     refine raJ (fun w' => ∃ L, SH w w' [] L ∧ (.blk b1 34 [I c, I ak, .slice Aaq aq.length caq, Str an, I apt, Str us]) ∈ L ∧ True) (fun f w' => ∃ (b7'' : Nat) (A5'' : Option Addr) (c5'' : Nat) (A8'' : Option Addr) (c8'' : Nat), Has f [(1, pB b1), (4, .slice A8'' (((((([4, c] : List Int) ++ (numB apt)) ++ ([0, 0, 0, 1] : List Int)) ++ (textI us)) ++ ([0] : List Int)).length) c8'')] ∧ SH w w' [] [.blk b1 34 [I c, I ak, .slice Aaq aq.length caq, Str an, I apt, Str us], .own A8'' (((((([4, c] : List Int) ++ (numB apt)) ++ ([0, 0, 0, 1] : List Int)) ++ (textI us)) ++ ([0] : List Int)).length) c8'' 3 1 (((((([4, c] : List Int) ++ (numB apt)) ++ ([0, 0, 0, 1] : List Int)) ++ (textI us)) ++ ([0] : List Int)).map I), .own A6' ((numB apt).length) c6' 3 1 ((numB apt).map I), oI b2 ([0, 0, 0, 1] : List Int) 4 3, .own A5'' ((textI us).length) c5'' 3 1 ((textI us).map I), oI b7'' ([0] : List Int) 1 3]) mixed ?_ ?_
     · refine dag (fuel' := 2) (listed' := lbits 10 255) (fun f w' => ∃ (b7'' : Nat) (A5'' : Option Addr) (c5'' : Nat) (A6'' : Option Addr) (c6'' : Nat), Has f [(1, pB b1), (4, .slice A7' ((([4, c] : List Int) ++ (numB apt)).length) c7'), (31, .slice A6'' ((((([4, c] : List Int) ++ (numB apt)) ++ ([0, 0, 0, 1] : List Int)) ++ (textI us)).length) c6''), (32, sb b7'' (([0] : List Int).length) 1)] ∧ SH w w' [] [.blk b1 34 [I c, I ak, .slice Aaq aq.length caq, Str an, I apt, Str us], .own A6'' ((((([4, c] : List Int) ++ (numB apt)) ++ ([0, 0, 0, 1] : List Int)) ++ (textI us)).length) c6'' 3 1 ((((([4, c] : List Int) ++ (numB apt)) ++ ([0, 0, 0, 1] : List Int)) ++ (textI us)).map I), .own A6' ((numB apt).length) c6' 3 1 ((numB apt).map I), oI b2 ([0, 0, 0, 1] : List Int) 4 3, .own A5'' ((textI us).length) c5'' 3 1 ((textI us).map I), oI b7'' ([0] : List Int) 1 3]) ?_ (fun D_7_0 => ?_)
       · rintro f w14 ⟨b7'', A5'', c5'', A6'', c6'', hf, hs16⟩
         obtain ⟨g6, rfl⟩ := has_upd hf
         clear hf
         refine aaL [8] (fa_one ?_)
         refine one_ rfl ?_
         refine apm (g := I) (ys := ((([4, c] : List Int) ++ (numB apt)) ++ ([0, 0, 0, 1] : List Int)) ++ (textI us)) (zs := ([0] : List Int)) hs16 1 rfl sl23 rfl rfl rfl (hs16.sl0 5 rfl) (fun _ => rfl) (by unfold maxLen; have hop := oldOk_parts (by assumption : oldOk c ak aq an apt us = true); have haf := addr_fit2 hop.2.1; have hap := addrOk_fit hop.2.1; have hul := userOk_len hop.2.2.1; have htn := textI_len an; have htu := textI_len us; have hnb : (numB apt).length = 2 := rfl; simp only [List.length_append, List.length_cons, List.length_nil]; omega) (by have hop := oldOk_parts (by assumption : oldOk c ak aq an apt us = true); have haf := addr_fit2 hop.2.1; have hap := addrOk_fit hop.2.1; have hul := userOk_len hop.2.2.1; have htn := textI_len an; have htu := textI_len us; have hnb : (numB apt).length = 2 := rfl; simp only [List.length_append, List.length_cons, List.length_nil]; omega) trivial rfl (fun A8'' c8'' w15 hs17 => ?_)
         refine nl (kq ⟨_, hs17, memi 0 rfl, trivial⟩ ?_)
         refine tk (fuel := 0) (is := [9]) (.cons rfl (.nil)) (by kernel_rfl) (by kernel_rfl) ⟨_, hs17, memi 0 rfl, trivial⟩ ?_
         refine .op trivial rfl rfl (fun wq _ => asg (v := .slice A8'' (((((([4, c] : List Int) ++ (numB apt)) ++ ([0, 0, 0, 1] : List Int)) ++ (textI us)) ++ ([0] : List Int)).length) c8'') rfl) ?_
         refine .nil ?_
         refine ad (by kernel_rfl) ?_
         exact ⟨b7'', A5'', c5'', A8'', c8'', ⟨rfl, rfl, trivial⟩, (hs17.pick [0, 5, 1, 2, 3, 4] rfl (by decide))⟩
       refine dag (fuel' := 3) (listed' := lbits 10 127) (fun f w' => ∃ (A5'' : Option Addr) (c5'' : Nat) (A6'' : Option Addr) (c6'' : Nat), Has f [(1, pB b1), (4, .slice A7' ((([4, c] : List Int) ++ (numB apt)).length) c7'), (31, .slice A6'' ((((([4, c] : List Int) ++ (numB apt)) ++ ([0, 0, 0, 1] : List Int)) ++ (textI us)).length) c6'')] ∧ SH w w' [] [.blk b1 34 [I c, I ak, .slice Aaq aq.length caq, Str an, I apt, Str us], .own A6'' ((((([4, c] : List Int) ++ (numB apt)) ++ ([0, 0, 0, 1] : List Int)) ++ (textI us)).length) c6'' 3 1 ((((([4, c] : List Int) ++ (numB apt)) ++ ([0, 0, 0, 1] : List Int)) ++ (textI us)).map I), .own A6' ((numB apt).length) c6' 3 1 ((numB apt).map I), oI b2 ([0, 0, 0, 1] : List Int) 4 3, .own A5'' ((textI us).length) c5'' 3 1 ((textI us).map I)]) ?_ (fun D_7_1 => ?_)
       · rintro f w16 ⟨A5'', c5'', A6'', c6'', hf, hs18⟩
         obtain ⟨g7, rfl⟩ := has_upd hf
         clear hf
         refine aaL [7] (fa_one ?_)
         refine one_ rfl ?_
         refine bsk hs18 sl23 [I 0] [I 0] trivial rfl (fun b7'' w17 hs19 => ?_)
         exact nl (kq ⟨_, hs19, memi 0 rfl, trivial⟩ (alc D_7_0 ⟨b7'', A5'', c5'', A6'', c6'', ⟨rfl, rfl, rfl, rfl, trivial⟩, hs19⟩))
       refine dag (fuel' := 3) (listed' := lbits 10 191) (fun f w' => ∃ (A2'' : Option Addr) (c2'' b7'' : Nat) (A5'' : Option Addr) (c5'' : Nat), Has f [(1, pB b1), (4, .slice A7' ((([4, c] : List Int) ++ (numB apt)).length) c7'), (27, .slice A2'' (((([4, c] : List Int) ++ (numB apt)) ++ ([0, 0, 0, 1] : List Int)).length) c2''), (30, .slice A5'' ((textI us).length) c5''), (32, sb b7'' (([0] : List Int).length) 1)] ∧ SH w w' [] [.blk b1 34 [I c, I ak, .slice Aaq aq.length caq, Str an, I apt, Str us], .own A2'' (((([4, c] : List Int) ++ (numB apt)) ++ ([0, 0, 0, 1] : List Int)).length) c2'' 3 1 (((([4, c] : List Int) ++ (numB apt)) ++ ([0, 0, 0, 1] : List Int)).map I), .own A6' ((numB apt).length) c6' 3 1 ((numB apt).map I), oI b2 ([0, 0, 0, 1] : List Int) 4 3, .own A5'' ((textI us).length) c5'' 3 1 ((textI us).map I), oI b7'' ([0] : List Int) 1 3]) ?_ (fun D_7_2 => ?_)
       · rintro f w18 ⟨A2'', c2'', b7'', A5'', c5'', hf, hs20⟩
         obtain ⟨g8, rfl⟩ := has_upd hf
         clear hf
         refine aaL [6] (fa_one ?_)
         refine one_ rfl ?_
         refine apm (g := I) (ys := (([4, c] : List Int) ++ (numB apt)) ++ ([0, 0, 0, 1] : List Int)) (zs := textI us) hs20 1 rfl sl23 rfl rfl rfl (hs20.sl0 4 rfl) (fun _ => rfl) (by unfold maxLen; have hop := oldOk_parts (by assumption : oldOk c ak aq an apt us = true); have haf := addr_fit2 hop.2.1; have hap := addrOk_fit hop.2.1; have hul := userOk_len hop.2.2.1; have htn := textI_len an; have htu := textI_len us; have hnb : (numB apt).length = 2 := rfl; simp only [List.length_append, List.length_cons, List.length_nil]; omega) (by have hop := oldOk_parts (by assumption : oldOk c ak aq an apt us = true); have haf := addr_fit2 hop.2.1; have hap := addrOk_fit hop.2.1; have hul := userOk_len hop.2.2.1; have htn := textI_len an; have htu := textI_len us; have hnb : (numB apt).length = 2 := rfl; simp only [List.length_append, List.length_cons, List.length_nil]; omega) trivial rfl (fun A6'' c6'' w19 hs21 => ?_)
         exact nl (kq ⟨_, hs21, memi 0 rfl, trivial⟩ (alc D_7_0 ⟨b7'', A5'', c5'', A6'', c6'', ⟨rfl, rfl, rfl, rfl, trivial⟩, (hs21.pick [0, 5, 1, 2, 3, 4] rfl (by decide))⟩))
       refine dag (fuel' := 4) (listed' := lbits 10 63) (fun f w' => ∃ (A2'' : Option Addr) (c2'' : Nat) (A5'' : Option Addr) (c5'' : Nat), Has f [(1, pB b1), (4, .slice A7' ((([4, c] : List Int) ++ (numB apt)).length) c7'), (27, .slice A2'' (((([4, c] : List Int) ++ (numB apt)) ++ ([0, 0, 0, 1] : List Int)).length) c2''), (30, .slice A5'' ((textI us).length) c5'')] ∧ SH w w' [] [.blk b1 34 [I c, I ak, .slice Aaq aq.length caq, Str an, I apt, Str us], .own A2'' (((([4, c] : List Int) ++ (numB apt)) ++ ([0, 0, 0, 1] : List Int)).length) c2'' 3 1 (((([4, c] : List Int) ++ (numB apt)) ++ ([0, 0, 0, 1] : List Int)).map I), .own A6' ((numB apt).length) c6' 3 1 ((numB apt).map I), oI b2 ([0, 0, 0, 1] : List Int) 4 3, .own A5'' ((textI us).length) c5'' 3 1 ((textI us).map I)]) ?_ (fun D_7_3 => ?_)
       · rintro f w20 ⟨A2'', c2'', A5'', c5'', hf, hs22⟩
         obtain ⟨g9, rfl⟩ := has_upd hf
         clear hf
         refine aaL [6, 7] (fa_cons ?_ (fa_one ?_))
         · refine one_ rfl ?_
           refine apm (g := I) (ys := (([4, c] : List Int) ++ (numB apt)) ++ ([0, 0, 0, 1] : List Int)) (zs := textI us) hs22 1 rfl sl23 rfl rfl rfl (hs22.sl0 4 rfl) (fun _ => rfl) (by unfold maxLen; have hop := oldOk_parts (by assumption : oldOk c ak aq an apt us = true); have haf := addr_fit2 hop.2.1; have hap := addrOk_fit hop.2.1; have hul := userOk_len hop.2.2.1; have htn := textI_len an; have htu := textI_len us; have hnb : (numB apt).length = 2 := rfl; simp only [List.length_append, List.length_cons, List.length_nil]; omega) (by have hop := oldOk_parts (by assumption : oldOk c ak aq an apt us = true); have haf := addr_fit2 hop.2.1; have hap := addrOk_fit hop.2.1; have hul := userOk_len hop.2.2.1; have htn := textI_len an; have htu := textI_len us; have hnb : (numB apt).length = 2 := rfl; simp only [List.length_append, List.length_cons, List.length_nil]; omega) trivial rfl (fun A6'' c6'' w21 hs23 => ?_)
           exact nl (kq ⟨_, hs23, memi 0 rfl, trivial⟩ (alc D_7_1 ⟨A5'', c5'', A6'', c6'', ⟨rfl, rfl, rfl, trivial⟩, (hs23.pick [0, 4, 1, 2, 3] rfl (by decide))⟩))
         · refine one_ rfl ?_
           refine bsk hs22 sl23 [I 0] [I 0] trivial rfl (fun b7'' w22 hs24 => ?_)
           exact nl (kq ⟨_, hs24, memi 0 rfl, trivial⟩ (alc D_7_2 ⟨A2'', c2'', b7'', A5'', c5'', ⟨rfl, rfl, rfl, rfl, rfl, trivial⟩, hs24⟩))
       refine dag (fuel' := 4) (listed' := lbits 10 159) (fun f w' => ∃ (A2'' : Option Addr) (c2'' b7'' : Nat), Has f [(1, pB b1), (4, .slice A7' ((([4, c] : List Int) ++ (numB apt)).length) c7'), (27, .slice A2'' (((([4, c] : List Int) ++ (numB apt)) ++ ([0, 0, 0, 1] : List Int)).length) c2''), (29, Str us), (32, sb b7'' (([0] : List Int).length) 1)] ∧ SH w w' [] [.blk b1 34 [I c, I ak, .slice Aaq aq.length caq, Str an, I apt, Str us], .own A2'' (((([4, c] : List Int) ++ (numB apt)) ++ ([0, 0, 0, 1] : List Int)).length) c2'' 3 1 (((([4, c] : List Int) ++ (numB apt)) ++ ([0, 0, 0, 1] : List Int)).map I), .own A6' ((numB apt).length) c6' 3 1 ((numB apt).map I), oI b2 ([0, 0, 0, 1] : List Int) 4 3, oI b7'' ([0] : List Int) 1 3]) ?_ (fun D_7_4 => ?_)
       · rintro f w23 ⟨A2'', c2'', b7'', hf, hs25⟩
         obtain ⟨g10, rfl⟩ := has_upd hf
         clear hf
         refine aaL [5] (fa_one ?_)
         refine one_ rfl ?_
         refine cl trivial rfl (iTextBytes (s := us) (w := _) (hs_n := (by first | (first | omega | (simp; done) | (simp; omega)) | (have hop := oldOk_parts (by assumption : oldOk c ak aq an apt us = true); have haf := addr_fit2 hop.2.1; have hap := addrOk_fit hop.2.1; have hul := userOk_len hop.2.2.1; have htn := textI_len an; have htu := textI_len us; have hnb : (numB apt).length = 2 := rfl; first | omega | (simp; done) | (simp; omega))))) ?_
         rintro _ w24 ⟨A5'', c5'', rfl, hs26'⟩
         have hs26 := hs25.call0 hs26'
         clear hs26'
         exact nl (kq ⟨_, hs26, memi 0 rfl, trivial⟩ (alc D_7_2 ⟨A2'', c2'', b7'', A5'', c5'', ⟨rfl, rfl, rfl, rfl, rfl, trivial⟩, (hs26.pick [0, 1, 2, 3, 5, 4] rfl (by decide))⟩))
       refine dag (fuel' := 5) (listed' := lbits 10 31) (fun f w' => ∃ (A2'' : Option Addr) (c2'' : Nat), Has f [(1, pB b1), (4, .slice A7' ((([4, c] : List Int) ++ (numB apt)).length) c7'), (27, .slice A2'' (((([4, c] : List Int) ++ (numB apt)) ++ ([0, 0, 0, 1] : List Int)).length) c2''), (29, Str us)] ∧ SH w w' [] [.blk b1 34 [I c, I ak, .slice Aaq aq.length caq, Str an, I apt, Str us], .own A2'' (((([4, c] : List Int) ++ (numB apt)) ++ ([0, 0, 0, 1] : List Int)).length) c2'' 3 1 (((([4, c] : List Int) ++ (numB apt)) ++ ([0, 0, 0, 1] : List Int)).map I), .own A6' ((numB apt).length) c6' 3 1 ((numB apt).map I), oI b2 ([0, 0, 0, 1] : List Int) 4 3]) ?_ (fun D_7_5 => ?_)
       · rintro f w25 ⟨A2'', c2'', hf, hs27⟩
         obtain ⟨g11, rfl⟩ := has_upd hf
         clear hf
         refine aaL [5, 7] (fa_cons ?_ (fa_one ?_))
         · refine one_ rfl ?_
           refine cl trivial rfl (iTextBytes (s := us) (w := _) (hs_n := (by first | (first | omega | (simp; done) | (simp; omega)) | (have hop := oldOk_parts (by assumption : oldOk c ak aq an apt us = true); have haf := addr_fit2 hop.2.1; have hap := addrOk_fit hop.2.1; have hul := userOk_len hop.2.2.1; have htn := textI_len an; have htu := textI_len us; have hnb : (numB apt).length = 2 := rfl; first | omega | (simp; done) | (simp; omega))))) ?_
           rintro _ w26 ⟨A5'', c5'', rfl, hs28'⟩
           have hs28 := hs27.call0 hs28'
           clear hs28'
           exact nl (kq ⟨_, hs28, memi 0 rfl, trivial⟩ (alc D_7_3 ⟨A2'', c2'', A5'', c5'', ⟨rfl, rfl, rfl, rfl, trivial⟩, hs28⟩))
         · refine one_ rfl ?_
           refine bsk hs27 sl23 [I 0] [I 0] trivial rfl (fun b7'' w27 hs29 => ?_)
           exact nl (kq ⟨_, hs29, memi 0 rfl, trivial⟩ (alc D_7_4 ⟨A2'', c2'', b7'', ⟨rfl, rfl, rfl, rfl, rfl, trivial⟩, hs29⟩))
       refine dag (fuel' := 5) (listed' := lbits 10 155) (fun f w' => ∃ (b7'' : Nat), Has f [(1, pB b1), (4, .slice A7' ((([4, c] : List Int) ++ (numB apt)).length) c7'), (25, .slice A7' ((([4, c] : List Int) ++ (numB apt)).length) c7'), (26, sb b2 (([0, 0, 0, 1] : List Int).length) 4), (29, Str us), (32, sb b7'' (([0] : List Int).length) 1)] ∧ SH w w' [] [.blk b1 34 [I c, I ak, .slice Aaq aq.length caq, Str an, I apt, Str us], .own A7' ((([4, c] : List Int) ++ (numB apt)).length) c7' 3 1 ((([4, c] : List Int) ++ (numB apt)).map I), .own A6' ((numB apt).length) c6' 3 1 ((numB apt).map I), oI b2 ([0, 0, 0, 1] : List Int) 4 3, oI b7'' ([0] : List Int) 1 3]) ?_ (fun D_7_6 => ?_)
       · rintro f w28 ⟨b7'', hf, hs30⟩
         obtain ⟨g12, rfl⟩ := has_upd hf
         clear hf
         refine aaL [2] (fa_one ?_)
         refine one_ rfl ?_
         refine apm (g := I) (ys := ([4, c] : List Int) ++ (numB apt)) (zs := ([0, 0, 0, 1] : List Int)) hs30 1 rfl sl23 rfl rfl rfl (hs30.sl0 3 rfl) (fun _ => rfl) (by unfold maxLen; have hop := oldOk_parts (by assumption : oldOk c ak aq an apt us = true); have haf := addr_fit2 hop.2.1; have hap := addrOk_fit hop.2.1; have hul := userOk_len hop.2.2.1; have htn := textI_len an; have htu := textI_len us; have hnb : (numB apt).length = 2 := rfl; simp only [List.length_append, List.length_cons, List.length_nil]; omega) (by have hop := oldOk_parts (by assumption : oldOk c ak aq an apt us = true); have haf := addr_fit2 hop.2.1; have hap := addrOk_fit hop.2.1; have hul := userOk_len hop.2.2.1; have htn := textI_len an; have htu := textI_len us; have hnb : (numB apt).length = 2 := rfl; simp only [List.length_append, List.length_cons, List.length_nil]; omega) trivial rfl (fun A2'' c2'' w29 hs31 => ?_)
         exact nl (kq ⟨_, hs31, memi 0 rfl, trivial⟩ (alc D_7_4 ⟨A2'', c2'', b7'', ⟨rfl, rfl, rfl, rfl, rfl, trivial⟩, (hs31.pick [0, 4, 1, 2, 3] rfl (by decide))⟩))
       refine dag (fuel' := 6) (listed' := lbits 10 27) (fun f w' => Has f [(1, pB b1), (4, .slice A7' ((([4, c] : List Int) ++ (numB apt)).length) c7'), (25, .slice A7' ((([4, c] : List Int) ++ (numB apt)).length) c7'), (26, sb b2 (([0, 0, 0, 1] : List Int).length) 4), (29, Str us)] ∧ SH w w' [] [.blk b1 34 [I c, I ak, .slice Aaq aq.length caq, Str an, I apt, Str us], .own A7' ((([4, c] : List Int) ++ (numB apt)).length) c7' 3 1 ((([4, c] : List Int) ++ (numB apt)).map I), .own A6' ((numB apt).length) c6' 3 1 ((numB apt).map I), oI b2 ([0, 0, 0, 1] : List Int) 4 3]) ?_ (fun D_7_7 => ?_)
       · rintro f w30 ⟨hf, hs32⟩
         obtain ⟨g13, rfl⟩ := has_upd hf
         clear hf
         refine aaL [2, 7] (fa_cons ?_ (fa_one ?_))
         · refine one_ rfl ?_
           refine apm (g := I) (ys := ([4, c] : List Int) ++ (numB apt)) (zs := ([0, 0, 0, 1] : List Int)) hs32 1 rfl sl23 rfl rfl rfl (hs32.sl0 3 rfl) (fun _ => rfl) (by unfold maxLen; have hop := oldOk_parts (by assumption : oldOk c ak aq an apt us = true); have haf := addr_fit2 hop.2.1; have hap := addrOk_fit hop.2.1; have hul := userOk_len hop.2.2.1; have htn := textI_len an; have htu := textI_len us; have hnb : (numB apt).length = 2 := rfl; simp only [List.length_append, List.length_cons, List.length_nil]; omega) (by have hop := oldOk_parts (by assumption : oldOk c ak aq an apt us = true); have haf := addr_fit2 hop.2.1; have hap := addrOk_fit hop.2.1; have hul := userOk_len hop.2.2.1; have htn := textI_len an; have htu := textI_len us; have hnb : (numB apt).length = 2 := rfl; simp only [List.length_append, List.length_cons, List.length_nil]; omega) trivial rfl (fun A2'' c2'' w31 hs33 => ?_)
           exact nl (kq ⟨_, hs33, memi 0 rfl, trivial⟩ (alc D_7_5 ⟨A2'', c2'', ⟨rfl, rfl, rfl, rfl, trivial⟩, (hs33.pick [0, 3, 1, 2] rfl (by decide))⟩))
         · refine one_ rfl ?_
           refine bsk hs32 sl23 [I 0] [I 0] trivial rfl (fun b7'' w32 hs34 => ?_)
           exact nl (kq ⟨_, hs34, memi 0 rfl, trivial⟩ (alc D_7_6 ⟨b7'', ⟨rfl, rfl, rfl, rfl, rfl, rfl, trivial⟩, hs34⟩))
       have hs35 := hs15.drew
       refine tk (fuel := 6) (is := [0, 1, 3, 4]) (.cons rfl (.cons rfl (.cons rfl (.cons rfl (.nil))))) (by kernel_rfl) (by kernel_rfl) ⟨_, hs35, memi 0 rfl, trivial⟩ ?_
       refine .op trivial rfl rfl (fun wq _ => mv (v := .slice A7' ((([4, c] : List Int) ++ (numB apt)).length) c7') rfl) ?_
       refine .op trivial rfl rfl (fun wq _ => mv (v := sb b2 (([0, 0, 0, 1] : List Int).length) 4) rfl) ?_
       refine .op trivial rfl rfl (fun wq _ => fa 5 fo34_2 rfl) ?_
       refine .op trivial rfl rfl (fun wq ⟨Lq, hsq, mh0, _⟩ => ldm (v := Str us) hsq mh0 rfl rfl one9) ?_
       refine .nil ?_
       exact alc D_7_7 ⟨⟨rfl, rfl, rfl, rfl, rfl, trivial⟩, hs35⟩
     rintro f w33 ⟨b7'', A5'', c5'', A8'', c8'', hf, hs36⟩
     obtain ⟨g14, rfl⟩ := has_upd hf
     clear hf
     refine nN ?_
     have hs37 : SH w w33 [] [.blk b1 34 [I c, I ak, .slice Aaq aq.length caq, Str an, I apt, Str us], .own A8'' (((((([4, c] : List Int) ++ (numB apt)) ++ ([0, 0, 0, 1] : List Int)) ++ (textI us)) ++ ([0] : List Int)).length) c8'' 3 1 (((((([4, c] : List Int) ++ (numB apt)) ++ ([0, 0, 0, 1] : List Int)) ++ (textI us)) ++ ([0] : List Int)).map I)] := hs36.pick [0, 1] rfl (by decide)
     refine sq ?_
     refine sq ?_
     refine rg ?_
     refine q trivial rfl rfl (fa 1 fo34_1 rfl) ?_
     refine q trivial rfl rfl (fa 0 fo25_0 rfl) ?_
     refine q trivial rfl rfl (ld (v := I ak) hs37 0 rfl rfl rfl one3) ?_
     refine q trivial rfl rfl (eqi (k := .i64) (a := ak) (b := 3) rfl rfl) ?_
     refine nl ?_
     refine nN ?_
     refine cdd (p := ak = 3) rfl (fun h5 => ?_) (fun h5 => ?_)
     · refine rg ?_
       refine q trivial rfl rfl (mv (v := .slice A8'' (((((([4, c] : List Int) ++ (numB apt)) ++ ([0, 0, 0, 1] : List Int)) ++ (textI us)) ++ ([0] : List Int)).length) c8'') rfl) ?_
       refine q trivial rfl rfl (fa 1 fo34_1 rfl) ?_
       refine q trivial rfl rfl (fa 2 fo25_2 rfl) ?_
       refine q trivial rfl rfl (ld (v := Str an) hs37 0 rfl rfl rfl one9) ?_
       refine cl trivial rfl (iTextBytes (s := an) (w := _) (hs_n := (by first | (first | omega | (simp; done) | (simp; omega)) | (have hop := oldOk_parts (by assumption : oldOk c ak aq an apt us = true); have haf := addr_fit2 hop.2.1; have hap := addrOk_fit hop.2.1; have hul := userOk_len hop.2.2.1; have htn := textI_len an; have htu := textI_len us; have hnb : (numB apt).length = 2 := rfl; first | omega | (simp; done) | (simp; omega))))) ?_
       rintro _ w34 ⟨A1, c1, rfl, hs38'⟩
       have hs38 : SH w w34 [] [.blk b1 34 [I c, I ak, .slice Aaq aq.length caq, Str an, I apt, Str us], .own A8'' (((((([4, c] : List Int) ++ (numB apt)) ++ ([0, 0, 0, 1] : List Int)) ++ (textI us)) ++ ([0] : List Int)).length) c8'' 3 1 (((((([4, c] : List Int) ++ (numB apt)) ++ ([0, 0, 0, 1] : List Int)) ++ (textI us)) ++ ([0] : List Int)).map I), .own A1 ((textI an).length) c1 3 1 ((textI an).map I)] := hs37.call0 hs38'
       clear hs38'
       refine apm (g := I) (ys := (((([4, c] : List Int) ++ (numB apt)) ++ ([0, 0, 0, 1] : List Int)) ++ (textI us)) ++ ([0] : List Int)) (zs := textI an) hs38 1 rfl sl23 rfl rfl rfl (hs38.sl0 2 rfl) (fun _ => rfl) (by unfold maxLen; have hop := oldOk_parts (by assumption : oldOk c ak aq an apt us = true); have haf := addr_fit2 hop.2.1; have hap := addrOk_fit hop.2.1; have hul := userOk_len hop.2.2.1; have htn := textI_len an; have htu := textI_len us; have hnb : (numB apt).length = 2 := rfl; simp only [List.length_append, List.length_cons, List.length_nil]; omega) (by have hop := oldOk_parts (by assumption : oldOk c ak aq an apt us = true); have haf := addr_fit2 hop.2.1; have hap := addrOk_fit hop.2.1; have hul := userOk_len hop.2.2.1; have htn := textI_len an; have htu := textI_len us; have hnb : (numB apt).length = 2 := rfl; simp only [List.length_append, List.length_cons, List.length_nil]; omega) trivial rfl (fun A2 c2 w35 (hs39 : SH w w35 [] [.blk b1 34 [I c, I ak, .slice Aaq aq.length caq, Str an, I apt, Str us], .own A1 ((textI an).length) c1 3 1 ((textI an).map I), .own A2 ((((((([4, c] : List Int) ++ (numB apt)) ++ ([0, 0, 0, 1] : List Int)) ++ (textI us)) ++ ([0] : List Int)) ++ (textI an)).length) c2 3 1 ((((((([4, c] : List Int) ++ (numB apt)) ++ ([0, 0, 0, 1] : List Int)) ++ (textI us)) ++ ([0] : List Int)) ++ (textI an)).map I)]) => ?_)
       refine bsk hs39 sl23 [I 0] [I 0] trivial rfl (fun b3 w36 (hs40 : SH w w36 [] [.blk b1 34 [I c, I ak, .slice Aaq aq.length caq, Str an, I apt, Str us], .own A1 ((textI an).length) c1 3 1 ((textI an).map I), .own A2 ((((((([4, c] : List Int) ++ (numB apt)) ++ ([0, 0, 0, 1] : List Int)) ++ (textI us)) ++ ([0] : List Int)) ++ (textI an)).length) c2 3 1 ((((((([4, c] : List Int) ++ (numB apt)) ++ ([0, 0, 0, 1] : List Int)) ++ (textI us)) ++ ([0] : List Int)) ++ (textI an)).map I), oI b3 ([0] : List Int) 1 3]) => ?_)
       refine apm (g := I) (ys := ((((([4, c] : List Int) ++ (numB apt)) ++ ([0, 0, 0, 1] : List Int)) ++ (textI us)) ++ ([0] : List Int)) ++ (textI an)) (zs := ([0] : List Int)) hs40 2 rfl sl23 rfl rfl rfl (hs40.sl0 3 rfl) (fun _ => rfl) (by unfold maxLen; have hop := oldOk_parts (by assumption : oldOk c ak aq an apt us = true); have haf := addr_fit2 hop.2.1; have hap := addrOk_fit hop.2.1; have hul := userOk_len hop.2.2.1; have htn := textI_len an; have htu := textI_len us; have hnb : (numB apt).length = 2 := rfl; simp only [List.length_append, List.length_cons, List.length_nil]; omega) (by have hop := oldOk_parts (by assumption : oldOk c ak aq an apt us = true); have haf := addr_fit2 hop.2.1; have hap := addrOk_fit hop.2.1; have hul := userOk_len hop.2.2.1; have htn := textI_len an; have htu := textI_len us; have hnb : (numB apt).length = 2 := rfl; simp only [List.length_append, List.length_cons, List.length_nil]; omega) trivial rfl (fun A3 c3 w37 (hs41 : SH w w37 [] [.blk b1 34 [I c, I ak, .slice Aaq aq.length caq, Str an, I apt, Str us], .own A1 ((textI an).length) c1 3 1 ((textI an).map I), oI b3 ([0] : List Int) 1 3, .own A3 (((((((([4, c] : List Int) ++ (numB apt)) ++ ([0, 0, 0, 1] : List Int)) ++ (textI us)) ++ ([0] : List Int)) ++ (textI an)) ++ ([0] : List Int)).length) c3 3 1 (((((((([4, c] : List Int) ++ (numB apt)) ++ ([0, 0, 0, 1] : List Int)) ++ (textI us)) ++ ([0] : List Int)) ++ (textI an)) ++ ([0] : List Int)).map I)]) => ?_)
       refine q trivial rfl rfl (asg (v := .slice A3 (((((((([4, c] : List Int) ++ (numB apt)) ++ ([0, 0, 0, 1] : List Int)) ++ (textI us)) ++ ([0] : List Int)) ++ (textI an)) ++ ([0] : List Int)).length) c3) rfl) ?_
       refine nl ?_
       refine nN ?_
       have hs42 : SH w w37 [] [.own A3 (((((((([4, c] : List Int) ++ (numB apt)) ++ ([0, 0, 0, 1] : List Int)) ++ (textI us)) ++ ([0] : List Int)) ++ (textI an)) ++ ([0] : List Int)).length) c3 3 1 (((((((([4, c] : List Int) ++ (numB apt)) ++ ([0, 0, 0, 1] : List Int)) ++ (textI us)) ++ ([0] : List Int)) ++ (textI an)) ++ ([0] : List Int)).map I)] := hs41.pick [3] rfl (by decide)
       refine sq ?_
       refine rg ?_
       refine q trivial rfl rfl (mv (v := .slice A3 (((((((([4, c] : List Int) ++ (numB apt)) ++ ([0, 0, 0, 1] : List Int)) ++ (textI us)) ++ ([0] : List Int)) ++ (textI an)) ++ ([0] : List Int)).length) c3) rfl) ?_
       refine q trivial rfl rfl (asg (v := .slice A3 (((((((([4, c] : List Int) ++ (numB apt)) ++ ([0, 0, 0, 1] : List Int)) ++ (textI us)) ++ ([0] : List Int)) ++ (textI an)) ++ ([0] : List Int)).length) c3) rfl) ?_
       refine q trivial rfl rfl (asg (v := .bool true) rfl) ?_
       refine nl ?_
       refine nN ?_
       refine rt ?_
       refine fret (v := .tuple #[.slice A3 (((((((([4, c] : List Int) ++ (numB apt)) ++ ([0, 0, 0, 1] : List Int)) ++ (textI us)) ++ ([0] : List Int)) ++ (textI an)) ++ ([0] : List Int)).length) c3, .bool true]) (.tmp (.tmp .nil)) rfl ?_
       have e5 : oldP c ak aq an apt us = ((((((([4, c] : List Int) ++ (numB apt)) ++ ([0, 0, 0, 1] : List Int)) ++ (textI us)) ++ ([0] : List Int)) ++ (textI an)) ++ ([0] : List Int), true) := by first | (rw [oldP_yes (by assumption), oldB_3 (by assumption)]; done) | (rw [oldP_yes (by assumption), oldB_1 (by assumption)]; done) | (simp [oldP, h3, h4, h5]; done) | (exfalso; omega)
       have e6 : (((((([4, c] : List Int) ++ (numB apt)) ++ ([0, 0, 0, 1] : List Int)) ++ (textI us)) ++ ([0] : List Int)) ++ (textI an)) ++ ([0] : List Int) = (oldP c ak aq an apt us).1 := by rw [e5]
       have e7 : ((((((([4, c] : List Int) ++ (numB apt)) ++ ([0, 0, 0, 1] : List Int)) ++ (textI us)) ++ ([0] : List Int)) ++ (textI an)) ++ ([0] : List Int)).length = ((oldP c ak aq an apt us).1).length := by exact congrArg List.length e6
       have e8 : true = (oldP c ak aq an apt us).2 := by rw [e5]
       exact ⟨A3, c3, (tup2 (slv rfl e7 rfl) (congrArg (Value.bool) e8)), (hs42.cast (lc (own_eq (g := I) rfl e7 rfl e6) rfl))⟩
     · refine sk ?_
       refine nN ?_
       refine sq ?_
       refine rg ?_
       refine q trivial rfl rfl (mv (v := .slice A8'' (((((([4, c] : List Int) ++ (numB apt)) ++ ([0, 0, 0, 1] : List Int)) ++ (textI us)) ++ ([0] : List Int)).length) c8'') rfl) ?_
       refine q trivial rfl rfl (asg (v := .slice A8'' (((((([4, c] : List Int) ++ (numB apt)) ++ ([0, 0, 0, 1] : List Int)) ++ (textI us)) ++ ([0] : List Int)).length) c8'') rfl) ?_
       refine q trivial rfl rfl (asg (v := .bool true) rfl) ?_
       refine nl ?_
       refine nN ?_
       refine rt ?_
       refine fret (v := .tuple #[.slice A8'' (((((([4, c] : List Int) ++ (numB apt)) ++ ([0, 0, 0, 1] : List Int)) ++ (textI us)) ++ ([0] : List Int)).length) c8'', .bool true]) (.tmp (.tmp .nil)) rfl ?_
       have e9 : oldP c ak aq an apt us = ((((([4, c] : List Int) ++ (numB apt)) ++ ([0, 0, 0, 1] : List Int)) ++ (textI us)) ++ ([0] : List Int), true) := by first | (rw [oldP_yes (by assumption), oldB_3 (by assumption)]; done) | (rw [oldP_yes (by assumption), oldB_1 (by assumption)]; done) | (simp [oldP, h3, h4, h5]; done) | (exfalso; omega)
       have e10 : (((([4, c] : List Int) ++ (numB apt)) ++ ([0, 0, 0, 1] : List Int)) ++ (textI us)) ++ ([0] : List Int) = (oldP c ak aq an apt us).1 := by rw [e9]
       have e11 : ((((([4, c] : List Int) ++ (numB apt)) ++ ([0, 0, 0, 1] : List Int)) ++ (textI us)) ++ ([0] : List Int)).length = ((oldP c ak aq an apt us).1).length := by exact congrArg List.length e10
       have e12 : true = (oldP c ak aq an apt us).2 := by rw [e9]
       exact ⟨A8'', c8'', (tup2 (slv rfl e11 rfl) (congrArg (Value.bool) e12)), ((hs37.pick [1] rfl (by decide)).cast (lc (own_eq (g := I) rfl e11 rfl e10) rfl))⟩
   · refine sk ?_
     refine nN ?_
     refine sq ?_
     refine raJ (fun w' => ∃ L, SH w w' [] L ∧ (.blk b1 34 [I c, I ak, .slice Aaq aq.length caq, Str an, I apt, Str us]) ∈ L ∧ True) (fun f w' => ∃ (b7''' : Nat) (A5''' : Option Addr) (c5''' : Nat) (A8''' : Option Addr) (c8''' : Nat), Has f [(1, pB b1), (4, .slice A8''' (((((([4, c] : List Int) ++ (numB apt)) ++ aq) ++ (textI us)) ++ ([0] : List Int)).length) c8''')] ∧ SH w w' [] [.blk b1 34 [I c, I ak, .slice Aaq aq.length caq, Str an, I apt, Str us], .own A8''' (((((([4, c] : List Int) ++ (numB apt)) ++ aq) ++ (textI us)) ++ ([0] : List Int)).length) c8''' 3 1 (((((([4, c] : List Int) ++ (numB apt)) ++ aq) ++ (textI us)) ++ ([0] : List Int)).map I), .own A6' ((numB apt).length) c6' 3 1 ((numB apt).map I), .own A5''' ((textI us).length) c5''' 3 1 ((textI us).map I), oI b7''' ([0] : List Int) 1 3]) mixed ?_ ?_
     · refine dag (fuel' := 2) (listed' := lbits 10 255) (fun f w' => ∃ (b7''' : Nat) (A5''' : Option Addr) (c5''' : Nat) (A6''' : Option Addr) (c6''' : Nat), Has f [(1, pB b1), (4, .slice A7' ((([4, c] : List Int) ++ (numB apt)).length) c7'), (31, .slice A6''' ((((([4, c] : List Int) ++ (numB apt)) ++ aq) ++ (textI us)).length) c6'''), (32, sb b7''' (([0] : List Int).length) 1)] ∧ SH w w' [] [.blk b1 34 [I c, I ak, .slice Aaq aq.length caq, Str an, I apt, Str us], .own A6''' ((((([4, c] : List Int) ++ (numB apt)) ++ aq) ++ (textI us)).length) c6''' 3 1 ((((([4, c] : List Int) ++ (numB apt)) ++ aq) ++ (textI us)).map I), .own A6' ((numB apt).length) c6' 3 1 ((numB apt).map I), .own A5''' ((textI us).length) c5''' 3 1 ((textI us).map I), oI b7''' ([0] : List Int) 1 3]) ?_ (fun D_7_0 => ?_)
       · rintro f w38 ⟨b7''', A5''', c5''', A6''', c6''', hf, hs43⟩
         obtain ⟨g15, rfl⟩ := has_upd hf
         clear hf
         refine aaL [8] (fa_one ?_)
         refine one_ rfl ?_
         refine apm (g := I) (ys := ((([4, c] : List Int) ++ (numB apt)) ++ aq) ++ (textI us)) (zs := ([0] : List Int)) hs43 1 rfl sl23 rfl rfl rfl (hs43.sl0 4 rfl) (fun _ => rfl) (by unfold maxLen; have hop := oldOk_parts (by assumption : oldOk c ak aq an apt us = true); have haf := addr_fit2 hop.2.1; have hap := addrOk_fit hop.2.1; have hul := userOk_len hop.2.2.1; have htn := textI_len an; have htu := textI_len us; have hnb : (numB apt).length = 2 := rfl; simp only [List.length_append, List.length_cons, List.length_nil]; omega) (by have hop := oldOk_parts (by assumption : oldOk c ak aq an apt us = true); have haf := addr_fit2 hop.2.1; have hap := addrOk_fit hop.2.1; have hul := userOk_len hop.2.2.1; have htn := textI_len an; have htu := textI_len us; have hnb : (numB apt).length = 2 := rfl; simp only [List.length_append, List.length_cons, List.length_nil]; omega) trivial rfl (fun A8''' c8''' w39 hs44 => ?_)
         refine nl (kq ⟨_, hs44, memi 0 rfl, trivial⟩ ?_)
         refine tk (fuel := 0) (is := [9]) (.cons rfl (.nil)) (by kernel_rfl) (by kernel_rfl) ⟨_, hs44, memi 0 rfl, trivial⟩ ?_
         refine .op trivial rfl rfl (fun wq _ => asg (v := .slice A8''' (((((([4, c] : List Int) ++ (numB apt)) ++ aq) ++ (textI us)) ++ ([0] : List Int)).length) c8''') rfl) ?_
         refine .nil ?_
         refine ad (by kernel_rfl) ?_
         exact ⟨b7''', A5''', c5''', A8''', c8''', ⟨rfl, rfl, trivial⟩, (hs44.pick [0, 4, 1, 2, 3] rfl (by decide))⟩
       refine dag (fuel' := 3) (listed' := lbits 10 127) (fun f w' => ∃ (A5''' : Option Addr) (c5''' : Nat) (A6''' : Option Addr) (c6''' : Nat), Has f [(1, pB b1), (4, .slice A7' ((([4, c] : List Int) ++ (numB apt)).length) c7'), (31, .slice A6''' ((((([4, c] : List Int) ++ (numB apt)) ++ aq) ++ (textI us)).length) c6''')] ∧ SH w w' [] [.blk b1 34 [I c, I ak, .slice Aaq aq.length caq, Str an, I apt, Str us], .own A6''' ((((([4, c] : List Int) ++ (numB apt)) ++ aq) ++ (textI us)).length) c6''' 3 1 ((((([4, c] : List Int) ++ (numB apt)) ++ aq) ++ (textI us)).map I), .own A6' ((numB apt).length) c6' 3 1 ((numB apt).map I), .own A5''' ((textI us).length) c5''' 3 1 ((textI us).map I)]) ?_ (fun D_7_1 => ?_)
       · rintro f w40 ⟨A5''', c5''', A6''', c6''', hf, hs45⟩
         obtain ⟨g16, rfl⟩ := has_upd hf
         clear hf
         refine aaL [7] (fa_one ?_)
         refine one_ rfl ?_
         refine bsk hs45 sl23 [I 0] [I 0] trivial rfl (fun b7''' w41 hs46 => ?_)
         exact nl (kq ⟨_, hs46, memi 0 rfl, trivial⟩ (alc D_7_0 ⟨b7''', A5''', c5''', A6''', c6''', ⟨rfl, rfl, rfl, rfl, trivial⟩, hs46⟩))
       refine dag (fuel' := 3) (listed' := lbits 10 191) (fun f w' => ∃ (A2''' : Option Addr) (c2''' b7''' : Nat) (A5''' : Option Addr) (c5''' : Nat), Has f [(1, pB b1), (4, .slice A7' ((([4, c] : List Int) ++ (numB apt)).length) c7'), (27, .slice A2''' (((([4, c] : List Int) ++ (numB apt)) ++ aq).length) c2'''), (30, .slice A5''' ((textI us).length) c5'''), (32, sb b7''' (([0] : List Int).length) 1)] ∧ SH w w' [] [.blk b1 34 [I c, I ak, .slice Aaq aq.length caq, Str an, I apt, Str us], .own A2''' (((([4, c] : List Int) ++ (numB apt)) ++ aq).length) c2''' 3 1 (((([4, c] : List Int) ++ (numB apt)) ++ aq).map I), .own A6' ((numB apt).length) c6' 3 1 ((numB apt).map I), .own A5''' ((textI us).length) c5''' 3 1 ((textI us).map I), oI b7''' ([0] : List Int) 1 3]) ?_ (fun D_7_2 => ?_)
       · rintro f w42 ⟨A2''', c2''', b7''', A5''', c5''', hf, hs47⟩
         obtain ⟨g17, rfl⟩ := has_upd hf
         clear hf
         refine aaL [6] (fa_one ?_)
         refine one_ rfl ?_
         refine apm (g := I) (ys := (([4, c] : List Int) ++ (numB apt)) ++ aq) (zs := textI us) hs47 1 rfl sl23 rfl rfl rfl (hs47.sl0 3 rfl) (fun _ => rfl) (by unfold maxLen; have hop := oldOk_parts (by assumption : oldOk c ak aq an apt us = true); have haf := addr_fit2 hop.2.1; have hap := addrOk_fit hop.2.1; have hul := userOk_len hop.2.2.1; have htn := textI_len an; have htu := textI_len us; have hnb : (numB apt).length = 2 := rfl; simp only [List.length_append, List.length_cons, List.length_nil]; omega) (by have hop := oldOk_parts (by assumption : oldOk c ak aq an apt us = true); have haf := addr_fit2 hop.2.1; have hap := addrOk_fit hop.2.1; have hul := userOk_len hop.2.2.1; have htn := textI_len an; have htu := textI_len us; have hnb : (numB apt).length = 2 := rfl; simp only [List.length_append, List.length_cons, List.length_nil]; omega) trivial rfl (fun A6''' c6''' w43 hs48 => ?_)
         exact nl (kq ⟨_, hs48, memi 0 rfl, trivial⟩ (alc D_7_0 ⟨b7''', A5''', c5''', A6''', c6''', ⟨rfl, rfl, rfl, rfl, trivial⟩, (hs48.pick [0, 4, 1, 2, 3] rfl (by decide))⟩))
       refine dag (fuel' := 4) (listed' := lbits 10 63) (fun f w' => ∃ (A2''' : Option Addr) (c2''' : Nat) (A5''' : Option Addr) (c5''' : Nat), Has f [(1, pB b1), (4, .slice A7' ((([4, c] : List Int) ++ (numB apt)).length) c7'), (27, .slice A2''' (((([4, c] : List Int) ++ (numB apt)) ++ aq).length) c2'''), (30, .slice A5''' ((textI us).length) c5''')] ∧ SH w w' [] [.blk b1 34 [I c, I ak, .slice Aaq aq.length caq, Str an, I apt, Str us], .own A2''' (((([4, c] : List Int) ++ (numB apt)) ++ aq).length) c2''' 3 1 (((([4, c] : List Int) ++ (numB apt)) ++ aq).map I), .own A6' ((numB apt).length) c6' 3 1 ((numB apt).map I), .own A5''' ((textI us).length) c5''' 3 1 ((textI us).map I)]) ?_ (fun D_7_3 => ?_)
       · rintro f w44 ⟨A2''', c2''', A5''', c5''', hf, hs49⟩
         obtain ⟨g18, rfl⟩ := has_upd hf
         clear hf
         refine aaL [6, 7] (fa_cons ?_ (fa_one ?_))
         · refine one_ rfl ?_
           refine apm (g := I) (ys := (([4, c] : List Int) ++ (numB apt)) ++ aq) (zs := textI us) hs49 1 rfl sl23 rfl rfl rfl (hs49.sl0 3 rfl) (fun _ => rfl) (by unfold maxLen; have hop := oldOk_parts (by assumption : oldOk c ak aq an apt us = true); have haf := addr_fit2 hop.2.1; have hap := addrOk_fit hop.2.1; have hul := userOk_len hop.2.2.1; have htn := textI_len an; have htu := textI_len us; have hnb : (numB apt).length = 2 := rfl; simp only [List.length_append, List.length_cons, List.length_nil]; omega) (by have hop := oldOk_parts (by assumption : oldOk c ak aq an apt us = true); have haf := addr_fit2 hop.2.1; have hap := addrOk_fit hop.2.1; have hul := userOk_len hop.2.2.1; have htn := textI_len an; have htu := textI_len us; have hnb : (numB apt).length = 2 := rfl; simp only [List.length_append, List.length_cons, List.length_nil]; omega) trivial rfl (fun A6''' c6''' w45 hs50 => ?_)
           exact nl (kq ⟨_, hs50, memi 0 rfl, trivial⟩ (alc D_7_1 ⟨A5''', c5''', A6''', c6''', ⟨rfl, rfl, rfl, trivial⟩, (hs50.pick [0, 3, 1, 2] rfl (by decide))⟩))
         · refine one_ rfl ?_
           refine bsk hs49 sl23 [I 0] [I 0] trivial rfl (fun b7''' w46 hs51 => ?_)
           exact nl (kq ⟨_, hs51, memi 0 rfl, trivial⟩ (alc D_7_2 ⟨A2''', c2''', b7''', A5''', c5''', ⟨rfl, rfl, rfl, rfl, rfl, trivial⟩, hs51⟩))
       refine dag (fuel' := 4) (listed' := lbits 10 159) (fun f w' => ∃ (A2''' : Option Addr) (c2''' b7''' : Nat), Has f [(1, pB b1), (4, .slice A7' ((([4, c] : List Int) ++ (numB apt)).length) c7'), (27, .slice A2''' (((([4, c] : List Int) ++ (numB apt)) ++ aq).length) c2'''), (29, Str us), (32, sb b7''' (([0] : List Int).length) 1)] ∧ SH w w' [] [.blk b1 34 [I c, I ak, .slice Aaq aq.length caq, Str an, I apt, Str us], .own A2''' (((([4, c] : List Int) ++ (numB apt)) ++ aq).length) c2''' 3 1 (((([4, c] : List Int) ++ (numB apt)) ++ aq).map I), .own A6' ((numB apt).length) c6' 3 1 ((numB apt).map I), oI b7''' ([0] : List Int) 1 3]) ?_ (fun D_7_4 => ?_)
       · rintro f w47 ⟨A2''', c2''', b7''', hf, hs52⟩
         obtain ⟨g19, rfl⟩ := has_upd hf
         clear hf
         refine aaL [5] (fa_one ?_)
         refine one_ rfl ?_
         refine cl trivial rfl (iTextBytes (s := us) (w := _) (hs_n := (by first | (first | omega | (simp; done) | (simp; omega)) | (have hop := oldOk_parts (by assumption : oldOk c ak aq an apt us = true); have haf := addr_fit2 hop.2.1; have hap := addrOk_fit hop.2.1; have hul := userOk_len hop.2.2.1; have htn := textI_len an; have htu := textI_len us; have hnb : (numB apt).length = 2 := rfl; first | omega | (simp; done) | (simp; omega))))) ?_
         rintro _ w48 ⟨A5''', c5''', rfl, hs53'⟩
         have hs53 := hs52.call0 hs53'
         clear hs53'
         exact nl (kq ⟨_, hs53, memi 0 rfl, trivial⟩ (alc D_7_2 ⟨A2''', c2''', b7''', A5''', c5''', ⟨rfl, rfl, rfl, rfl, rfl, trivial⟩, (hs53.pick [0, 1, 2, 4, 3] rfl (by decide))⟩))
       refine dag (fuel' := 5) (listed' := lbits 10 31) (fun f w' => ∃ (A2''' : Option Addr) (c2''' : Nat), Has f [(1, pB b1), (4, .slice A7' ((([4, c] : List Int) ++ (numB apt)).length) c7'), (27, .slice A2''' (((([4, c] : List Int) ++ (numB apt)) ++ aq).length) c2'''), (29, Str us)] ∧ SH w w' [] [.blk b1 34 [I c, I ak, .slice Aaq aq.length caq, Str an, I apt, Str us], .own A2''' (((([4, c] : List Int) ++ (numB apt)) ++ aq).length) c2''' 3 1 (((([4, c] : List Int) ++ (numB apt)) ++ aq).map I), .own A6' ((numB apt).length) c6' 3 1 ((numB apt).map I)]) ?_ (fun D_7_5 => ?_)
       · rintro f w49 ⟨A2''', c2''', hf, hs54⟩
         obtain ⟨g20, rfl⟩ := has_upd hf
         clear hf
         refine aaL [5, 7] (fa_cons ?_ (fa_one ?_))
         · refine one_ rfl ?_
           refine cl trivial rfl (iTextBytes (s := us) (w := _) (hs_n := (by first | (first | omega | (simp; done) | (simp; omega)) | (have hop := oldOk_parts (by assumption : oldOk c ak aq an apt us = true); have haf := addr_fit2 hop.2.1; have hap := addrOk_fit hop.2.1; have hul := userOk_len hop.2.2.1; have htn := textI_len an; have htu := textI_len us; have hnb : (numB apt).length = 2 := rfl; first | omega | (simp; done) | (simp; omega))))) ?_
           rintro _ w50 ⟨A5''', c5''', rfl, hs55'⟩
           have hs55 := hs54.call0 hs55'
           clear hs55'
           exact nl (kq ⟨_, hs55, memi 0 rfl, trivial⟩ (alc D_7_3 ⟨A2''', c2''', A5''', c5''', ⟨rfl, rfl, rfl, rfl, trivial⟩, hs55⟩))
         · refine one_ rfl ?_
           refine bsk hs54 sl23 [I 0] [I 0] trivial rfl (fun b7''' w51 hs56 => ?_)
           exact nl (kq ⟨_, hs56, memi 0 rfl, trivial⟩ (alc D_7_4 ⟨A2''', c2''', b7''', ⟨rfl, rfl, rfl, rfl, rfl, trivial⟩, hs56⟩))
       refine dag (fuel' := 5) (listed' := lbits 10 155) (fun f w' => ∃ (b7''' : Nat), Has f [(1, pB b1), (4, .slice A7' ((([4, c] : List Int) ++ (numB apt)).length) c7'), (25, .slice A7' ((([4, c] : List Int) ++ (numB apt)).length) c7'), (26, .slice Aaq aq.length caq), (29, Str us), (32, sb b7''' (([0] : List Int).length) 1)] ∧ SH w w' [] [.blk b1 34 [I c, I ak, .slice Aaq aq.length caq, Str an, I apt, Str us], .own A7' ((([4, c] : List Int) ++ (numB apt)).length) c7' 3 1 ((([4, c] : List Int) ++ (numB apt)).map I), .own A6' ((numB apt).length) c6' 3 1 ((numB apt).map I), oI b7''' ([0] : List Int) 1 3]) ?_ (fun D_7_6 => ?_)
       · rintro f w52 ⟨b7''', hf, hs57⟩
         obtain ⟨g21, rfl⟩ := has_upd hf
         clear hf
         refine aaL [2] (fa_one ?_)
         refine one_ rfl ?_
         refine apm (g := I) (ys := ([4, c] : List Int) ++ (numB apt)) (zs := aq) hs57 1 rfl sl23 rfl rfl rfl (haq.up0 hs57) (fun _ => rfl) (by unfold maxLen; have hop := oldOk_parts (by assumption : oldOk c ak aq an apt us = true); have haf := addr_fit2 hop.2.1; have hap := addrOk_fit hop.2.1; have hul := userOk_len hop.2.2.1; have htn := textI_len an; have htu := textI_len us; have hnb : (numB apt).length = 2 := rfl; simp only [List.length_append, List.length_cons, List.length_nil]; omega) (by have hop := oldOk_parts (by assumption : oldOk c ak aq an apt us = true); have haf := addr_fit2 hop.2.1; have hap := addrOk_fit hop.2.1; have hul := userOk_len hop.2.2.1; have htn := textI_len an; have htu := textI_len us; have hnb : (numB apt).length = 2 := rfl; simp only [List.length_append, List.length_cons, List.length_nil]; omega) trivial rfl (fun A2''' c2''' w53 hs58 => ?_)
         exact nl (kq ⟨_, hs58, memi 0 rfl, trivial⟩ (alc D_7_4 ⟨A2''', c2''', b7''', ⟨rfl, rfl, rfl, rfl, rfl, trivial⟩, (hs58.pick [0, 3, 1, 2] rfl (by decide))⟩))
       refine dag (fuel' := 6) (listed' := lbits 10 27) (fun f w' => Has f [(1, pB b1), (4, .slice A7' ((([4, c] : List Int) ++ (numB apt)).length) c7'), (25, .slice A7' ((([4, c] : List Int) ++ (numB apt)).length) c7'), (26, .slice Aaq aq.length caq), (29, Str us)] ∧ SH w w' [] [.blk b1 34 [I c, I ak, .slice Aaq aq.length caq, Str an, I apt, Str us], .own A7' ((([4, c] : List Int) ++ (numB apt)).length) c7' 3 1 ((([4, c] : List Int) ++ (numB apt)).map I), .own A6' ((numB apt).length) c6' 3 1 ((numB apt).map I)]) ?_ (fun D_7_7 => ?_)
       · rintro f w54 ⟨hf, hs59⟩
         obtain ⟨g22, rfl⟩ := has_upd hf
         clear hf
         refine aaL [2, 7] (fa_cons ?_ (fa_one ?_))
         · refine one_ rfl ?_
           refine apm (g := I) (ys := ([4, c] : List Int) ++ (numB apt)) (zs := aq) hs59 1 rfl sl23 rfl rfl rfl (haq.up0 hs59) (fun _ => rfl) (by unfold maxLen; have hop := oldOk_parts (by assumption : oldOk c ak aq an apt us = true); have haf := addr_fit2 hop.2.1; have hap := addrOk_fit hop.2.1; have hul := userOk_len hop.2.2.1; have htn := textI_len an; have htu := textI_len us; have hnb : (numB apt).length = 2 := rfl; simp only [List.length_append, List.length_cons, List.length_nil]; omega) (by have hop := oldOk_parts (by assumption : oldOk c ak aq an apt us = true); have haf := addr_fit2 hop.2.1; have hap := addrOk_fit hop.2.1; have hul := userOk_len hop.2.2.1; have htn := textI_len an; have htu := textI_len us; have hnb : (numB apt).length = 2 := rfl; simp only [List.length_append, List.length_cons, List.length_nil]; omega) trivial rfl (fun A2''' c2''' w55 hs60 => ?_)
           exact nl (kq ⟨_, hs60, memi 0 rfl, trivial⟩ (alc D_7_5 ⟨A2''', c2''', ⟨rfl, rfl, rfl, rfl, trivial⟩, (hs60.pick [0, 2, 1] rfl (by decide))⟩))
         · refine one_ rfl ?_
           refine bsk hs59 sl23 [I 0] [I 0] trivial rfl (fun b7''' w56 hs61 => ?_)
           exact nl (kq ⟨_, hs61, memi 0 rfl, trivial⟩ (alc D_7_6 ⟨b7''', ⟨rfl, rfl, rfl, rfl, rfl, rfl, trivial⟩, hs61⟩))
       have hs62 := hs14.drew
       refine tk (fuel := 6) (is := [0, 1, 3, 4]) (.cons rfl (.cons rfl (.cons rfl (.cons rfl (.nil))))) (by kernel_rfl) (by kernel_rfl) ⟨_, hs62, memi 0 rfl, trivial⟩ ?_
       refine .op trivial rfl rfl (fun wq _ => mv (v := .slice A7' ((([4, c] : List Int) ++ (numB apt)).length) c7') rfl) ?_
       refine .op trivial rfl rfl (fun wq _ => mv (v := .slice Aaq aq.length caq) rfl) ?_
       refine .op trivial rfl rfl (fun wq _ => fa 5 fo34_2 rfl) ?_
       refine .op trivial rfl rfl (fun wq ⟨Lq, hsq, mh0, _⟩ => ldm (v := Str us) hsq mh0 rfl rfl one9) ?_
       refine .nil ?_
       exact alc D_7_7 ⟨⟨rfl, rfl, rfl, rfl, rfl, trivial⟩, hs62⟩
     rintro f w57 ⟨b7''', A5''', c5''', A8''', c8''', hf, hs63⟩
     obtain ⟨g23, rfl⟩ := has_upd hf
     clear hf
     refine nN ?_
     have hs64 : SH w w57 [] [.blk b1 34 [I c, I ak, .slice Aaq aq.length caq, Str an, I apt, Str us], .own A8''' (((((([4, c] : List Int) ++ (numB apt)) ++ aq) ++ (textI us)) ++ ([0] : List Int)).length) c8''' 3 1 (((((([4, c] : List Int) ++ (numB apt)) ++ aq) ++ (textI us)) ++ ([0] : List Int)).map I)] := hs63.pick [0, 1] rfl (by decide)
     refine sq ?_
     refine sq ?_
     refine rg ?_
     refine q trivial rfl rfl (fa 1 fo34_1 rfl) ?_
     refine q trivial rfl rfl (fa 0 fo25_0 rfl) ?_
     refine q trivial rfl rfl (ld (v := I ak) hs64 0 rfl rfl rfl one3) ?_
     refine q trivial rfl rfl (eqi (k := .i64) (a := ak) (b := 3) rfl rfl) ?_
     refine nl ?_
     refine nN ?_
     refine cdd (p := ak = 3) rfl (fun h6 => ?_) (fun h6 => ?_)
     · refine rg ?_
       refine q trivial rfl rfl (mv (v := .slice A8''' (((((([4, c] : List Int) ++ (numB apt)) ++ aq) ++ (textI us)) ++ ([0] : List Int)).length) c8''') rfl) ?_
       refine q trivial rfl rfl (fa 1 fo34_1 rfl) ?_
       refine q trivial rfl rfl (fa 2 fo25_2 rfl) ?_
       refine q trivial rfl rfl (ld (v := Str an) hs64 0 rfl rfl rfl one9) ?_
       refine cl trivial rfl (iTextBytes (s := an) (w := _) (hs_n := (by first | (first | omega | (simp; done) | (simp; omega)) | (have hop := oldOk_parts (by assumption : oldOk c ak aq an apt us = true); have haf := addr_fit2 hop.2.1; have hap := addrOk_fit hop.2.1; have hul := userOk_len hop.2.2.1; have htn := textI_len an; have htu := textI_len us; have hnb : (numB apt).length = 2 := rfl; first | omega | (simp; done) | (simp; omega))))) ?_
       rintro _ w58 ⟨A4, c4, rfl, hs65'⟩
       have hs65 : SH w w58 [] [.blk b1 34 [I c, I ak, .slice Aaq aq.length caq, Str an, I apt, Str us], .own A8''' (((((([4, c] : List Int) ++ (numB apt)) ++ aq) ++ (textI us)) ++ ([0] : List Int)).length) c8''' 3 1 (((((([4, c] : List Int) ++ (numB apt)) ++ aq) ++ (textI us)) ++ ([0] : List Int)).map I), .own A4 ((textI an).length) c4 3 1 ((textI an).map I)] := hs64.call0 hs65'
       clear hs65'
       refine apm (g := I) (ys := (((([4, c] : List Int) ++ (numB apt)) ++ aq) ++ (textI us)) ++ ([0] : List Int)) (zs := textI an) hs65 1 rfl sl23 rfl rfl rfl (hs65.sl0 2 rfl) (fun _ => rfl) (by unfold maxLen; have hop := oldOk_parts (by assumption : oldOk c ak aq an apt us = true); have haf := addr_fit2 hop.2.1; have hap := addrOk_fit hop.2.1; have hul := userOk_len hop.2.2.1; have htn := textI_len an; have htu := textI_len us; have hnb : (numB apt).length = 2 := rfl; simp only [List.length_append, List.length_cons, List.length_nil]; omega) (by have hop := oldOk_parts (by assumption : oldOk c ak aq an apt us = true); have haf := addr_fit2 hop.2.1; have hap := addrOk_fit hop.2.1; have hul := userOk_len hop.2.2.1; have htn := textI_len an; have htu := textI_len us; have hnb : (numB apt).length = 2 := rfl; simp only [List.length_append, List.length_cons, List.length_nil]; omega) trivial rfl (fun A5 c5 w59 (hs66 : SH w w59 [] [.blk b1 34 [I c, I ak, .slice Aaq aq.length caq, Str an, I apt, Str us], .own A4 ((textI an).length) c4 3 1 ((textI an).map I), .own A5 ((((((([4, c] : List Int) ++ (numB apt)) ++ aq) ++ (textI us)) ++ ([0] : List Int)) ++ (textI an)).length) c5 3 1 ((((((([4, c] : List Int) ++ (numB apt)) ++ aq) ++ (textI us)) ++ ([0] : List Int)) ++ (textI an)).map I)]) => ?_)
       refine bsk hs66 sl23 [I 0] [I 0] trivial rfl (fun b4 w60 (hs67 : SH w w60 [] [.blk b1 34 [I c, I ak, .slice Aaq aq.length caq, Str an, I apt, Str us], .own A4 ((textI an).length) c4 3 1 ((textI an).map I), .own A5 ((((((([4, c] : List Int) ++ (numB apt)) ++ aq) ++ (textI us)) ++ ([0] : List Int)) ++ (textI an)).length) c5 3 1 ((((((([4, c] : List Int) ++ (numB apt)) ++ aq) ++ (textI us)) ++ ([0] : List Int)) ++ (textI an)).map I), oI b4 ([0] : List Int) 1 3]) => ?_)
       refine apm (g := I) (ys := ((((([4, c] : List Int) ++ (numB apt)) ++ aq) ++ (textI us)) ++ ([0] : List Int)) ++ (textI an)) (zs := ([0] : List Int)) hs67 2 rfl sl23 rfl rfl rfl (hs67.sl0 3 rfl) (fun _ => rfl) (by unfold maxLen; have hop := oldOk_parts (by assumption : oldOk c ak aq an apt us = true); have haf := addr_fit2 hop.2.1; have hap := addrOk_fit hop.2.1; have hul := userOk_len hop.2.2.1; have htn := textI_len an; have htu := textI_len us; have hnb : (numB apt).length = 2 := rfl; simp only [List.length_append, List.length_cons, List.length_nil]; omega) (by have hop := oldOk_parts (by assumption : oldOk c ak aq an apt us = true); have haf := addr_fit2 hop.2.1; have hap := addrOk_fit hop.2.1; have hul := userOk_len hop.2.2.1; have htn := textI_len an; have htu := textI_len us; have hnb : (numB apt).length = 2 := rfl; simp only [List.length_append, List.length_cons, List.length_nil]; omega) trivial rfl (fun A6 c6 w61 (hs68 : SH w w61 [] [.blk b1 34 [I c, I ak, .slice Aaq aq.length caq, Str an, I apt, Str us], .own A4 ((textI an).length) c4 3 1 ((textI an).map I), oI b4 ([0] : List Int) 1 3, .own A6 (((((((([4, c] : List Int) ++ (numB apt)) ++ aq) ++ (textI us)) ++ ([0] : List Int)) ++ (textI an)) ++ ([0] : List Int)).length) c6 3 1 (((((((([4, c] : List Int) ++ (numB apt)) ++ aq) ++ (textI us)) ++ ([0] : List Int)) ++ (textI an)) ++ ([0] : List Int)).map I)]) => ?_)
       refine q trivial rfl rfl (asg (v := .slice A6 (((((((([4, c] : List Int) ++ (numB apt)) ++ aq) ++ (textI us)) ++ ([0] : List Int)) ++ (textI an)) ++ ([0] : List Int)).length) c6) rfl) ?_
       refine nl ?_
       refine nN ?_
       have hs69 : SH w w61 [] [.own A6 (((((((([4, c] : List Int) ++ (numB apt)) ++ aq) ++ (textI us)) ++ ([0] : List Int)) ++ (textI an)) ++ ([0] : List Int)).length) c6 3 1 (((((((([4, c] : List Int) ++ (numB apt)) ++ aq) ++ (textI us)) ++ ([0] : List Int)) ++ (textI an)) ++ ([0] : List Int)).map I)] := hs68.pick [3] rfl (by decide)
       refine sq ?_
       refine rg ?_
       refine q trivial rfl rfl (mv (v := .slice A6 (((((((([4, c] : List Int) ++ (numB apt)) ++ aq) ++ (textI us)) ++ ([0] : List Int)) ++ (textI an)) ++ ([0] : List Int)).length) c6) rfl) ?_
       refine q trivial rfl rfl (asg (v := .slice A6 (((((((([4, c] : List Int) ++ (numB apt)) ++ aq) ++ (textI us)) ++ ([0] : List Int)) ++ (textI an)) ++ ([0] : List Int)).length) c6) rfl) ?_
       refine q trivial rfl rfl (asg (v := .bool true) rfl) ?_
       refine nl ?_
       refine nN ?_
       refine rt ?_
       refine fret (v := .tuple #[.slice A6 (((((((([4, c] : List Int) ++ (numB apt)) ++ aq) ++ (textI us)) ++ ([0] : List Int)) ++ (textI an)) ++ ([0] : List Int)).length) c6, .bool true]) (.tmp (.tmp .nil)) rfl ?_
       have e13 : oldP c ak aq an apt us = ((((((([4, c] : List Int) ++ (numB apt)) ++ aq) ++ (textI us)) ++ ([0] : List Int)) ++ (textI an)) ++ ([0] : List Int), true) := by first | (rw [oldP_yes (by assumption), oldB_3 (by assumption)]; done) | (rw [oldP_yes (by assumption), oldB_1 (by assumption)]; done) | (simp [oldP, h3, h4, h6]; done) | (exfalso; omega)
       have e14 : (((((([4, c] : List Int) ++ (numB apt)) ++ aq) ++ (textI us)) ++ ([0] : List Int)) ++ (textI an)) ++ ([0] : List Int) = (oldP c ak aq an apt us).1 := by rw [e13]
       have e15 : ((((((([4, c] : List Int) ++ (numB apt)) ++ aq) ++ (textI us)) ++ ([0] : List Int)) ++ (textI an)) ++ ([0] : List Int)).length = ((oldP c ak aq an apt us).1).length := by exact congrArg List.length e14
       have e16 : true = (oldP c ak aq an apt us).2 := by rw [e13]
       exact ⟨A6, c6, (tup2 (slv rfl e15 rfl) (congrArg (Value.bool) e16)), (hs69.cast (lc (own_eq (g := I) rfl e15 rfl e14) rfl))⟩
     · refine sk ?_
       refine nN ?_
       refine sq ?_
       refine rg ?_
       refine q trivial rfl rfl (mv (v := .slice A8''' (((((([4, c] : List Int) ++ (numB apt)) ++ aq) ++ (textI us)) ++ ([0] : List Int)).length) c8''') rfl) ?_
       refine q trivial rfl rfl (asg (v := .slice A8''' (((((([4, c] : List Int) ++ (numB apt)) ++ aq) ++ (textI us)) ++ ([0] : List Int)).length) c8''') rfl) ?_
       refine q trivial rfl rfl (asg (v := .bool true) rfl) ?_
       refine nl ?_
       refine nN ?_
       refine rt ?_
       refine fret (v := .tuple #[.slice A8''' (((((([4, c] : List Int) ++ (numB apt)) ++ aq) ++ (textI us)) ++ ([0] : List Int)).length) c8''', .bool true]) (.tmp (.tmp .nil)) rfl ?_
       have e17 : oldP c ak aq an apt us = ((((([4, c] : List Int) ++ (numB apt)) ++ aq) ++ (textI us)) ++ ([0] : List Int), true) := by first | (rw [oldP_yes (by assumption), oldB_3 (by assumption)]; done) | (rw [oldP_yes (by assumption), oldB_1 (by assumption)]; done) | (simp [oldP, h3, h4, h6]; done) | (exfalso; omega)
       have e18 : (((([4, c] : List Int) ++ (numB apt)) ++ aq) ++ (textI us)) ++ ([0] : List Int) = (oldP c ak aq an apt us).1 := by rw [e17]
       have e19 : ((((([4, c] : List Int) ++ (numB apt)) ++ aq) ++ (textI us)) ++ ([0] : List Int)).length = ((oldP c ak aq an apt us).1).length := by exact congrArg List.length e18
       have e20 : true = (oldP c ak aq an apt us).2 := by rw [e17]
       exact ⟨A8''', c8''', (tup2 (slv rfl e19 rfl) (congrArg (Value.bool) e20)), ((hs64.pick [1] rfl (by decide)).cast (lc (own_eq (g := I) rfl e19 rfl e18) rfl))⟩

set_option maxHeartbeats 8000000 in
theorem sL4Bytes (c : Int) (ak : Int) {Aaq : Option Addr} {caq : Nat} (aq : List Int) (an : List UInt8) (apt : Int) (us : List UInt8) (w : World) (haq : Sl w [] 1 Aaq aq.length caq (aq.map I)) (han_n : an.length ≤ 1099511627776) (hus_n : us.length ≤ 2147483648) (hok : oldOk c ak aq an apt us = true) : Does Tryd.prog 58 [.agg #[I c, I ak, .slice Aaq aq.length caq, Str an, I apt, Str us]] w (fun v w' => ∃ Ar : Option Addr, ∃ cr : Nat, v = .slice Ar (oldB c ak aq an apt us).length cr ∧ SH w w' [] [.own Ar ((oldB c ak aq an apt us).length) cr 3 1 ((oldB c ak aq an apt us).map I)]) := by
 refine fn_enter (N := 46) Tryd.func58 rfl (by kernel_rfl) rfl rfl rfl ?_
 have hs0 : SH w w [] [] := SH.refl w []
 have haq_m : aq.length ≤ 9223372036854775807 := Nat.le_trans haq.cap haq.capMax
 refine sq ?_
 refine rg ?_
 refine bx (v := .agg #[I c, I ak, .slice Aaq aq.length caq, Str an, I apt, Str us]) (cs := [I c, I ak, .slice Aaq aq.length caq, Str an, I apt, Str us]) hs0 rfl rfl trivial rfl (fun b1 w1 (hs1 : SH w w1 [] [.blk b1 34 [I c, I ak, .slice Aaq aq.length caq, Str an, I apt, Str us]]) => ?_)
 refine q trivial rfl rfl (asg (v := ns) rfl) ?_
 refine nl ?_
 refine nN ?_
 refine sq ?_
 refine raJ (fun w' => ∃ L, SH w w' [] L ∧ (.blk b1 34 [I c, I ak, .slice Aaq aq.length caq, Str an, I apt, Str us]) ∈ L ∧ True) (fun f w' => ∃ (A6' : Option Addr) (c6' : Nat) (A7' : Option Addr) (c7' : Nat), Has f [(1, pB b1), (3, .slice A7' ((([4, c] : List Int) ++ (numB apt)).length) c7')] ∧ SH w w' [] [.blk b1 34 [I c, I ak, .slice Aaq aq.length caq, Str an, I apt, Str us], .own A7' ((([4, c] : List Int) ++ (numB apt)).length) c7' 3 1 ((([4, c] : List Int) ++ (numB apt)).map I), .own A6' ((numB apt).length) c6' 3 1 ((numB apt).map I)]) mixed ?_ ?_
 · refine dag (fuel' := 2) (listed' := lbits 9 127) (fun f w' => ∃ (b2' : Nat) (A6' : Option Addr) (c6' : Nat), Has f [(1, pB b1), (6, sb b2' (([4, c] : List Int).length) 2), (10, .slice A6' ((numB apt).length) c6')] ∧ SH w w' [] [.blk b1 34 [I c, I ak, .slice Aaq aq.length caq, Str an, I apt, Str us], oI b2' ([4, c] : List Int) 2 3, .own A6' ((numB apt).length) c6' 3 1 ((numB apt).map I)]) ?_ (fun D_1_0 => ?_)
   · rintro f w2 ⟨b2', A6', c6', hf, hs2⟩
     obtain ⟨g1, rfl⟩ := has_upd hf
     clear hf
     refine aaL [7] (fa_one ?_)
     refine one_ rfl ?_
     refine apm (g := I) (ys := ([4, c] : List Int)) (zs := numB apt) hs2 1 rfl sl23 rfl rfl rfl (hs2.sl0 2 rfl) (fun _ => rfl) (by unfold maxLen; have hop := oldOk_parts hok; have haf := addr_fit2 hop.2.1; have hap := addrOk_fit hop.2.1; have hul := userOk_len hop.2.2.1; have htn := textI_len an; have htu := textI_len us; have hnb : (numB apt).length = 2 := rfl; simp only [List.length_append, List.length_cons, List.length_nil]; omega) (by have hop := oldOk_parts hok; have haf := addr_fit2 hop.2.1; have hap := addrOk_fit hop.2.1; have hul := userOk_len hop.2.2.1; have htn := textI_len an; have htu := textI_len us; have hnb : (numB apt).length = 2 := rfl; simp only [List.length_append, List.length_cons, List.length_nil]; omega) trivial rfl (fun A7' c7' w3 hs3 => ?_)
     refine nl (kq ⟨_, hs3, memi 0 rfl, trivial⟩ ?_)
     refine tk (fuel := 0) (is := [8]) (.cons rfl (.nil)) (by kernel_rfl) (by kernel_rfl) ⟨_, hs3, memi 0 rfl, trivial⟩ ?_
     refine .op trivial rfl rfl (fun wq _ => asg (v := .slice A7' ((([4, c] : List Int) ++ (numB apt)).length) c7') rfl) ?_
     refine .nil ?_
     refine ad (by kernel_rfl) ?_
     exact ⟨A6', c6', A7', c7', ⟨rfl, rfl, trivial⟩, (hs3.pick [0, 2, 1] rfl (by decide))⟩
   refine dag (fuel' := 3) (listed' := lbits 9 63) (fun f w' => ∃ (b2' : Nat), Has f [(1, pB b1), (6, sb b2' (([4, c] : List Int).length) 2), (9, I apt)] ∧ SH w w' [] [.blk b1 34 [I c, I ak, .slice Aaq aq.length caq, Str an, I apt, Str us], oI b2' ([4, c] : List Int) 2 3]) ?_ (fun D_1_1 => ?_)
   · rintro f w4 ⟨b2', hf, hs4⟩
     obtain ⟨g2, rfl⟩ := has_upd hf
     clear hf
     refine aaL [6] (fa_one ?_)
     refine one_ rfl ?_
     refine cl trivial rfl (sL1Number (n := apt) (w := _) (hn := (by have hop := oldOk_parts hok; have haf := addr_fit2 hop.2.1; have hap := addrOk_fit hop.2.1; have hul := userOk_len hop.2.2.1; have htn := textI_len an; have htu := textI_len us; have hnb : (numB apt).length = 2 := rfl; omega))) ?_
     rintro _ w5 ⟨A6', c6', rfl, hs5'⟩
     have hs5 := hs4.call0 hs5'
     clear hs5'
     exact nl (kq ⟨_, hs5, memi 0 rfl, trivial⟩ (alc D_1_0 ⟨b2', A6', c6', ⟨rfl, rfl, rfl, trivial⟩, hs5⟩))
   refine dag (fuel' := 3) (listed' := lbits 9 123) (fun f w' => ∃ (A6' : Option Addr) (c6' : Nat), Has f [(1, pB b1), (5, I c), (10, .slice A6' ((numB apt).length) c6')] ∧ SH w w' [] [.blk b1 34 [I c, I ak, .slice Aaq aq.length caq, Str an, I apt, Str us], .own A6' ((numB apt).length) c6' 3 1 ((numB apt).map I)]) ?_ (fun D_1_2 => ?_)
   · rintro f w6 ⟨A6', c6', hf, hs6⟩
     obtain ⟨g3, rfl⟩ := has_upd hf
     clear hf
     refine aaL [2] (fa_one ?_)
     refine one_ rfl ?_
     refine bsk hs6 sl23 [I 4, I c] [I 4, I c] trivial rfl (fun b2' w7 hs7 => ?_)
     exact nl (kq ⟨_, hs7, memi 0 rfl, trivial⟩ (alc D_1_0 ⟨b2', A6', c6', ⟨rfl, rfl, rfl, trivial⟩, (hs7.pick [0, 2, 1] rfl (by decide))⟩))
   refine dag (fuel' := 4) (listed' := lbits 9 59) (fun f w' => Has f [(1, pB b1), (5, I c), (9, I apt)] ∧ SH w w' [] [.blk b1 34 [I c, I ak, .slice Aaq aq.length caq, Str an, I apt, Str us]]) ?_ (fun D_1_3 => ?_)
   · rintro f w8 ⟨hf, hs8⟩
     obtain ⟨g4, rfl⟩ := has_upd hf
     clear hf
     refine aaL [2, 6] (fa_cons ?_ (fa_one ?_))
     · refine one_ rfl ?_
       refine bsk hs8 sl23 [I 4, I c] [I 4, I c] trivial rfl (fun b2' w9 hs9 => ?_)
       exact nl (kq ⟨_, hs9, memi 0 rfl, trivial⟩ (alc D_1_1 ⟨b2', ⟨rfl, rfl, rfl, trivial⟩, hs9⟩))
     · refine one_ rfl ?_
       refine cl trivial rfl (sL1Number (n := apt) (w := _) (hn := (by have hop := oldOk_parts hok; have haf := addr_fit2 hop.2.1; have hap := addrOk_fit hop.2.1; have hul := userOk_len hop.2.2.1; have htn := textI_len an; have htu := textI_len us; have hnb : (numB apt).length = 2 := rfl; omega))) ?_
       rintro _ w10 ⟨A6', c6', rfl, hs10'⟩
       have hs10 := hs8.call0 hs10'
       clear hs10'
       exact nl (kq ⟨_, hs10, memi 0 rfl, trivial⟩ (alc D_1_2 ⟨A6', c6', ⟨rfl, rfl, rfl, trivial⟩, hs10⟩))
   have hs11 := hs1.drew
   refine tk (fuel := 4) (is := [0, 1, 3, 4, 5]) (.cons rfl (.cons rfl (.cons rfl (.cons rfl (.cons rfl (.nil)))))) (by kernel_rfl) (by kernel_rfl) ⟨_, hs11, memi 0 rfl, trivial⟩ ?_
   refine .op trivial rfl rfl (fun wq _ => fa 0 fo34_0 rfl) ?_
   refine .op trivial rfl rfl (fun wq ⟨Lq, hsq, mh0, _⟩ => ldm (v := I c) hsq mh0 rfl rfl one3) ?_
   refine .op trivial rfl rfl (fun wq _ => fa 1 fo34_1 rfl) ?_
   refine .op trivial rfl rfl (fun wq _ => fa 3 fo25_3 rfl) ?_
   refine .op trivial rfl rfl (fun wq ⟨Lq, hsq, mh0, _⟩ => ldm (v := I apt) hsq mh0 rfl rfl one3) ?_
   refine .nil ?_
   exact alc D_1_3 ⟨⟨rfl, rfl, rfl, trivial⟩, hs11⟩
 rintro f w11 ⟨A6', c6', A7', c7', hf, hs12⟩
 obtain ⟨g5, rfl⟩ := has_upd hf
 clear hf
 refine nN ?_
 refine sq ?_
 refine sq ?_
 refine rg ?_
 refine q trivial rfl rfl (fa 1 fo34_1 rfl) ?_
 refine q trivial rfl rfl (fa 0 fo25_0 rfl) ?_
 refine q trivial rfl rfl (ld (v := I ak) hs12 0 rfl rfl rfl one3) ?_
 refine q trivial rfl rfl (eqi (k := .i64) (a := ak) (b := 1) rfl rfl) ?_
 refine nl ?_
 refine nN ?_
 refine cdd (p := ak = 1) rfl (fun h1 => ?_) (fun h1 => ?_)
 · refine rg ?_
   refine q trivial rfl rfl (mv (v := .slice A7' ((([4, c] : List Int) ++ (numB apt)).length) c7') rfl) ?_
   refine q trivial rfl rfl (fa 1 fo34_1 rfl) ?_
   refine q trivial rfl rfl (fa 1 fo25_1 rfl) ?_
   refine q trivial rfl rfl (ld (v := .slice Aaq aq.length caq) hs12 0 rfl rfl rfl one23) ?_
   refine apm (g := I) (ys := ([4, c] : List Int) ++ (numB apt)) (zs := aq) hs12 1 rfl sl23 rfl rfl rfl (haq.up0 hs12) (fun _ => rfl) (by unfold maxLen; have hop := oldOk_parts hok; have haf := addr_fit2 hop.2.1; have hap := addrOk_fit hop.2.1; have hul := userOk_len hop.2.2.1; have htn := textI_len an; have htu := textI_len us; have hnb : (numB apt).length = 2 := rfl; simp only [List.length_append, List.length_cons, List.length_nil]; omega) (by have hop := oldOk_parts hok; have haf := addr_fit2 hop.2.1; have hap := addrOk_fit hop.2.1; have hul := userOk_len hop.2.2.1; have htn := textI_len an; have htu := textI_len us; have hnb : (numB apt).length = 2 := rfl; simp only [List.length_append, List.length_cons, List.length_nil]; omega) trivial rfl (fun A1 c1 w12 (hs13 : SH w w12 [] [.blk b1 34 [I c, I ak, .slice Aaq aq.length caq, Str an, I apt, Str us], .own A6' ((numB apt).length) c6' 3 1 ((numB apt).map I), .own A1 (((([4, c] : List Int) ++ (numB apt)) ++ aq).length) c1 3 1 (((([4, c] : List Int) ++ (numB apt)) ++ aq).map I)]) => ?_)
   refine q trivial rfl rfl (asg (v := .slice A1 (((([4, c] : List Int) ++ (numB apt)) ++ aq).length) c1) rfl) ?_
   refine nl ?_
   refine nN ?_
   refine sq ?_
   refine rg ?_
   refine q trivial rfl rfl (mv (v := .slice A1 (((([4, c] : List Int) ++ (numB apt)) ++ aq).length) c1) rfl) ?_
   refine q trivial rfl rfl (fa 5 fo34_2 rfl) ?_
   refine q trivial rfl rfl (ld (v := Str us) hs13 0 rfl rfl rfl one9) ?_
   refine cl trivial rfl (sL1Text (s := us) (w := _) (hs_n := (by first | (first | omega | (simp; done) | (simp; omega)) | (have hop := oldOk_parts hok; have haf := addr_fit2 hop.2.1; have hap := addrOk_fit hop.2.1; have hul := userOk_len hop.2.2.1; have htn := textI_len an; have htu := textI_len us; have hnb : (numB apt).length = 2 := rfl; first | omega | (simp; done) | (simp; omega))))) ?_
   rintro _ w13 ⟨A2, c2, rfl, hs14'⟩
   have hs14 : SH w w13 [] [.blk b1 34 [I c, I ak, .slice Aaq aq.length caq, Str an, I apt, Str us], .own A6' ((numB apt).length) c6' 3 1 ((numB apt).map I), .own A1 (((([4, c] : List Int) ++ (numB apt)) ++ aq).length) c1 3 1 (((([4, c] : List Int) ++ (numB apt)) ++ aq).map I), .own A2 ((textI us).length) c2 3 1 ((textI us).map I)] := hs13.call0 hs14'
   clear hs14'
   refine apm (g := I) (ys := (([4, c] : List Int) ++ (numB apt)) ++ aq) (zs := textI us) hs14 2 rfl sl23 rfl rfl rfl (hs14.sl0 3 rfl) (fun _ => rfl) (by unfold maxLen; have hop := oldOk_parts hok; have haf := addr_fit2 hop.2.1; have hap := addrOk_fit hop.2.1; have hul := userOk_len hop.2.2.1; have htn := textI_len an; have htu := textI_len us; have hnb : (numB apt).length = 2 := rfl; simp only [List.length_append, List.length_cons, List.length_nil]; omega) (by have hop := oldOk_parts hok; have haf := addr_fit2 hop.2.1; have hap := addrOk_fit hop.2.1; have hul := userOk_len hop.2.2.1; have htn := textI_len an; have htu := textI_len us; have hnb : (numB apt).length = 2 := rfl; simp only [List.length_append, List.length_cons, List.length_nil]; omega) trivial rfl (fun A3 c3 w14 (hs15 : SH w w14 [] [.blk b1 34 [I c, I ak, .slice Aaq aq.length caq, Str an, I apt, Str us], .own A6' ((numB apt).length) c6' 3 1 ((numB apt).map I), .own A2 ((textI us).length) c2 3 1 ((textI us).map I), .own A3 ((((([4, c] : List Int) ++ (numB apt)) ++ aq) ++ (textI us)).length) c3 3 1 ((((([4, c] : List Int) ++ (numB apt)) ++ aq) ++ (textI us)).map I)]) => ?_)
   refine q trivial rfl rfl (asg (v := .slice A3 ((((([4, c] : List Int) ++ (numB apt)) ++ aq) ++ (textI us)).length) c3) rfl) ?_
   refine nl ?_
   refine nN ?_
   have hs16 : SH w w14 [] [.blk b1 34 [I c, I ak, .slice Aaq aq.length caq, Str an, I apt, Str us], .own A3 ((((([4, c] : List Int) ++ (numB apt)) ++ aq) ++ (textI us)).length) c3 3 1 ((((([4, c] : List Int) ++ (numB apt)) ++ aq) ++ (textI us)).map I)] := hs15.pick [0, 3] rfl (by decide)
   refine sq ?_
   refine rg ?_
   refine q trivial rfl rfl (mv (v := .slice A3 ((((([4, c] : List Int) ++ (numB apt)) ++ aq) ++ (textI us)).length) c3) rfl) ?_
   refine bsk hs16 sl23 [I 0] [I 0] trivial rfl (fun b2 w15 (hs17 : SH w w15 [] [.blk b1 34 [I c, I ak, .slice Aaq aq.length caq, Str an, I apt, Str us], .own A3 ((((([4, c] : List Int) ++ (numB apt)) ++ aq) ++ (textI us)).length) c3 3 1 ((((([4, c] : List Int) ++ (numB apt)) ++ aq) ++ (textI us)).map I), oI b2 ([0] : List Int) 1 3]) => ?_)
   refine apm (g := I) (ys := ((([4, c] : List Int) ++ (numB apt)) ++ aq) ++ (textI us)) (zs := ([0] : List Int)) hs17 1 rfl sl23 rfl rfl rfl (hs17.sl0 2 rfl) (fun _ => rfl) (by unfold maxLen; have hop := oldOk_parts hok; have haf := addr_fit2 hop.2.1; have hap := addrOk_fit hop.2.1; have hul := userOk_len hop.2.2.1; have htn := textI_len an; have htu := textI_len us; have hnb : (numB apt).length = 2 := rfl; simp only [List.length_append, List.length_cons, List.length_nil]; omega) (by have hop := oldOk_parts hok; have haf := addr_fit2 hop.2.1; have hap := addrOk_fit hop.2.1; have hul := userOk_len hop.2.2.1; have htn := textI_len an; have htu := textI_len us; have hnb : (numB apt).length = 2 := rfl; simp only [List.length_append, List.length_cons, List.length_nil]; omega) trivial rfl (fun A4 c4 w16 (hs18 : SH w w16 [] [.blk b1 34 [I c, I ak, .slice Aaq aq.length caq, Str an, I apt, Str us], oI b2 ([0] : List Int) 1 3, .own A4 (((((([4, c] : List Int) ++ (numB apt)) ++ aq) ++ (textI us)) ++ ([0] : List Int)).length) c4 3 1 (((((([4, c] : List Int) ++ (numB apt)) ++ aq) ++ (textI us)) ++ ([0] : List Int)).map I)]) => ?_)
   refine q trivial rfl rfl (asg (v := .slice A4 (((((([4, c] : List Int) ++ (numB apt)) ++ aq) ++ (textI us)) ++ ([0] : List Int)).length) c4) rfl) ?_
   refine nl ?_
   refine nN ?_
   refine sq ?_
   refine sq ?_
   refine rg ?_
   refine q trivial rfl rfl (fa 1 fo34_1 rfl) ?_
   refine q trivial rfl rfl (fa 0 fo25_0 rfl) ?_
   refine q trivial rfl rfl (ld (v := I ak) hs18 0 rfl rfl rfl one3) ?_
   refine q trivial rfl rfl (eqi (k := .i64) (a := ak) (b := 3) rfl rfl) ?_
   refine nl ?_
   refine nN ?_
   refine cdd (p := ak = 3) rfl (fun h2 => ?_) (fun h2 => ?_)
   · refine sq ?_
     refine rg ?_
     refine q trivial rfl rfl (mv (v := .slice A4 (((((([4, c] : List Int) ++ (numB apt)) ++ aq) ++ (textI us)) ++ ([0] : List Int)).length) c4) rfl) ?_
     refine q trivial rfl rfl (fa 1 fo34_1 rfl) ?_
     refine q trivial rfl rfl (fa 2 fo25_2 rfl) ?_
     refine q trivial rfl rfl (ld (v := Str an) hs18 0 rfl rfl rfl one9) ?_
     refine cl trivial rfl (sL1Text (s := an) (w := _) (hs_n := (by first | (first | omega | (simp; done) | (simp; omega)) | (have hop := oldOk_parts hok; have haf := addr_fit2 hop.2.1; have hap := addrOk_fit hop.2.1; have hul := userOk_len hop.2.2.1; have htn := textI_len an; have htu := textI_len us; have hnb : (numB apt).length = 2 := rfl; first | omega | (simp; done) | (simp; omega))))) ?_
     rintro _ w17 ⟨A5, c5, rfl, hs19'⟩
     have hs19 : SH w w17 [] [.blk b1 34 [I c, I ak, .slice Aaq aq.length caq, Str an, I apt, Str us], oI b2 ([0] : List Int) 1 3, .own A4 (((((([4, c] : List Int) ++ (numB apt)) ++ aq) ++ (textI us)) ++ ([0] : List Int)).length) c4 3 1 (((((([4, c] : List Int) ++ (numB apt)) ++ aq) ++ (textI us)) ++ ([0] : List Int)).map I), .own A5 ((textI an).length) c5 3 1 ((textI an).map I)] := hs18.call0 hs19'
     clear hs19'
     refine apm (g := I) (ys := (((([4, c] : List Int) ++ (numB apt)) ++ aq) ++ (textI us)) ++ ([0] : List Int)) (zs := textI an) hs19 2 rfl sl23 rfl rfl rfl (hs19.sl0 3 rfl) (fun _ => rfl) (by unfold maxLen; have hop := oldOk_parts hok; have haf := addr_fit2 hop.2.1; have hap := addrOk_fit hop.2.1; have hul := userOk_len hop.2.2.1; have htn := textI_len an; have htu := textI_len us; have hnb : (numB apt).length = 2 := rfl; simp only [List.length_append, List.length_cons, List.length_nil]; omega) (by have hop := oldOk_parts hok; have haf := addr_fit2 hop.2.1; have hap := addrOk_fit hop.2.1; have hul := userOk_len hop.2.2.1; have htn := textI_len an; have htu := textI_len us; have hnb : (numB apt).length = 2 := rfl; simp only [List.length_append, List.length_cons, List.length_nil]; omega) trivial rfl (fun A6 c6 w18 (hs20 : SH w w18 [] [.blk b1 34 [I c, I ak, .slice Aaq aq.length caq, Str an, I apt, Str us], oI b2 ([0] : List Int) 1 3, .own A5 ((textI an).length) c5 3 1 ((textI an).map I), .own A6 ((((((([4, c] : List Int) ++ (numB apt)) ++ aq) ++ (textI us)) ++ ([0] : List Int)) ++ (textI an)).length) c6 3 1 ((((((([4, c] : List Int) ++ (numB apt)) ++ aq) ++ (textI us)) ++ ([0] : List Int)) ++ (textI an)).map I)]) => ?_)
     refine q trivial rfl rfl (asg (v := .slice A6 ((((((([4, c] : List Int) ++ (numB apt)) ++ aq) ++ (textI us)) ++ ([0] : List Int)) ++ (textI an)).length) c6) rfl) ?_
     refine nl ?_
     refine nN ?_
     have hs21 : SH w w18 [] [.own A6 ((((((([4, c] : List Int) ++ (numB apt)) ++ aq) ++ (textI us)) ++ ([0] : List Int)) ++ (textI an)).length) c6 3 1 ((((((([4, c] : List Int) ++ (numB apt)) ++ aq) ++ (textI us)) ++ ([0] : List Int)) ++ (textI an)).map I)] := hs20.pick [3] rfl (by decide)
     refine rg ?_
     refine q trivial rfl rfl (mv (v := .slice A6 ((((((([4, c] : List Int) ++ (numB apt)) ++ aq) ++ (textI us)) ++ ([0] : List Int)) ++ (textI an)).length) c6) rfl) ?_
     refine bsk hs21 sl23 [I 0] [I 0] trivial rfl (fun b3 w19 (hs22 : SH w w19 [] [.own A6 ((((((([4, c] : List Int) ++ (numB apt)) ++ aq) ++ (textI us)) ++ ([0] : List Int)) ++ (textI an)).length) c6 3 1 ((((((([4, c] : List Int) ++ (numB apt)) ++ aq) ++ (textI us)) ++ ([0] : List Int)) ++ (textI an)).map I), oI b3 ([0] : List Int) 1 3]) => ?_)
     refine apm (g := I) (ys := ((((([4, c] : List Int) ++ (numB apt)) ++ aq) ++ (textI us)) ++ ([0] : List Int)) ++ (textI an)) (zs := ([0] : List Int)) hs22 0 rfl sl23 rfl rfl rfl (hs22.sl0 1 rfl) (fun _ => rfl) (by unfold maxLen; have hop := oldOk_parts hok; have haf := addr_fit2 hop.2.1; have hap := addrOk_fit hop.2.1; have hul := userOk_len hop.2.2.1; have htn := textI_len an; have htu := textI_len us; have hnb : (numB apt).length = 2 := rfl; simp only [List.length_append, List.length_cons, List.length_nil]; omega) (by have hop := oldOk_parts hok; have haf := addr_fit2 hop.2.1; have hap := addrOk_fit hop.2.1; have hul := userOk_len hop.2.2.1; have htn := textI_len an; have htu := textI_len us; have hnb : (numB apt).length = 2 := rfl; simp only [List.length_append, List.length_cons, List.length_nil]; omega) trivial rfl (fun A7 c7 w20 (hs23 : SH w w20 [] [oI b3 ([0] : List Int) 1 3, .own A7 (((((((([4, c] : List Int) ++ (numB apt)) ++ aq) ++ (textI us)) ++ ([0] : List Int)) ++ (textI an)) ++ ([0] : List Int)).length) c7 3 1 (((((((([4, c] : List Int) ++ (numB apt)) ++ aq) ++ (textI us)) ++ ([0] : List Int)) ++ (textI an)) ++ ([0] : List Int)).map I)]) => ?_)
     refine q trivial rfl rfl (asg (v := .slice A7 (((((((([4, c] : List Int) ++ (numB apt)) ++ aq) ++ (textI us)) ++ ([0] : List Int)) ++ (textI an)) ++ ([0] : List Int)).length) c7) rfl) ?_
     refine nl ?_
     refine nN ?_
     refine sq ?_
     refine rg ?_
     refine q trivial rfl rfl (mv (v := .slice A7 (((((((([4, c] : List Int) ++ (numB apt)) ++ aq) ++ (textI us)) ++ ([0] : List Int)) ++ (textI an)) ++ ([0] : List Int)).length) c7) rfl) ?_
     refine q trivial rfl rfl (asg (v := .slice A7 (((((((([4, c] : List Int) ++ (numB apt)) ++ aq) ++ (textI us)) ++ ([0] : List Int)) ++ (textI an)) ++ ([0] : List Int)).length) c7) rfl) ?_
     refine nl ?_
     refine nN ?_
     refine rt ?_
     refine fret (v := .slice A7 (((((((([4, c] : List Int) ++ (numB apt)) ++ aq) ++ (textI us)) ++ ([0] : List Int)) ++ (textI an)) ++ ([0] : List Int)).length) c7) (.tmp .nil) rfl ?_
     have e1 : (((((([4, c] : List Int) ++ (numB apt)) ++ aq) ++ (textI us)) ++ ([0] : List Int)) ++ (textI an)) ++ ([0] : List Int) = oldB c ak aq an apt us := by first | (rw [oldB_3 (by assumption)]; done) | (rw [oldB_1 (by omega)]; done) | (simp [oldB, h1, h2]; done) | (have hop := oldOk_parts hok; have haf := addr_fit2 hop.2.1; have hap := addrOk_fit hop.2.1; have hul := userOk_len hop.2.2.1; have htn := textI_len an; have htu := textI_len us; have hnb : (numB apt).length = 2 := rfl; have h13 := haf.1; simp [oldB, h1, h2] <;> omega) | (exfalso; have hop := oldOk_parts hok; have haf := addr_fit2 hop.2.1; have hap := addrOk_fit hop.2.1; have hul := userOk_len hop.2.2.1; have htn := textI_len an; have htu := textI_len us; have hnb : (numB apt).length = 2 := rfl; have h13 := haf.1; omega)
     have e2 : ((((((([4, c] : List Int) ++ (numB apt)) ++ aq) ++ (textI us)) ++ ([0] : List Int)) ++ (textI an)) ++ ([0] : List Int)).length = (oldB c ak aq an apt us).length := by exact congrArg List.length e1
     exact ⟨A7, c7, (slv rfl e2 rfl), ((hs23.pick [1] rfl (by decide)).cast (lc (own_eq (g := I) rfl e2 rfl e1) rfl))⟩
   · refine sk ?_
     refine nN ?_
     refine sq ?_
     refine rg ?_
     refine q trivial rfl rfl (mv (v := .slice A4 (((((([4, c] : List Int) ++ (numB apt)) ++ aq) ++ (textI us)) ++ ([0] : List Int)).length) c4) rfl) ?_
     refine q trivial rfl rfl (asg (v := .slice A4 (((((([4, c] : List Int) ++ (numB apt)) ++ aq) ++ (textI us)) ++ ([0] : List Int)).length) c4) rfl) ?_
     refine nl ?_
     refine nN ?_
     refine rt ?_
     refine fret (v := .slice A4 (((((([4, c] : List Int) ++ (numB apt)) ++ aq) ++ (textI us)) ++ ([0] : List Int)).length) c4) (.tmp .nil) rfl ?_
     have e3 : (((([4, c] : List Int) ++ (numB apt)) ++ aq) ++ (textI us)) ++ ([0] : List Int) = oldB c ak aq an apt us := by first | (rw [oldB_3 (by assumption)]; done) | (rw [oldB_1 (by omega)]; done) | (simp [oldB, h1, h2]; done) | (have hop := oldOk_parts hok; have haf := addr_fit2 hop.2.1; have hap := addrOk_fit hop.2.1; have hul := userOk_len hop.2.2.1; have htn := textI_len an; have htu := textI_len us; have hnb : (numB apt).length = 2 := rfl; have h13 := haf.1; simp [oldB, h1, h2] <;> omega) | (exfalso; have hop := oldOk_parts hok; have haf := addr_fit2 hop.2.1; have hap := addrOk_fit hop.2.1; have hul := userOk_len hop.2.2.1; have htn := textI_len an; have htu := textI_len us; have hnb : (numB apt).length = 2 := rfl; have h13 := haf.1; omega)
     have e4 : ((((([4, c] : List Int) ++ (numB apt)) ++ aq) ++ (textI us)) ++ ([0] : List Int)).length = (oldB c ak aq an apt us).length := by exact congrArg List.length e3
     exact ⟨A4, c4, (slv rfl e4 rfl), ((hs18.pick [2] rfl (by decide)).cast (lc (own_eq (g := I) rfl e4 rfl e3) rfl))⟩
 · refine rg ?_
   refine q trivial rfl rfl (mv (v := .slice A7' ((([4, c] : List Int) ++ (numB apt)).length) c7') rfl) ?_
   refine bsk hs12 sl23 [I 0, I 0, I 0, I 1] [I 0, I 0, I 0, I 1] trivial rfl (fun b4 w21 (hs24 : SH w w21 [] [.blk b1 34 [I c, I ak, .slice Aaq aq.length caq, Str an, I apt, Str us], .own A7' ((([4, c] : List Int) ++ (numB apt)).length) c7' 3 1 ((([4, c] : List Int) ++ (numB apt)).map I), .own A6' ((numB apt).length) c6' 3 1 ((numB apt).map I), oI b4 ([0, 0, 0, 1] : List Int) 4 3]) => ?_)
   refine apm (g := I) (ys := ([4, c] : List Int) ++ (numB apt)) (zs := ([0, 0, 0, 1] : List Int)) hs24 1 rfl sl23 rfl rfl rfl (hs24.sl0 3 rfl) (fun _ => rfl) (by unfold maxLen; have hop := oldOk_parts hok; have haf := addr_fit2 hop.2.1; have hap := addrOk_fit hop.2.1; have hul := userOk_len hop.2.2.1; have htn := textI_len an; have htu := textI_len us; have hnb : (numB apt).length = 2 := rfl; simp only [List.length_append, List.length_cons, List.length_nil]; omega) (by have hop := oldOk_parts hok; have haf := addr_fit2 hop.2.1; have hap := addrOk_fit hop.2.1; have hul := userOk_len hop.2.2.1; have htn := textI_len an; have htu := textI_len us; have hnb : (numB apt).length = 2 := rfl; simp only [List.length_append, List.length_cons, List.length_nil]; omega) trivial rfl (fun A8 c8 w22 (hs25 : SH w w22 [] [.blk b1 34 [I c, I ak, .slice Aaq aq.length caq, Str an, I apt, Str us], .own A6' ((numB apt).length) c6' 3 1 ((numB apt).map I), oI b4 ([0, 0, 0, 1] : List Int) 4 3, .own A8 (((([4, c] : List Int) ++ (numB apt)) ++ ([0, 0, 0, 1] : List Int)).length) c8 3 1 (((([4, c] : List Int) ++ (numB apt)) ++ ([0, 0, 0, 1] : List Int)).map I)]) => ?_)
   refine q trivial rfl rfl (asg (v := .slice A8 (((([4, c] : List Int) ++ (numB apt)) ++ ([0, 0, 0, 1] : List Int)).length) c8) rfl) ?_
   refine nl ?_
   refine nN ?_
   have hs26 : SH w w22 [] [.blk b1 34 [I c, I ak, .slice Aaq aq.length caq, Str an, I apt, Str us], .own A8 (((([4, c] : List Int) ++ (numB apt)) ++ ([0, 0, 0, 1] : List Int)).length) c8 3 1 (((([4, c] : List Int) ++ (numB apt)) ++ ([0, 0, 0, 1] : List Int)).map I)] := hs25.pick [0, 3] rfl (by decide)
   refine sq ?_
   refine rg ?_
   refine q trivial rfl rfl (mv (v := .slice A8 (((([4, c] : List Int) ++ (numB apt)) ++ ([0, 0, 0, 1] : List Int)).length) c8) rfl) ?_
   refine q trivial rfl rfl (fa 5 fo34_2 rfl) ?_
   refine q trivial rfl rfl (ld (v := Str us) hs26 0 rfl rfl rfl one9) ?_
   refine cl trivial rfl (sL1Text (s := us) (w := _) (hs_n := (by first | (first | omega | (simp; done) | (simp; omega)) | (have hop := oldOk_parts hok; have haf := addr_fit2 hop.2.1; have hap := addrOk_fit hop.2.1; have hul := userOk_len hop.2.2.1; have htn := textI_len an; have htu := textI_len us; have hnb : (numB apt).length = 2 := rfl; first | omega | (simp; done) | (simp; omega))))) ?_
   rintro _ w23 ⟨A9, c9, rfl, hs27'⟩
   have hs27 : SH w w23 [] [.blk b1 34 [I c, I ak, .slice Aaq aq.length caq, Str an, I apt, Str us], .own A8 (((([4, c] : List Int) ++ (numB apt)) ++ ([0, 0, 0, 1] : List Int)).length) c8 3 1 (((([4, c] : List Int) ++ (numB apt)) ++ ([0, 0, 0, 1] : List Int)).map I), .own A9 ((textI us).length) c9 3 1 ((textI us).map I)] := hs26.call0 hs27'
   clear hs27'
   refine apm (g := I) (ys := (([4, c] : List Int) ++ (numB apt)) ++ ([0, 0, 0, 1] : List Int)) (zs := textI us) hs27 1 rfl sl23 rfl rfl rfl (hs27.sl0 2 rfl) (fun _ => rfl) (by unfold maxLen; have hop := oldOk_parts hok; have haf := addr_fit2 hop.2.1; have hap := addrOk_fit hop.2.1; have hul := userOk_len hop.2.2.1; have htn := textI_len an; have htu := textI_len us; have hnb : (numB apt).length = 2 := rfl; simp only [List.length_append, List.length_cons, List.length_nil]; omega) (by have hop := oldOk_parts hok; have haf := addr_fit2 hop.2.1; have hap := addrOk_fit hop.2.1; have hul := userOk_len hop.2.2.1; have htn := textI_len an; have htu := textI_len us; have hnb : (numB apt).length = 2 := rfl; simp only [List.length_append, List.length_cons, List.length_nil]; omega) trivial rfl (fun A10 c10 w24 (hs28 : SH w w24 [] [.blk b1 34 [I c, I ak, .slice Aaq aq.length caq, Str an, I apt, Str us], .own A9 ((textI us).length) c9 3 1 ((textI us).map I), .own A10 ((((([4, c] : List Int) ++ (numB apt)) ++ ([0, 0, 0, 1] : List Int)) ++ (textI us)).length) c10 3 1 ((((([4, c] : List Int) ++ (numB apt)) ++ ([0, 0, 0, 1] : List Int)) ++ (textI us)).map I)]) => ?_)
   refine q trivial rfl rfl (asg (v := .slice A10 ((((([4, c] : List Int) ++ (numB apt)) ++ ([0, 0, 0, 1] : List Int)) ++ (textI us)).length) c10) rfl) ?_
   refine nl ?_
   refine nN ?_
   refine sq ?_
   refine rg ?_
   refine q trivial rfl rfl (mv (v := .slice A10 ((((([4, c] : List Int) ++ (numB apt)) ++ ([0, 0, 0, 1] : List Int)) ++ (textI us)).length) c10) rfl) ?_
   refine bsk hs28 sl23 [I 0] [I 0] trivial rfl (fun b5 w25 (hs29 : SH w w25 [] [.blk b1 34 [I c, I ak, .slice Aaq aq.length caq, Str an, I apt, Str us], .own A9 ((textI us).length) c9 3 1 ((textI us).map I), .own A10 ((((([4, c] : List Int) ++ (numB apt)) ++ ([0, 0, 0, 1] : List Int)) ++ (textI us)).length) c10 3 1 ((((([4, c] : List Int) ++ (numB apt)) ++ ([0, 0, 0, 1] : List Int)) ++ (textI us)).map I), oI b5 ([0] : List Int) 1 3]) => ?_)
   refine apm (g := I) (ys := ((([4, c] : List Int) ++ (numB apt)) ++ ([0, 0, 0, 1] : List Int)) ++ (textI us)) (zs := ([0] : List Int)) hs29 2 rfl sl23 rfl rfl rfl (hs29.sl0 3 rfl) (fun _ => rfl) (by unfold maxLen; have hop := oldOk_parts hok; have haf := addr_fit2 hop.2.1; have hap := addrOk_fit hop.2.1; have hul := userOk_len hop.2.2.1; have htn := textI_len an; have htu := textI_len us; have hnb : (numB apt).length = 2 := rfl; simp only [List.length_append, List.length_cons, List.length_nil]; omega) (by have hop := oldOk_parts hok; have haf := addr_fit2 hop.2.1; have hap := addrOk_fit hop.2.1; have hul := userOk_len hop.2.2.1; have htn := textI_len an; have htu := textI_len us; have hnb : (numB apt).length = 2 := rfl; simp only [List.length_append, List.length_cons, List.length_nil]; omega) trivial rfl (fun A11 c11 w26 (hs30 : SH w w26 [] [.blk b1 34 [I c, I ak, .slice Aaq aq.length caq, Str an, I apt, Str us], .own A9 ((textI us).length) c9 3 1 ((textI us).map I), oI b5 ([0] : List Int) 1 3, .own A11 (((((([4, c] : List Int) ++ (numB apt)) ++ ([0, 0, 0, 1] : List Int)) ++ (textI us)) ++ ([0] : List Int)).length) c11 3 1 (((((([4, c] : List Int) ++ (numB apt)) ++ ([0, 0, 0, 1] : List Int)) ++ (textI us)) ++ ([0] : List Int)).map I)]) => ?_)
   refine q trivial rfl rfl (asg (v := .slice A11 (((((([4, c] : List Int) ++ (numB apt)) ++ ([0, 0, 0, 1] : List Int)) ++ (textI us)) ++ ([0] : List Int)).length) c11) rfl) ?_
   refine nl ?_
   refine nN ?_
   have hs31 : SH w w26 [] [.blk b1 34 [I c, I ak, .slice Aaq aq.length caq, Str an, I apt, Str us], .own A11 (((((([4, c] : List Int) ++ (numB apt)) ++ ([0, 0, 0, 1] : List Int)) ++ (textI us)) ++ ([0] : List Int)).length) c11 3 1 (((((([4, c] : List Int) ++ (numB apt)) ++ ([0, 0, 0, 1] : List Int)) ++ (textI us)) ++ ([0] : List Int)).map I)] := hs30.pick [0, 3] rfl (by decide)
   refine sq ?_
   refine sq ?_
   refine rg ?_
   refine q trivial rfl rfl (fa 1 fo34_1 rfl) ?_
   refine q trivial rfl rfl (fa 0 fo25_0 rfl) ?_
   refine q trivial rfl rfl (ld (v := I ak) hs31 0 rfl rfl rfl one3) ?_
   refine q trivial rfl rfl (eqi (k := .i64) (a := ak) (b := 3) rfl rfl) ?_
   refine nl ?_
   refine nN ?_
   refine cdd (p := ak = 3) rfl (fun h3 => ?_) (fun h3 => ?_)
   · refine sq ?_
     refine rg ?_
     refine q trivial rfl rfl (mv (v := .slice A11 (((((([4, c] : List Int) ++ (numB apt)) ++ ([0, 0, 0, 1] : List Int)) ++ (textI us)) ++ ([0] : List Int)).length) c11) rfl) ?_
     refine q trivial rfl rfl (fa 1 fo34_1 rfl) ?_
     refine q trivial rfl rfl (fa 2 fo25_2 rfl) ?_
     refine q trivial rfl rfl (ld (v := Str an) hs31 0 rfl rfl rfl one9) ?_
     refine cl trivial rfl (sL1Text (s := an) (w := _) (hs_n := (by first | (first | omega | (simp; done) | (simp; omega)) | (have hop := oldOk_parts hok; have haf := addr_fit2 hop.2.1; have hap := addrOk_fit hop.2.1; have hul := userOk_len hop.2.2.1; have htn := textI_len an; have htu := textI_len us; have hnb : (numB apt).length = 2 := rfl; first | omega | (simp; done) | (simp; omega))))) ?_
     rintro _ w27 ⟨A12, c12, rfl, hs32'⟩
     have hs32 : SH w w27 [] [.blk b1 34 [I c, I ak, .slice Aaq aq.length caq, Str an, I apt, Str us], .own A11 (((((([4, c] : List Int) ++ (numB apt)) ++ ([0, 0, 0, 1] : List Int)) ++ (textI us)) ++ ([0] : List Int)).length) c11 3 1 (((((([4, c] : List Int) ++ (numB apt)) ++ ([0, 0, 0, 1] : List Int)) ++ (textI us)) ++ ([0] : List Int)).map I), .own A12 ((textI an).length) c12 3 1 ((textI an).map I)] := hs31.call0 hs32'
     clear hs32'
     refine apm (g := I) (ys := (((([4, c] : List Int) ++ (numB apt)) ++ ([0, 0, 0, 1] : List Int)) ++ (textI us)) ++ ([0] : List Int)) (zs := textI an) hs32 1 rfl sl23 rfl rfl rfl (hs32.sl0 2 rfl) (fun _ => rfl) (by unfold maxLen; have hop := oldOk_parts hok; have haf := addr_fit2 hop.2.1; have hap := addrOk_fit hop.2.1; have hul := userOk_len hop.2.2.1; have htn := textI_len an; have htu := textI_len us; have hnb : (numB apt).length = 2 := rfl; simp only [List.length_append, List.length_cons, List.length_nil]; omega) (by have hop := oldOk_parts hok; have haf := addr_fit2 hop.2.1; have hap := addrOk_fit hop.2.1; have hul := userOk_len hop.2.2.1; have htn := textI_len an; have htu := textI_len us; have hnb : (numB apt).length = 2 := rfl; simp only [List.length_append, List.length_cons, List.length_nil]; omega) trivial rfl (fun A13 c13 w28 (hs33 : SH w w28 [] [.blk b1 34 [I c, I ak, .slice Aaq aq.length caq, Str an, I apt, Str us], .own A12 ((textI an).length) c12 3 1 ((textI an).map I), .own A13 ((((((([4, c] : List Int) ++ (numB apt)) ++ ([0, 0, 0, 1] : List Int)) ++ (textI us)) ++ ([0] : List Int)) ++ (textI an)).length) c13 3 1 ((((((([4, c] : List Int) ++ (numB apt)) ++ ([0, 0, 0, 1] : List Int)) ++ (textI us)) ++ ([0] : List Int)) ++ (textI an)).map I)]) => ?_)
     refine q trivial rfl rfl (asg (v := .slice A13 ((((((([4, c] : List Int) ++ (numB apt)) ++ ([0, 0, 0, 1] : List Int)) ++ (textI us)) ++ ([0] : List Int)) ++ (textI an)).length) c13) rfl) ?_
     refine nl ?_
     refine nN ?_
     refine rg ?_
     refine q trivial rfl rfl (mv (v := .slice A13 ((((((([4, c] : List Int) ++ (numB apt)) ++ ([0, 0, 0, 1] : List Int)) ++ (textI us)) ++ ([0] : List Int)) ++ (textI an)).length) c13) rfl) ?_
     refine bsk hs33 sl23 [I 0] [I 0] trivial rfl (fun b6 w29 (hs34 : SH w w29 [] [.blk b1 34 [I c, I ak, .slice Aaq aq.length caq, Str an, I apt, Str us], .own A12 ((textI an).length) c12 3 1 ((textI an).map I), .own A13 ((((((([4, c] : List Int) ++ (numB apt)) ++ ([0, 0, 0, 1] : List Int)) ++ (textI us)) ++ ([0] : List Int)) ++ (textI an)).length) c13 3 1 ((((((([4, c] : List Int) ++ (numB apt)) ++ ([0, 0, 0, 1] : List Int)) ++ (textI us)) ++ ([0] : List Int)) ++ (textI an)).map I), oI b6 ([0] : List Int) 1 3]) => ?_)
     refine apm (g := I) (ys := ((((([4, c] : List Int) ++ (numB apt)) ++ ([0, 0, 0, 1] : List Int)) ++ (textI us)) ++ ([0] : List Int)) ++ (textI an)) (zs := ([0] : List Int)) hs34 2 rfl sl23 rfl rfl rfl (hs34.sl0 3 rfl) (fun _ => rfl) (by unfold maxLen; have hop := oldOk_parts hok; have haf := addr_fit2 hop.2.1; have hap := addrOk_fit hop.2.1; have hul := userOk_len hop.2.2.1; have htn := textI_len an; have htu := textI_len us; have hnb : (numB apt).length = 2 := rfl; simp only [List.length_append, List.length_cons, List.length_nil]; omega) (by have hop := oldOk_parts hok; have haf := addr_fit2 hop.2.1; have hap := addrOk_fit hop.2.1; have hul := userOk_len hop.2.2.1; have htn := textI_len an; have htu := textI_len us; have hnb : (numB apt).length = 2 := rfl; simp only [List.length_append, List.length_cons, List.length_nil]; omega) trivial rfl (fun A14 c14 w30 (hs35 : SH w w30 [] [.blk b1 34 [I c, I ak, .slice Aaq aq.length caq, Str an, I apt, Str us], .own A12 ((textI an).length) c12 3 1 ((textI an).map I), oI b6 ([0] : List Int) 1 3, .own A14 (((((((([4, c] : List Int) ++ (numB apt)) ++ ([0, 0, 0, 1] : List Int)) ++ (textI us)) ++ ([0] : List Int)) ++ (textI an)) ++ ([0] : List Int)).length) c14 3 1 (((((((([4, c] : List Int) ++ (numB apt)) ++ ([0, 0, 0, 1] : List Int)) ++ (textI us)) ++ ([0] : List Int)) ++ (textI an)) ++ ([0] : List Int)).map I)]) => ?_)
     refine q trivial rfl rfl (asg (v := .slice A14 (((((((([4, c] : List Int) ++ (numB apt)) ++ ([0, 0, 0, 1] : List Int)) ++ (textI us)) ++ ([0] : List Int)) ++ (textI an)) ++ ([0] : List Int)).length) c14) rfl) ?_
     refine nl ?_
     refine nN ?_
     have hs36 : SH w w30 [] [.own A14 (((((((([4, c] : List Int) ++ (numB apt)) ++ ([0, 0, 0, 1] : List Int)) ++ (textI us)) ++ ([0] : List Int)) ++ (textI an)) ++ ([0] : List Int)).length) c14 3 1 (((((((([4, c] : List Int) ++ (numB apt)) ++ ([0, 0, 0, 1] : List Int)) ++ (textI us)) ++ ([0] : List Int)) ++ (textI an)) ++ ([0] : List Int)).map I)] := hs35.pick [3] rfl (by decide)
     refine sq ?_
     refine rg ?_
     refine q trivial rfl rfl (mv (v := .slice A14 (((((((([4, c] : List Int) ++ (numB apt)) ++ ([0, 0, 0, 1] : List Int)) ++ (textI us)) ++ ([0] : List Int)) ++ (textI an)) ++ ([0] : List Int)).length) c14) rfl) ?_
     refine q trivial rfl rfl (asg (v := .slice A14 (((((((([4, c] : List Int) ++ (numB apt)) ++ ([0, 0, 0, 1] : List Int)) ++ (textI us)) ++ ([0] : List Int)) ++ (textI an)) ++ ([0] : List Int)).length) c14) rfl) ?_
     refine nl ?_
     refine nN ?_
     refine rt ?_
     refine fret (v := .slice A14 (((((((([4, c] : List Int) ++ (numB apt)) ++ ([0, 0, 0, 1] : List Int)) ++ (textI us)) ++ ([0] : List Int)) ++ (textI an)) ++ ([0] : List Int)).length) c14) (.tmp .nil) rfl ?_
     have e5 : (((((([4, c] : List Int) ++ (numB apt)) ++ ([0, 0, 0, 1] : List Int)) ++ (textI us)) ++ ([0] : List Int)) ++ (textI an)) ++ ([0] : List Int) = oldB c ak aq an apt us := by first | (rw [oldB_3 (by assumption)]; done) | (rw [oldB_1 (by omega)]; done) | (simp [oldB, h1, h3]; done) | (have hop := oldOk_parts hok; have haf := addr_fit2 hop.2.1; have hap := addrOk_fit hop.2.1; have hul := userOk_len hop.2.2.1; have htn := textI_len an; have htu := textI_len us; have hnb : (numB apt).length = 2 := rfl; have h13 := haf.1; simp [oldB, h1, h3] <;> omega) | (exfalso; have hop := oldOk_parts hok; have haf := addr_fit2 hop.2.1; have hap := addrOk_fit hop.2.1; have hul := userOk_len hop.2.2.1; have htn := textI_len an; have htu := textI_len us; have hnb : (numB apt).length = 2 := rfl; have h13 := haf.1; omega)
     have e6 : ((((((([4, c] : List Int) ++ (numB apt)) ++ ([0, 0, 0, 1] : List Int)) ++ (textI us)) ++ ([0] : List Int)) ++ (textI an)) ++ ([0] : List Int)).length = (oldB c ak aq an apt us).length := by exact congrArg List.length e5
     exact ⟨A14, c14, (slv rfl e6 rfl), (hs36.cast (lc (own_eq (g := I) rfl e6 rfl e5) rfl))⟩
   · refine sk ?_
     refine nN ?_
     refine sq ?_
     refine rg ?_
     refine q trivial rfl rfl (mv (v := .slice A11 (((((([4, c] : List Int) ++ (numB apt)) ++ ([0, 0, 0, 1] : List Int)) ++ (textI us)) ++ ([0] : List Int)).length) c11) rfl) ?_
     refine q trivial rfl rfl (asg (v := .slice A11 (((((([4, c] : List Int) ++ (numB apt)) ++ ([0, 0, 0, 1] : List Int)) ++ (textI us)) ++ ([0] : List Int)).length) c11) rfl) ?_
     refine nl ?_
     refine nN ?_
     refine rt ?_
     refine fret (v := .slice A11 (((((([4, c] : List Int) ++ (numB apt)) ++ ([0, 0, 0, 1] : List Int)) ++ (textI us)) ++ ([0] : List Int)).length) c11) (.tmp .nil) rfl ?_
     have e7 : (((([4, c] : List Int) ++ (numB apt)) ++ ([0, 0, 0, 1] : List Int)) ++ (textI us)) ++ ([0] : List Int) = oldB c ak aq an apt us := by first | (rw [oldB_3 (by assumption)]; done) | (rw [oldB_1 (by omega)]; done) | (simp [oldB, h1, h3]; done) | (have hop := oldOk_parts hok; have haf := addr_fit2 hop.2.1; have hap := addrOk_fit hop.2.1; have hul := userOk_len hop.2.2.1; have htn := textI_len an; have htu := textI_len us; have hnb : (numB apt).length = 2 := rfl; have h13 := haf.1; simp [oldB, h1, h3] <;> omega) | (exfalso; have hop := oldOk_parts hok; have haf := addr_fit2 hop.2.1; have hap := addrOk_fit hop.2.1; have hul := userOk_len hop.2.2.1; have htn := textI_len an; have htu := textI_len us; have hnb : (numB apt).length = 2 := rfl; have h13 := haf.1; omega)
     have e8 : ((((([4, c] : List Int) ++ (numB apt)) ++ ([0, 0, 0, 1] : List Int)) ++ (textI us)) ++ ([0] : List Int)).length = (oldB c ak aq an apt us).length := by exact congrArg List.length e7
     exact ⟨A11, c11, (slv rfl e8 rfl), ((hs31.pick [1] rfl (by decide)).cast (lc (own_eq (g := I) rfl e8 rfl e7) rfl))⟩

theorem sOldBytes (c : Int) (ak : Int) {Aaq : Option Addr} {caq : Nat} (aq : List Int) (an : List UInt8) (apt : Int) (us : List UInt8) (w : World) (haq : Sl w [] 1 Aaq aq.length caq (aq.map I)) (han_n : an.length ≤ 1099511627776) (hus_n : us.length ≤ 2147483648) : Does Tryd.prog 28 [.agg #[I c, I ak, .slice Aaq aq.length caq, Str an, I apt, Str us]] w (fun v w' => ∃ Ar : Option Addr, ∃ cr : Nat, v = .tuple #[.slice Ar ((oldP c ak aq an apt us).1).length cr, .bool ((oldP c ak aq an apt us).2)] ∧ SH w w' [] [.own Ar (((oldP c ak aq an apt us).1).length) cr 3 1 (((oldP c ak aq an apt us).1).map I)]) := by
 refine fn_enter (N := 10) Tryd.func28 rfl (by kernel_rfl) rfl rfl rfl ?_
 have hs0 : SH w w [] [] := SH.refl w []
 have haq_m : aq.length ≤ 9223372036854775807 := Nat.le_trans haq.cap haq.capMax
 refine sq ?_
 refine rg ?_
 refine bx (v := .agg #[I c, I ak, .slice Aaq aq.length caq, Str an, I apt, Str us]) (cs := [I c, I ak, .slice Aaq aq.length caq, Str an, I apt, Str us]) hs0 rfl rfl trivial rfl (fun b1 w1 (hs1 : SH w w1 [] [.blk b1 34 [I c, I ak, .slice Aaq aq.length caq, Str an, I apt, Str us]]) => ?_)
 refine q trivial rfl rfl (asg (v := ns) rfl) ?_
 refine q trivial rfl rfl (asg (v := .bool false) rfl) ?_
 refine nl ?_
 refine nN ?_
 refine sq ?_
 refine sq ?_
 refine rg ?_
 refine q trivial rfl rfl (ldg (vs := [I c, I ak, .slice Aaq aq.length caq, Str an, I apt, Str us]) hs1 0 rfl rfl rfl rfl ag34) ?_
 refine cl trivial rfl (sL4Ok (c := c) (ak := ak) (Aaq := Aaq) (caq := caq) (aq := aq) (an := an) (apt := apt) (us := us) (w := _) (haq := (haq.up0 hs1)) (han_n := (by first | omega | (simp; done) | (simp; omega))) (hus_n := (by first | omega | (simp; done) | (simp; omega)))) ?_
 rintro _ w2 ⟨rfl, hs2'⟩
 have hs2 : SH w w2 [] [.blk b1 34 [I c, I ak, .slice Aaq aq.length caq, Str an, I apt, Str us]] := hs1.call0 hs2'
 clear hs2'
 refine q trivial rfl rfl (nt (b := oldOk c ak aq an apt us) rfl) ?_
 refine nl ?_
 refine nN ?_
 refine cd (b := !(oldOk c ak aq an apt us)) rfl (fun h1 => ?_) (fun h1 => ?_)
 · have h2 : (oldOk c ak aq an apt us) = false := by simpa using h1
   refine sq ?_
   refine rg ?_
   refine bsk hs2 sl23 [] [] trivial rfl (fun b2 w3 (hs3 : SH w w3 [] [.blk b1 34 [I c, I ak, .slice Aaq aq.length caq, Str an, I apt, Str us], oI b2 ([] : List Int) 0 3]) => ?_)
   refine q trivial rfl rfl (asg (v := sb b2 (([] : List Int).length) 0) rfl) ?_
   refine q trivial rfl rfl (asg (v := .bool false) rfl) ?_
   refine nl ?_
   refine nN ?_
   refine rt (tR ?_)
   refine fret (v := .tuple #[sb b2 (([] : List Int).length) 0, .bool false]) (.tmp (.tmp .nil)) rfl ?_
   have e1 : oldP c ak aq an apt us = (([] : List Int), false) := by simp [oldP, h2]
   have e2 : ([] : List Int) = (oldP c ak aq an apt us).1 := by rw [e1]
   have e3 : ([] : List Int).length = ((oldP c ak aq an apt us).1).length := by exact congrArg List.length e2
   have e4 : false = (oldP c ak aq an apt us).2 := by rw [e1]
   exact ⟨(some ⟨b2, 0, none⟩), 0, (tup2 (slv rfl e3 rfl) (congrArg (Value.bool) e4)), ((hs3.pick [1] rfl (by decide)).cast (lc (own_eq (g := I) rfl e3 rfl e2) rfl))⟩
 · have h3 : (oldOk c ak aq an apt us) = true := by simpa using h1
   refine sk ?_
   refine nN ?_
   refine sq ?_
   refine rg ?_
   refine q trivial rfl rfl (ldg (vs := [I c, I ak, .slice Aaq aq.length caq, Str an, I apt, Str us]) hs2 0 rfl rfl rfl rfl ag34) ?_
   refine cl trivial rfl (sL4Bytes (c := c) (ak := ak) (Aaq := Aaq) (caq := caq) (aq := aq) (an := an) (apt := apt) (us := us) (w := _) (haq := (haq.up0 hs2)) (han_n := (by first | omega | (simp; done) | (simp; omega))) (hus_n := (by first | omega | (simp; done) | (simp; omega))) (hok := (by first | omega | assumption | (simp; done) | (simp; omega)))) ?_
   rintro _ w4 ⟨A1, c1, rfl, hs4'⟩
   have hs4 : SH w w4 [] [.blk b1 34 [I c, I ak, .slice Aaq aq.length caq, Str an, I apt, Str us], .own A1 ((oldB c ak aq an apt us).length) c1 3 1 ((oldB c ak aq an apt us).map I)] := hs2.call0 hs4'
   clear hs4'
   refine q trivial rfl rfl (asg (v := .slice A1 ((oldB c ak aq an apt us).length) c1) rfl) ?_
   refine q trivial rfl rfl (asg (v := .bool true) rfl) ?_
   refine nl ?_
   refine nN ?_
   refine rt ?_
   refine fret (v := .tuple #[.slice A1 ((oldB c ak aq an apt us).length) c1, .bool true]) (.tmp (.tmp .nil)) rfl ?_
   have e5 : oldP c ak aq an apt us = (oldB c ak aq an apt us, true) := by simp [oldP, h3]
   have e6 : oldB c ak aq an apt us = (oldP c ak aq an apt us).1 := by rw [e5]
   have e7 : (oldB c ak aq an apt us).length = ((oldP c ak aq an apt us).1).length := by exact congrArg List.length e6
   have e8 : true = (oldP c ak aq an apt us).2 := by rw [e5]
   exact ⟨A1, c1, (tup2 (slv rfl e7 rfl) (congrArg (Value.bool) e8)), ((hs4.pick [1] rfl (by decide)).cast (lc (own_eq (g := I) rfl e7 rfl e6) rfl))⟩

theorem iConnectText (ak : Int) {Aaq : Option Addr} {caq : Nat} (aq : List Int) (an : List UInt8) (apt : Int) (w : World) (haq : Sl w [] 1 Aaq aq.length caq (aq.map I)) (han_n : an.length ≤ 1099511627776) (hGp : Lib.TabIs Tryd.prog w "internal/strconv.uint64pow10" .u64 Lib.pow10Tab) : Does Tryd.prog 18 [.agg #[I ak, .slice Aaq aq.length caq, Str an, I apt]] w (fun v w' => v = Str (connT ak aq an apt) ∧ SH w w' [] []) := by
 refine fn_enter (N := 14) Tryd.func18 rfl (by kernel_rfl) rfl rfl rfl ?_
 have hs0 : SH w w [] [] := SH.refl w []
 have haq_m : aq.length ≤ 9223372036854775807 := Nat.le_trans haq.cap haq.capMax
 refine sq ?_
 refine rg ?_
 refine bx (v := .agg #[I ak, .slice Aaq aq.length caq, Str an, I apt]) (cs := [I ak, .slice Aaq aq.length caq, Str an, I apt]) hs0 rfl rfl trivial rfl (fun b1 w1 (hs1 : SH w w1 [] [.blk b1 25 [I ak, .slice Aaq aq.length caq, Str an, I apt]]) => ?_)
 refine q trivial rfl rfl (asg (v := Str []) rfl) ?_
 refine nl ?_
 refine nN ?_
 refine sq ?_
 refine rg ?_
 refine q trivial rfl rfl (ldg (vs := [I ak, .slice Aaq aq.length caq, Str an, I apt]) hs1 0 rfl rfl rfl rfl ag25) ?_
 refine cl trivial rfl (iAddressTextQ (ak := ak) (Aaq := Aaq) (caq := caq) (aq := aq) (an := an) (apt := apt) (w := _) (haq := (haq.up0 hs1)) (han_n := (by first | omega | (simp; done) | (simp; omega))) (hGp := (tab_up hGp hs1))) ?_
 rintro _ w2 ⟨rfl, hs2'⟩
 have hs2 : SH w w2 [] [.blk b1 25 [I ak, .slice Aaq aq.length caq, Str an, I apt]] := hs1.call0 hs2'
 clear hs2'
 refine q trivial rfl rfl (asg (v := Str (addrT ak aq an apt)) rfl) ?_
 refine nl ?_
 refine nN ?_
 refine sq ?_
 refine sq ?_
 refine rg ?_
 refine q trivial rfl rfl (mv (v := Str (addrT ak aq an apt)) rfl) ?_
 refine q trivial rfl rfl (eqs (l := addrT ak aq an apt) (m := []) rfl rfl) ?_
 refine nl ?_
 refine nN ?_
 refine cdd (p := addrT ak aq an apt = []) rfl (fun h1 => ?_) (fun h1 => ?_)
 · refine sq ?_
   refine rg ?_
   refine q trivial rfl rfl (asg (v := Str []) rfl) ?_
   refine nl ?_
   refine nN ?_
   refine rt (tR ?_)
   refine fret (v := Str []) (.tmp .nil) rfl ?_
   have e1 : [] = connT ak aq an apt := by first | (have hx := addrT_nil.1 (by assumption : addrT ak aq an apt = []); simp [connT, hx]; done) | (have hx : addrOk ak aq an apt = true := (by rcases Bool.eq_false_or_eq_true (addrOk ak aq an apt) with hh | hh; exact hh; exact absurd (addrT_nil.2 hh) (by assumption)); simp [connT, connW, hx]; done)
   exact ⟨(congrArg (Str) e1), (hs2.pick [] rfl (by decide))⟩
 · refine sk ?_
   refine nN ?_
   refine sq ?_
   refine rg ?_
   refine q trivial rfl rfl (mv (v := Str (addrT ak aq an apt)) rfl) ?_
   refine q trivial rfl rfl (cat (l := [67, 79, 78, 78, 69, 67, 84, 32]) (m := addrT ak aq an apt) rfl rfl (by have hat := addrT_len ak aq an apt; simp only [List.length_append, List.length_cons, List.length_nil]; omega)) ?_
   refine q trivial rfl rfl (cat (l := [67, 79, 78, 78, 69, 67, 84, 32] ++ (addrT ak aq an apt)) (m := [32, 72, 84, 84, 80, 47, 49, 46, 49, 13, 10, 72, 111, 115, 116, 58, 32]) rfl rfl (by have hat := addrT_len ak aq an apt; simp only [List.length_append, List.length_cons, List.length_nil]; omega)) ?_
   refine q trivial rfl rfl (mv (v := Str (addrT ak aq an apt)) rfl) ?_
   refine q trivial rfl rfl (cat (l := ([67, 79, 78, 78, 69, 67, 84, 32] ++ (addrT ak aq an apt)) ++ [32, 72, 84, 84, 80, 47, 49, 46, 49, 13, 10, 72, 111, 115, 116, 58, 32]) (m := addrT ak aq an apt) rfl rfl (by have hat := addrT_len ak aq an apt; simp only [List.length_append, List.length_cons, List.length_nil]; omega)) ?_
   refine q trivial rfl rfl (cat (l := (([67, 79, 78, 78, 69, 67, 84, 32] ++ (addrT ak aq an apt)) ++ [32, 72, 84, 84, 80, 47, 49, 46, 49, 13, 10, 72, 111, 115, 116, 58, 32]) ++ (addrT ak aq an apt)) (m := [13, 10, 13, 10]) rfl rfl (by have hat := addrT_len ak aq an apt; simp only [List.length_append, List.length_cons, List.length_nil]; omega)) ?_
   refine q trivial rfl rfl (asg (v := Str (((([67, 79, 78, 78, 69, 67, 84, 32] ++ (addrT ak aq an apt)) ++ [32, 72, 84, 84, 80, 47, 49, 46, 49, 13, 10, 72, 111, 115, 116, 58, 32]) ++ (addrT ak aq an apt)) ++ [13, 10, 13, 10])) rfl) ?_
   refine nl ?_
   refine nN ?_
   refine rt ?_
   refine fret (v := Str (((([67, 79, 78, 78, 69, 67, 84, 32] ++ (addrT ak aq an apt)) ++ [32, 72, 84, 84, 80, 47, 49, 46, 49, 13, 10, 72, 111, 115, 116, 58, 32]) ++ (addrT ak aq an apt)) ++ [13, 10, 13, 10])) (.tmp .nil) rfl ?_
   have e2 : ((([67, 79, 78, 78, 69, 67, 84, 32] ++ (addrT ak aq an apt)) ++ [32, 72, 84, 84, 80, 47, 49, 46, 49, 13, 10, 72, 111, 115, 116, 58, 32]) ++ (addrT ak aq an apt)) ++ [13, 10, 13, 10] = connT ak aq an apt := by first | (have hx := addrT_nil.1 (by assumption : addrT ak aq an apt = []); simp [connT, hx]; done) | (have hx : addrOk ak aq an apt = true := (by rcases Bool.eq_false_or_eq_true (addrOk ak aq an apt) with hh | hh; exact hh; exact absurd (addrT_nil.2 hh) (by assumption)); simp [connT, connW, hx]; done)
   exact ⟨(congrArg (Str) e2), (hs2.pick [] rfl (by decide))⟩

set_option maxHeartbeats 8000000 in
theorem sAddressText (ak : Int) {Aaq : Option Addr} {caq : Nat} (aq : List Int) (an : List UInt8) (apt : Int) (w : World) (haq : Sl w [] 1 Aaq aq.length caq (aq.map I)) (han_n : an.length ≤ 1099511627776) : Does Tryd.prog 61 [.agg #[I ak, .slice Aaq aq.length caq, Str an, I apt]] w (fun v w' => v = Str (addrT ak aq an apt) ∧ SH w w' [] []) := by
 refine fn_enter (N := 13) Tryd.func61 rfl (by kernel_rfl) rfl rfl rfl ?_
 have hs0 : SH w w [] [] := SH.refl w []
 have haq_m : aq.length ≤ 9223372036854775807 := Nat.le_trans haq.cap haq.capMax
 refine sq ?_
 refine rg ?_
 refine bx (v := .agg #[I ak, .slice Aaq aq.length caq, Str an, I apt]) (cs := [I ak, .slice Aaq aq.length caq, Str an, I apt]) hs0 rfl rfl trivial rfl (fun b1 w1 (hs1 : SH w w1 [] [.blk b1 25 [I ak, .slice Aaq aq.length caq, Str an, I apt]]) => ?_)
 refine q trivial rfl rfl (asg (v := Str []) rfl) ?_
 refine nl ?_
 refine nN ?_
 refine sq ?_
 refine sq ?_
 refine rg ?_
 refine q trivial rfl rfl (ldg (vs := [I ak, .slice Aaq aq.length caq, Str an, I apt]) hs1 0 rfl rfl rfl rfl ag25) ?_
 refine cl trivial rfl (sAddressValid (ak := ak) (Aaq := Aaq) (caq := caq) (aq := aq) (an := an) (apt := apt) (w := _) (haq := (haq.up0 hs1)) (han_n := (by first | omega | (simp; done) | (simp; omega)))) ?_
 rintro _ w2 ⟨rfl, hs2'⟩
 have hs2 : SH w w2 [] [.blk b1 25 [I ak, .slice Aaq aq.length caq, Str an, I apt]] := hs1.call0 hs2'
 clear hs2'
 refine q trivial rfl rfl (nt (b := addrOk ak aq an apt) rfl) ?_
 refine nl ?_
 refine nN ?_
 refine cd (b := !(addrOk ak aq an apt)) rfl (fun h1 => ?_) (fun h1 => ?_)
 · have h2 : (addrOk ak aq an apt) = false := by simpa using h1
   refine sq ?_
   refine rg ?_
   refine q trivial rfl rfl (asg (v := Str []) rfl) ?_
   refine nl ?_
   refine nN ?_
   refine rt (tR ?_)
   refine fret (v := Str []) (.tmp .nil) rfl ?_
   have e1 : [] = addrT ak aq an apt := by simp [addrT, h2]
   exact ⟨(congrArg (Str) e1), (hs2.pick [] rfl (by decide))⟩
 · have h3 : (addrOk ak aq an apt) = true := by simpa using h1
   refine sk ?_
   refine nN ?_
   refine sq ?_
   refine rq (fun w' => SH w w' [] [.blk b1 25 [I ak, .slice Aaq aq.length caq, Str an, I apt]]) mixed (by kernel_rfl) hs2.drew ?_
   refine qq trivial rfl rfl (fun wq hsq => ldg (vs := [I ak, .slice Aaq aq.length caq, Str an, I apt]) hsq 0 rfl rfl rfl rfl ag25) ?_
   refine qc (Str (hostT ak aq an)) trivial rfl (fun wq hsq => (sL3Host (ak := ak) (Aaq := Aaq) (caq := caq) (aq := aq) (an := an) (apt := apt) (w := _) (haq := (haq.up0 hsq)) (han_n := (by first | omega | (simp; done) | (simp; omega))) (hok := (by first | omega | assumption | (simp; done) | (simp; omega)))).mono (fun v w' h => ⟨h.1, by simpa using hsq.call0 h.2⟩)) ?_
   refine qq trivial rfl rfl (fun wq hsq => cat (l := hostT ak aq an) (m := [58]) rfl rfl (by have haf := addrOk_fit (by assumption : addrOk ak aq an apt = true); have hhl := hostT_len (by assumption : addrOk ak aq an apt = true); have hil := Lib.itoa_length_le apt (by omega) (by omega); simp only [List.length_append, List.length_cons, List.length_nil]; omega)) ?_
   refine qq trivial rfl rfl (fun wq hsq => fa 3 fo25_3 rfl) ?_
   refine qq trivial rfl rfl (fun wq hsq => ld (v := I apt) hsq 0 rfl rfl rfl one3) ?_
   refine qc (Str (Lib.itoa apt)) trivial rfl (fun wq hsq => (l6Dec (n := apt) (w := _) (hn := (by have haf := addrOk_fit (by assumption : addrOk ak aq an apt = true); omega))).mono (fun v w' h => ⟨h.1, by simpa using hsq.call0 h.2⟩)) ?_
   refine qq trivial rfl rfl (fun wq hsq => cat (l := (hostT ak aq an) ++ [58]) (m := Lib.itoa apt) rfl rfl (by have haf := addrOk_fit (by assumption : addrOk ak aq an apt = true); have hhl := hostT_len (by assumption : addrOk ak aq an apt = true); have hil := Lib.itoa_length_le apt (by omega) (by omega); simp only [List.length_append, List.length_cons, List.length_nil]; omega)) ?_
   refine qq trivial rfl rfl (fun wq hsq => asg (v := Str (((hostT ak aq an) ++ [58]) ++ (Lib.itoa apt))) rfl) ?_
   refine qn (fun w3 hs3 => ?_)
   refine nN ?_
   refine rt ?_
   refine fret (v := Str (((hostT ak aq an) ++ [58]) ++ (Lib.itoa apt))) (.tmp .nil) rfl ?_
   have e2 : ((hostT ak aq an) ++ [58]) ++ (Lib.itoa apt) = addrT ak aq an apt := by simp [addrT, h3]
   exact ⟨(congrArg (Str) e2), (hs3.pick [] rfl (by decide))⟩

theorem sL14Connect (s : List UInt8) (w : World) (hs_n : s.length ≤ 2000) : Does Tryd.prog 60 [Str s] w (fun v w' => v = Str (connW s) ∧ SH w w' [] []) := by
 refine fn_enter (N := 9) Tryd.func60 rfl (by kernel_rfl) rfl rfl rfl ?_
 have hs0 : SH w w [] [] := SH.refl w []
 refine sq ?_
 refine rg ?_
 refine q trivial rfl rfl (asg (v := Str []) rfl) ?_
 refine nl ?_
 refine nN ?_
 refine sq ?_
 refine rg ?_
 refine q trivial rfl rfl (mv (v := Str s) rfl) ?_
 refine q trivial rfl rfl (cat (l := [67, 79, 78, 78, 69, 67, 84, 32]) (m := s) rfl rfl (by simp only [List.length_append, List.length_cons, List.length_nil]; omega)) ?_
 refine q trivial rfl rfl (cat (l := [67, 79, 78, 78, 69, 67, 84, 32] ++ s) (m := [32, 72, 84, 84, 80, 47, 49, 46, 49, 13, 10, 72, 111, 115, 116, 58, 32]) rfl rfl (by simp only [List.length_append, List.length_cons, List.length_nil]; omega)) ?_
 refine q trivial rfl rfl (mv (v := Str s) rfl) ?_
 refine q trivial rfl rfl (cat (l := ([67, 79, 78, 78, 69, 67, 84, 32] ++ s) ++ [32, 72, 84, 84, 80, 47, 49, 46, 49, 13, 10, 72, 111, 115, 116, 58, 32]) (m := s) rfl rfl (by simp only [List.length_append, List.length_cons, List.length_nil]; omega)) ?_
 refine q trivial rfl rfl (cat (l := (([67, 79, 78, 78, 69, 67, 84, 32] ++ s) ++ [32, 72, 84, 84, 80, 47, 49, 46, 49, 13, 10, 72, 111, 115, 116, 58, 32]) ++ s) (m := [13, 10, 13, 10]) rfl rfl (by simp only [List.length_append, List.length_cons, List.length_nil]; omega)) ?_
 refine q trivial rfl rfl (asg (v := Str (((([67, 79, 78, 78, 69, 67, 84, 32] ++ s) ++ [32, 72, 84, 84, 80, 47, 49, 46, 49, 13, 10, 72, 111, 115, 116, 58, 32]) ++ s) ++ [13, 10, 13, 10])) rfl) ?_
 refine nl ?_
 refine nN ?_
 refine rt ?_
 refine fret (v := Str (((([67, 79, 78, 78, 69, 67, 84, 32] ++ s) ++ [32, 72, 84, 84, 80, 47, 49, 46, 49, 13, 10, 72, 111, 115, 116, 58, 32]) ++ s) ++ [13, 10, 13, 10])) (.tmp .nil) rfl ?_
 have e1 : ((([67, 79, 78, 78, 69, 67, 84, 32] ++ s) ++ [32, 72, 84, 84, 80, 47, 49, 46, 49, 13, 10, 72, 111, 115, 116, 58, 32]) ++ s) ++ [13, 10, 13, 10] = connW s := by simp [connW]
 exact ⟨(congrArg (Str) e1), hs0⟩

theorem sConnectText (ak : Int) {Aaq : Option Addr} {caq : Nat} (aq : List Int) (an : List UInt8) (apt : Int) (w : World) (haq : Sl w [] 1 Aaq aq.length caq (aq.map I)) (han_n : an.length ≤ 1099511627776) : Does Tryd.prog 30 [.agg #[I ak, .slice Aaq aq.length caq, Str an, I apt]] w (fun v w' => v = Str (connT ak aq an apt) ∧ SH w w' [] []) := by
 refine fn_enter (N := 9) Tryd.func30 rfl (by kernel_rfl) rfl rfl rfl ?_
 have hs0 : SH w w [] [] := SH.refl w []
 have haq_m : aq.length ≤ 9223372036854775807 := Nat.le_trans haq.cap haq.capMax
 refine sq ?_
 refine rg ?_
 refine bx (v := .agg #[I ak, .slice Aaq aq.length caq, Str an, I apt]) (cs := [I ak, .slice Aaq aq.length caq, Str an, I apt]) hs0 rfl rfl trivial rfl (fun b1 w1 (hs1 : SH w w1 [] [.blk b1 25 [I ak, .slice Aaq aq.length caq, Str an, I apt]]) => ?_)
 refine q trivial rfl rfl (asg (v := Str []) rfl) ?_
 refine nl ?_
 refine nN ?_
 refine sq ?_
 refine sq ?_
 refine rg ?_
 refine q trivial rfl rfl (ldg (vs := [I ak, .slice Aaq aq.length caq, Str an, I apt]) hs1 0 rfl rfl rfl rfl ag25) ?_
 refine cl trivial rfl (sAddressValid (ak := ak) (Aaq := Aaq) (caq := caq) (aq := aq) (an := an) (apt := apt) (w := _) (haq := (haq.up0 hs1)) (han_n := (by first | omega | (simp; done) | (have hat := addrT_len ak aq an apt; omega)))) ?_
 rintro _ w2 ⟨rfl, hs2'⟩
 have hs2 : SH w w2 [] [.blk b1 25 [I ak, .slice Aaq aq.length caq, Str an, I apt]] := hs1.call0 hs2'
 clear hs2'
 refine q trivial rfl rfl (nt (b := addrOk ak aq an apt) rfl) ?_
 refine nl ?_
 refine nN ?_
 refine cd (b := !(addrOk ak aq an apt)) rfl (fun h1 => ?_) (fun h1 => ?_)
 · have h2 : (addrOk ak aq an apt) = false := by simpa using h1
   refine sq ?_
   refine rg ?_
   refine q trivial rfl rfl (asg (v := Str []) rfl) ?_
   refine nl ?_
   refine nN ?_
   refine rt (tR ?_)
   refine fret (v := Str []) (.tmp .nil) rfl ?_
   have e1 : [] = connT ak aq an apt := by simp [connT, h2]
   exact ⟨(congrArg (Str) e1), (hs2.pick [] rfl (by decide))⟩
 · have h3 : (addrOk ak aq an apt) = true := by simpa using h1
   refine sk ?_
   refine nN ?_
   refine sq ?_
   refine rg ?_
   refine q trivial rfl rfl (ldg (vs := [I ak, .slice Aaq aq.length caq, Str an, I apt]) hs2 0 rfl rfl rfl rfl ag25) ?_
   refine cl trivial rfl (sAddressText (ak := ak) (Aaq := Aaq) (caq := caq) (aq := aq) (an := an) (apt := apt) (w := _) (haq := (haq.up0 hs2)) (han_n := (by first | omega | (simp; done) | (have hat := addrT_len ak aq an apt; omega)))) ?_
   rintro _ w3 ⟨rfl, hs3'⟩
   have hs3 : SH w w3 [] [.blk b1 25 [I ak, .slice Aaq aq.length caq, Str an, I apt]] := hs2.call0 hs3'
   clear hs3'
   refine cl trivial rfl (sL14Connect (s := addrT ak aq an apt) (w := _) (hs_n := (by first | omega | (simp; done) | (have hat := addrT_len ak aq an apt; omega)))) ?_
   rintro _ w4 ⟨rfl, hs4'⟩
   have hs4 : SH w w4 [] [.blk b1 25 [I ak, .slice Aaq aq.length caq, Str an, I apt]] := hs3.call0 hs4'
   clear hs4'
   refine q trivial rfl rfl (asg (v := Str (connW (addrT ak aq an apt))) rfl) ?_
   refine nl ?_
   refine nN ?_
   refine rt ?_
   refine fret (v := Str (connW (addrT ak aq an apt))) (.tmp .nil) rfl ?_
   have e2 : connW (addrT ak aq an apt) = connT ak aq an apt := by simp [connT, h3]
   exact ⟨(congrArg (Str) e2), (hs4.pick [] rfl (by decide))⟩

theorem iAddressBytesP (ak : Int) {Aaq : Option Addr} {caq : Nat} (aq : List Int) (an : List UInt8) (apt : Int) (w : World) (haq : Sl w [] 1 Aaq aq.length caq (aq.map I)) (han_n : an.length ≤ 1099511627776) : Does Tryd.prog 17 [.agg #[I ak, .slice Aaq aq.length caq, Str an, I apt]] w (fun v w' => ∃ Ar : Option Addr, ∃ cr : Nat, v = .tuple #[.slice Ar ((addrP ak aq an apt).1).length cr, .bool ((addrP ak aq an apt).2)] ∧ SH w w' [] [.own Ar (((addrP ak aq an apt).1).length) cr 3 1 (((addrP ak aq an apt).1).map I)]) := by
 refine fn_enter (N := 9) Tryd.func17 rfl (by kernel_rfl) rfl rfl rfl ?_
 have hs0 : SH w w [] [] := SH.refl w []
 have haq_m : aq.length ≤ 9223372036854775807 := Nat.le_trans haq.cap haq.capMax
 refine sq ?_
 refine rg ?_
 refine bx (v := .agg #[I ak, .slice Aaq aq.length caq, Str an, I apt]) (cs := [I ak, .slice Aaq aq.length caq, Str an, I apt]) hs0 rfl rfl trivial rfl (fun b1 w1 (hs1 : SH w w1 [] [.blk b1 25 [I ak, .slice Aaq aq.length caq, Str an, I apt]]) => ?_)
 refine q trivial rfl rfl (asg (v := ns) rfl) ?_
 refine q trivial rfl rfl (asg (v := .bool false) rfl) ?_
 refine nl ?_
 refine nN ?_
 refine sq ?_
 refine sq ?_
 refine rg ?_
 refine q trivial rfl rfl (ldg (vs := [I ak, .slice Aaq aq.length caq, Str an, I apt]) hs1 0 rfl rfl rfl rfl ag25) ?_
 refine cl trivial rfl (iAddressValid (ak := ak) (Aaq := Aaq) (caq := caq) (aq := aq) (an := an) (apt := apt) (w := _) (haq := (haq.up0 hs1)) (han_n := (by first | omega | (simp; done) | (simp; omega)))) ?_
 rintro _ w2 ⟨rfl, hs2'⟩
 have hs2 : SH w w2 [] [.blk b1 25 [I ak, .slice Aaq aq.length caq, Str an, I apt]] := hs1.call0 hs2'
 clear hs2'
 refine q trivial rfl rfl (nt (b := addrOk ak aq an apt) rfl) ?_
 refine nl ?_
 refine nN ?_
 refine cd (b := !(addrOk ak aq an apt)) rfl (fun h1 => ?_) (fun h1 => ?_)
 · have h2 : (addrOk ak aq an apt) = false := by simpa using h1
   refine sq ?_
   refine rg ?_
   refine q trivial rfl rfl (asg (v := ns) rfl) ?_
   refine q trivial rfl rfl (asg (v := .bool false) rfl) ?_
   refine nl ?_
   refine nN ?_
   refine rt (tR ?_)
   refine fret (v := .tuple #[ns, .bool false]) (.tmp (.tmp .nil)) rfl ?_
   have hs3 : SH w w2 [] [.blk b1 25 [I ak, .slice Aaq aq.length caq, Str an, I apt], .own none (([] : List Int).length) 0 3 1 (([] : List Int).map I)] := SH.nils (by intro i hi; simp at hi; subst hi; exact nilItem) hs2
   have e1 : addrP ak aq an apt = (([] : List Int), false) := by simp [addrP, h2]
   have e2 : ([] : List Int) = (addrP ak aq an apt).1 := by rw [e1]
   have e3 : ([] : List Int).length = ((addrP ak aq an apt).1).length := by exact congrArg List.length e2
   have e4 : false = (addrP ak aq an apt).2 := by rw [e1]
   exact ⟨none, 0, (tup2 (slv rfl e3 rfl) (congrArg (Value.bool) e4)), ((hs3.pick [1] rfl (by decide)).cast (lc (own_eq (g := I) rfl e3 rfl e2) rfl))⟩
 · have h3 : (addrOk ak aq an apt) = true := by simpa using h1
   refine sk ?_
   refine nN ?_
   refine sq ?_
   refine rg ?_
   refine q trivial rfl rfl (ldg (vs := [I ak, .slice Aaq aq.length caq, Str an, I apt]) hs2 0 rfl rfl rfl rfl ag25) ?_
   refine cl trivial rfl (iAddressBytes (ak := ak) (Aaq := Aaq) (caq := caq) (aq := aq) (an := an) (apt := apt) (w := _) (haq := (haq.up0 hs2)) (han_n := (by first | omega | (simp; done) | (simp; omega))) (hok := (by first | omega | assumption | (simp; done) | (simp; omega)))) ?_
   rintro _ w3 ⟨A1, c1, rfl, hs4'⟩
   have hs4 : SH w w3 [] [.blk b1 25 [I ak, .slice Aaq aq.length caq, Str an, I apt], .own A1 ((addrB ak aq an apt).length) c1 3 1 ((addrB ak aq an apt).map I)] := hs2.call0 hs4'
   clear hs4'
   refine q trivial rfl rfl (asg (v := .slice A1 ((addrB ak aq an apt).length) c1) rfl) ?_
   refine q trivial rfl rfl (asg (v := .bool true) rfl) ?_
   refine nl ?_
   refine nN ?_
   refine rt ?_
   refine fret (v := .tuple #[.slice A1 ((addrB ak aq an apt).length) c1, .bool true]) (.tmp (.tmp .nil)) rfl ?_
   have e5 : addrP ak aq an apt = (addrB ak aq an apt, true) := by simp [addrP, h3]
   have e6 : addrB ak aq an apt = (addrP ak aq an apt).1 := by rw [e5]
   have e7 : (addrB ak aq an apt).length = ((addrP ak aq an apt).1).length := by exact congrArg List.length e6
   have e8 : true = (addrP ak aq an apt).2 := by rw [e5]
   exact ⟨A1, c1, (tup2 (slv rfl e7 rfl) (congrArg (Value.bool) e8)), ((hs4.pick [1] rfl (by decide)).cast (lc (own_eq (g := I) rfl e7 rfl e6) rfl))⟩

set_option maxHeartbeats 8000000 in
theorem iReplyBytes (c : Int) (ak : Int) {Aaq : Option Addr} {caq : Nat} (aq : List Int) (an : List UInt8) (apt : Int) (w : World) (haq : Sl w [] 1 Aaq aq.length caq (aq.map I)) (han_n : an.length ≤ 1099511627776) : Does Tryd.prog 24 [I c, .agg #[I ak, .slice Aaq aq.length caq, Str an, I apt]] w (fun v w' => ∃ Ar : Option Addr, ∃ cr : Nat, v = .tuple #[.slice Ar ((replyP c ak aq an apt).1).length cr, .bool ((replyP c ak aq an apt).2)] ∧ SH w w' [] [.own Ar (((replyP c ak aq an apt).1).length) cr 3 1 (((replyP c ak aq an apt).1).map I)]) := by
 refine fn_enter (N := 19) Tryd.func24 rfl (by kernel_rfl) rfl rfl rfl ?_
 have hs0 : SH w w [] [] := SH.refl w []
 have haq_m : aq.length ≤ 9223372036854775807 := Nat.le_trans haq.cap haq.capMax
 refine sq ?_
 refine rg ?_
 refine bx (v := .agg #[I ak, .slice Aaq aq.length caq, Str an, I apt]) (cs := [I ak, .slice Aaq aq.length caq, Str an, I apt]) hs0 rfl rfl trivial rfl (fun b1 w1 (hs1 : SH w w1 [] [.blk b1 25 [I ak, .slice Aaq aq.length caq, Str an, I apt]]) => ?_)
 refine q trivial rfl rfl (asg (v := ns) rfl) ?_
 refine q trivial rfl rfl (asg (v := .bool false) rfl) ?_
 refine nl ?_
 refine nN ?_
 refine sq ?_
 refine sq ?_
 refine rg ?_
 refine q trivial rfl rfl (mv (v := I c) rfl) ?_
 refine cl trivial rfl (iWithin (x := c) (lo := 0) (hi := 8) (w := _)) ?_
 rintro _ w2 ⟨rfl, hs2'⟩
 have hs2 : SH w w2 [] [.blk b1 25 [I ak, .slice Aaq aq.length caq, Str an, I apt]] := hs1.call0 hs2'
 clear hs2'
 refine q trivial rfl rfl (nd (p := 0 ≤ c ∧ c ≤ 8) rfl) ?_
 refine q trivial rfl rfl (mv (v := .bool (decide (¬ (0 ≤ c ∧ c ≤ 8)))) rfl) ?_
 refine spd (p := ¬ (0 ≤ c ∧ c ≤ 8)) 9 rfl (fun h1 => ?_) (fun h1 => ?_)
 · refine gk true rfl rfl rfl rfl rfl ?_
   refine gk true rfl rfl rfl rfl rfl ?_
   refine gk true rfl rfl rfl rfl rfl ?_
   refine q trivial rfl rfl (pt (v := .bool true) rfl rfl) ?_
   refine nl ?_
   refine nN ?_
   refine cdt rfl ?_
   refine sq ?_
   refine rg ?_
   refine q trivial rfl rfl (asg (v := ns) rfl) ?_
   refine q trivial rfl rfl (asg (v := .bool false) rfl) ?_
   refine nl ?_
   refine nN ?_
   refine rt (tR ?_)
   refine fret (v := .tuple #[ns, .bool false]) (.tmp (.tmp .nil)) rfl ?_
   have hs3 : SH w w2 [] [.blk b1 25 [I ak, .slice Aaq aq.length caq, Str an, I apt], .own none (([] : List Int).length) 0 3 1 (([] : List Int).map I)] := SH.nils (by intro i hi; simp at hi; subst hi; exact nilItem) hs2
   have e1 : replyP c ak aq an apt = (([] : List Int), false) := by simp [replyP, h1]
   have e2 : ([] : List Int) = (replyP c ak aq an apt).1 := by rw [e1]
   have e3 : ([] : List Int).length = ((replyP c ak aq an apt).1).length := by exact congrArg List.length e2
   have e4 : false = (replyP c ak aq an apt).2 := by rw [e1]
   exact ⟨none, 0, (tup2 (slv rfl e3 rfl) (congrArg (Value.bool) e4)), ((hs3.pick [1] rfl (by decide)).cast (lc (own_eq (g := I) rfl e3 rfl e2) rfl))⟩
 · refine q ⟨_, rfl, rfl⟩ rfl rfl (ldg (vs := [I ak, .slice Aaq aq.length caq, Str an, I apt]) hs2 0 rfl rfl rfl rfl ag25) ?_
   refine cl ⟨_, rfl, rfl⟩ rfl (iAddressValid (ak := ak) (Aaq := Aaq) (caq := caq) (aq := aq) (an := an) (apt := apt) (w := _) (haq := (haq.up0 hs2)) (han_n := (by first | omega | (simp; done) | (simp; omega)))) ?_
   rintro _ w3 ⟨rfl, hs4'⟩
   have hs4 : SH w w3 [] [.blk b1 25 [I ak, .slice Aaq aq.length caq, Str an, I apt]] := hs2.call0 hs4'
   clear hs4'
   refine q ⟨_, rfl, rfl⟩ rfl rfl (nt (b := addrOk ak aq an apt) rfl) ?_
   refine q trivial rfl rfl (pf (v := .bool (!(addrOk ak aq an apt))) rfl rfl) ?_
   refine nl ?_
   refine nN ?_
   refine cd (b := !(addrOk ak aq an apt)) rfl (fun h2 => ?_) (fun h2 => ?_)
   · have h3 : (addrOk ak aq an apt) = false := by simpa using h2
     refine sq ?_
     refine rg ?_
     refine q trivial rfl rfl (asg (v := ns) rfl) ?_
     refine q trivial rfl rfl (asg (v := .bool false) rfl) ?_
     refine nl ?_
     refine nN ?_
     refine rt (tR ?_)
     refine fret (v := .tuple #[ns, .bool false]) (.tmp (.tmp .nil)) rfl ?_
     have hs5 : SH w w3 [] [.blk b1 25 [I ak, .slice Aaq aq.length caq, Str an, I apt], .own none (([] : List Int).length) 0 3 1 (([] : List Int).map I)] := SH.nils (by intro i hi; simp at hi; subst hi; exact nilItem) hs4
     have e5 : replyP c ak aq an apt = (([] : List Int), false) := by simp [replyP, h1, h3]
     have e6 : ([] : List Int) = (replyP c ak aq an apt).1 := by rw [e5]
     have e7 : ([] : List Int).length = ((replyP c ak aq an apt).1).length := by exact congrArg List.length e6
     have e8 : false = (replyP c ak aq an apt).2 := by rw [e5]
     exact ⟨none, 0, (tup2 (slv rfl e7 rfl) (congrArg (Value.bool) e8)), ((hs5.pick [1] rfl (by decide)).cast (lc (own_eq (g := I) rfl e7 rfl e6) rfl))⟩
   · have h4 : (addrOk ak aq an apt) = true := by simpa using h2
     refine sk ?_
     refine nN ?_
     refine sq ?_
     refine rg ?_
     refine q trivial rfl rfl (mv (v := I c) rfl) ?_
     refine bsk hs4 sl23 [I 5, I c, I 0] [I 5, I c, I 0] trivial rfl (fun b2 w4 (hs6 : SH w w4 [] [.blk b1 25 [I ak, .slice Aaq aq.length caq, Str an, I apt], oI b2 ([5, c, 0] : List Int) 3 3]) => ?_)
     refine q trivial rfl rfl (ldg (vs := [I ak, .slice Aaq aq.length caq, Str an, I apt]) hs6 0 rfl rfl rfl rfl ag25) ?_
     refine cl trivial rfl (iAddressBytes (ak := ak) (Aaq := Aaq) (caq := caq) (aq := aq) (an := an) (apt := apt) (w := _) (haq := (haq.up0 hs6)) (han_n := (by first | omega | (simp; done) | (simp; omega))) (hok := (by first | omega | assumption | (simp; done) | (simp; omega)))) ?_
     rintro _ w5 ⟨A1, c1, rfl, hs7'⟩
     have hs7 : SH w w5 [] [.blk b1 25 [I ak, .slice Aaq aq.length caq, Str an, I apt], oI b2 ([5, c, 0] : List Int) 3 3, .own A1 ((addrB ak aq an apt).length) c1 3 1 ((addrB ak aq an apt).map I)] := hs6.call0 hs7'
     clear hs7'
     refine apm (g := I) (ys := ([5, c, 0] : List Int)) (zs := addrB ak aq an apt) hs7 1 rfl sl23 rfl rfl rfl (hs7.sl0 2 rfl) (fun _ => rfl) (by unfold maxLen; have hbl := addrB_len (by assumption : addrOk ak aq an apt = true); simp only [List.length_append, List.length_cons, List.length_nil]; omega) (by have hbl := addrB_len (by assumption : addrOk ak aq an apt = true); simp only [List.length_append, List.length_cons, List.length_nil]; omega) trivial rfl (fun A2 c2 w6 (hs8 : SH w w6 [] [.blk b1 25 [I ak, .slice Aaq aq.length caq, Str an, I apt], .own A1 ((addrB ak aq an apt).length) c1 3 1 ((addrB ak aq an apt).map I), .own A2 ((([5, c, 0] : List Int) ++ (addrB ak aq an apt)).length) c2 3 1 ((([5, c, 0] : List Int) ++ (addrB ak aq an apt)).map I)]) => ?_)
     refine q trivial rfl rfl (asg (v := .slice A2 ((([5, c, 0] : List Int) ++ (addrB ak aq an apt)).length) c2) rfl) ?_
     refine q trivial rfl rfl (asg (v := .bool true) rfl) ?_
     refine nl ?_
     refine nN ?_
     refine rt ?_
     refine fret (v := .tuple #[.slice A2 ((([5, c, 0] : List Int) ++ (addrB ak aq an apt)).length) c2, .bool true]) (.tmp (.tmp .nil)) rfl ?_
     have e9 : replyP c ak aq an apt = (([5, c, 0] : List Int) ++ (addrB ak aq an apt), true) := by simp [replyP, h1, h4]
     have e10 : ([5, c, 0] : List Int) ++ (addrB ak aq an apt) = (replyP c ak aq an apt).1 := by rw [e9]
     have e11 : (([5, c, 0] : List Int) ++ (addrB ak aq an apt)).length = ((replyP c ak aq an apt).1).length := by exact congrArg List.length e10
     have e12 : true = (replyP c ak aq an apt).2 := by rw [e9]
     exact ⟨A2, c2, (tup2 (slv rfl e11 rfl) (congrArg (Value.bool) e12)), ((hs8.pick [2] rfl (by decide)).cast (lc (own_eq (g := I) rfl e11 rfl e10) rfl))⟩

set_option maxHeartbeats 8000000 in
theorem sReplyBytes (c : Int) (ak : Int) {Aaq : Option Addr} {caq : Nat} (aq : List Int) (an : List UInt8) (apt : Int) (w : World) (haq : Sl w [] 1 Aaq aq.length caq (aq.map I)) (han_n : an.length ≤ 1099511627776) : Does Tryd.prog 51 [I c, .agg #[I ak, .slice Aaq aq.length caq, Str an, I apt]] w (fun v w' => ∃ Ar : Option Addr, ∃ cr : Nat, v = .tuple #[.slice Ar ((replyP c ak aq an apt).1).length cr, .bool ((replyP c ak aq an apt).2)] ∧ SH w w' [] [.own Ar (((replyP c ak aq an apt).1).length) cr 3 1 (((replyP c ak aq an apt).1).map I)]) := by
 refine fn_enter (N := 18) Tryd.func51 rfl (by kernel_rfl) rfl rfl rfl ?_
 have hs0 : SH w w [] [] := SH.refl w []
 have haq_m : aq.length ≤ 9223372036854775807 := Nat.le_trans haq.cap haq.capMax
 refine sq ?_
 refine rg ?_
 refine bx (v := .agg #[I ak, .slice Aaq aq.length caq, Str an, I apt]) (cs := [I ak, .slice Aaq aq.length caq, Str an, I apt]) hs0 rfl rfl trivial rfl (fun b1 w1 (hs1 : SH w w1 [] [.blk b1 25 [I ak, .slice Aaq aq.length caq, Str an, I apt]]) => ?_)
 refine q trivial rfl rfl (asg (v := ns) rfl) ?_
 refine q trivial rfl rfl (asg (v := .bool false) rfl) ?_
 refine nl ?_
 refine nN ?_
 refine sq ?_
 refine sq ?_
 refine rg ?_
 refine q trivial rfl rfl (mv (v := I c) rfl) ?_
 refine cl trivial rfl (sIn (x := c) (lo := 0) (hi := 8) (w := _)) ?_
 rintro _ w2 ⟨rfl, hs2'⟩
 have hs2 : SH w w2 [] [.blk b1 25 [I ak, .slice Aaq aq.length caq, Str an, I apt]] := hs1.call0 hs2'
 clear hs2'
 refine q trivial rfl rfl (nd (p := 0 ≤ c ∧ c ≤ 8) rfl) ?_
 refine q trivial rfl rfl (mv (v := .bool (decide (¬ (0 ≤ c ∧ c ≤ 8)))) rfl) ?_
 refine spd (p := ¬ (0 ≤ c ∧ c ≤ 8)) 9 rfl (fun h1 => ?_) (fun h1 => ?_)
 · refine gk true rfl rfl rfl rfl rfl ?_
   refine gk true rfl rfl rfl rfl rfl ?_
   refine gk true rfl rfl rfl rfl rfl ?_
   refine q trivial rfl rfl (pt (v := .bool true) rfl rfl) ?_
   refine nl ?_
   refine nN ?_
   refine cdt rfl ?_
   refine sq ?_
   refine rg ?_
   refine bsk hs2 sl23 [] [] trivial rfl (fun b2 w3 (hs3 : SH w w3 [] [.blk b1 25 [I ak, .slice Aaq aq.length caq, Str an, I apt], oI b2 ([] : List Int) 0 3]) => ?_)
   refine q trivial rfl rfl (asg (v := sb b2 (([] : List Int).length) 0) rfl) ?_
   refine q trivial rfl rfl (asg (v := .bool false) rfl) ?_
   refine nl ?_
   refine nN ?_
   refine rt (tR ?_)
   refine fret (v := .tuple #[sb b2 (([] : List Int).length) 0, .bool false]) (.tmp (.tmp .nil)) rfl ?_
   have e1 : replyP c ak aq an apt = (([] : List Int), false) := by simp [replyP, h1]
   have e2 : ([] : List Int) = (replyP c ak aq an apt).1 := by rw [e1]
   have e3 : ([] : List Int).length = ((replyP c ak aq an apt).1).length := by exact congrArg List.length e2
   have e4 : false = (replyP c ak aq an apt).2 := by rw [e1]
   exact ⟨(some ⟨b2, 0, none⟩), 0, (tup2 (slv rfl e3 rfl) (congrArg (Value.bool) e4)), ((hs3.pick [1] rfl (by decide)).cast (lc (own_eq (g := I) rfl e3 rfl e2) rfl))⟩
 · refine q ⟨_, rfl, rfl⟩ rfl rfl (ldg (vs := [I ak, .slice Aaq aq.length caq, Str an, I apt]) hs2 0 rfl rfl rfl rfl ag25) ?_
   refine cl ⟨_, rfl, rfl⟩ rfl (sAddressValid (ak := ak) (Aaq := Aaq) (caq := caq) (aq := aq) (an := an) (apt := apt) (w := _) (haq := (haq.up0 hs2)) (han_n := (by first | omega | (simp; done) | (simp; omega)))) ?_
   rintro _ w4 ⟨rfl, hs4'⟩
   have hs4 : SH w w4 [] [.blk b1 25 [I ak, .slice Aaq aq.length caq, Str an, I apt]] := hs2.call0 hs4'
   clear hs4'
   refine q ⟨_, rfl, rfl⟩ rfl rfl (nt (b := addrOk ak aq an apt) rfl) ?_
   refine q trivial rfl rfl (pf (v := .bool (!(addrOk ak aq an apt))) rfl rfl) ?_
   refine nl ?_
   refine nN ?_
   refine cd (b := !(addrOk ak aq an apt)) rfl (fun h2 => ?_) (fun h2 => ?_)
   · have h3 : (addrOk ak aq an apt) = false := by simpa using h2
     refine sq ?_
     refine rg ?_
     refine bsk hs4 sl23 [] [] trivial rfl (fun b3 w5 (hs5 : SH w w5 [] [.blk b1 25 [I ak, .slice Aaq aq.length caq, Str an, I apt], oI b3 ([] : List Int) 0 3]) => ?_)
     refine q trivial rfl rfl (asg (v := sb b3 (([] : List Int).length) 0) rfl) ?_
     refine q trivial rfl rfl (asg (v := .bool false) rfl) ?_
     refine nl ?_
     refine nN ?_
     refine rt (tR ?_)
     refine fret (v := .tuple #[sb b3 (([] : List Int).length) 0, .bool false]) (.tmp (.tmp .nil)) rfl ?_
     have e5 : replyP c ak aq an apt = (([] : List Int), false) := by simp [replyP, h1, h3]
     have e6 : ([] : List Int) = (replyP c ak aq an apt).1 := by rw [e5]
     have e7 : ([] : List Int).length = ((replyP c ak aq an apt).1).length := by exact congrArg List.length e6
     have e8 : false = (replyP c ak aq an apt).2 := by rw [e5]
     exact ⟨(some ⟨b3, 0, none⟩), 0, (tup2 (slv rfl e7 rfl) (congrArg (Value.bool) e8)), ((hs5.pick [1] rfl (by decide)).cast (lc (own_eq (g := I) rfl e7 rfl e6) rfl))⟩
   · have h4 : (addrOk ak aq an apt) = true := by simpa using h2
     refine sk ?_
     refine nN ?_
     refine sq ?_
     refine rg ?_
     refine q trivial rfl rfl (mv (v := I c) rfl) ?_
     refine q trivial rfl rfl (ldg (vs := [I ak, .slice Aaq aq.length caq, Str an, I apt]) hs4 0 rfl rfl rfl rfl ag25) ?_
     refine cl trivial rfl (sL12Bytes (n := c) (ak := ak) (Aaq := Aaq) (caq := caq) (aq := aq) (an := an) (apt := apt) (w := _) (haq := (haq.up0 hs4)) (han_n := (by first | omega | (simp; done) | (simp; omega))) (hok := (by first | omega | assumption | (simp; done) | (simp; omega)))) ?_
     rintro _ w6 ⟨A1, c1, rfl, hs6'⟩
     have hs6 : SH w w6 [] [.blk b1 25 [I ak, .slice Aaq aq.length caq, Str an, I apt], .own A1 (([5, c, 0] ++ addrB ak aq an apt).length) c1 3 1 (([5, c, 0] ++ addrB ak aq an apt).map I)] := hs4.call0 hs6'
     clear hs6'
     refine q trivial rfl rfl (asg (v := .slice A1 (([5, c, 0] ++ addrB ak aq an apt).length) c1) rfl) ?_
     refine q trivial rfl rfl (asg (v := .bool true) rfl) ?_
     refine nl ?_
     refine nN ?_
     refine rt ?_
     refine fret (v := .tuple #[.slice A1 (([5, c, 0] ++ addrB ak aq an apt).length) c1, .bool true]) (.tmp (.tmp .nil)) rfl ?_
     have e9 : replyP c ak aq an apt = ([5, c, 0] ++ addrB ak aq an apt, true) := by simp [replyP, h1, h4]
     have e10 : [5, c, 0] ++ addrB ak aq an apt = (replyP c ak aq an apt).1 := by rw [e9]
     have e11 : ([5, c, 0] ++ addrB ak aq an apt).length = ((replyP c ak aq an apt).1).length := by exact congrArg List.length e10
     have e12 : true = (replyP c ak aq an apt).2 := by rw [e9]
     exact ⟨A1, c1, (tup2 (slv rfl e11 rfl) (congrArg (Value.bool) e12)), ((hs6.pick [1] rfl (by decide)).cast (lc (own_eq (g := I) rfl e11 rfl e10) rfl))⟩

theorem iRulesReply {Azs : Option Addr} {czs : Nat} (zs : List (List UInt8 × Int × Bool)) (c : Int) (ak : Int) {Aaq : Option Addr} {caq : Nat} (aq : List Int) (an : List UInt8) (apt : Int) (w : World) (hzs : Sl w [] 3 Azs zs.length czs (zs.flatMap gRule)) (hzs_e : ∀ u ∈ zs, u.1.length ≤ 9223372036854775807) (haq : Sl w [] 1 Aaq aq.length caq (aq.map I)) (han_n : an.length ≤ 1099511627776) (hGp : Lib.TabIs Tryd.prog w "internal/strconv.uint64pow10" .u64 Lib.pow10Tab) : Does Tryd.prog 20 [.slice Azs zs.length czs, .agg #[I c, I ak, .slice Aaq aq.length caq, Str an, I apt]] w (fun v w' => ∃ Ar : Option Addr, ∃ cr : Nat, v = .tuple #[.slice Ar ((ruleReply zs c ak aq an apt).1).length cr, .bool ((ruleReply zs c ak aq an apt).2)] ∧ SH w w' [] [.own Ar (((ruleReply zs c ak aq an apt).1).length) cr 3 1 (((ruleReply zs c ak aq an apt).1).map I)]) := by
 refine fn_enter (N := 28) Tryd.func20 rfl (by kernel_rfl) rfl rfl rfl ?_
 have hs0 : SH w w [] [] := SH.refl w []
 have hzs_m : zs.length ≤ 9223372036854775807 := Nat.le_trans hzs.cap hzs.capMax
 have haq_m : aq.length ≤ 9223372036854775807 := Nat.le_trans haq.cap haq.capMax
 refine sq ?_
 refine rg ?_
 refine bx (v := .agg #[I c, I ak, .slice Aaq aq.length caq, Str an, I apt]) (cs := [I c, I ak, .slice Aaq aq.length caq, Str an, I apt]) hs0 rfl rfl trivial rfl (fun b1 w1 (hs1 : SH w w1 [] [.blk b1 44 [I c, I ak, .slice Aaq aq.length caq, Str an, I apt]]) => ?_)
 refine q trivial rfl rfl (asg (v := ns) rfl) ?_
 refine q trivial rfl rfl (asg (v := .bool false) rfl) ?_
 refine nl ?_
 refine nN ?_
 refine sq ?_
 refine sq ?_
 refine rg ?_
 refine q trivial rfl rfl (mv (v := .slice Azs zs.length czs) rfl) ?_
 refine cl trivial rfl (iRulesValid (Azs := Azs) (czs := czs) (zs := zs) (w := _) (hzs := (hzs.up0 hs1)) (hzs_e := hzs_e)) ?_
 rintro _ w2 ⟨rfl, hs2'⟩
 have hs2 : SH w w2 [] [.blk b1 44 [I c, I ak, .slice Aaq aq.length caq, Str an, I apt]] := hs1.call0 hs2'
 clear hs2'
 refine q trivial rfl rfl (nt (b := rulesOk zs) rfl) ?_
 refine q trivial rfl rfl (mv (v := .bool (!(rulesOk zs))) rfl) ?_
 refine spl (b := !(rulesOk zs)) 9 rfl (fun h1 => ?_) (fun h1 => ?_)
 · have h2 : (rulesOk zs) = false := by simpa using h1
   refine gk true rfl rfl rfl rfl rfl ?_
   refine gk true rfl rfl rfl rfl rfl ?_
   refine gk true rfl rfl rfl rfl rfl ?_
   refine q trivial rfl rfl (pt (v := .bool true) rfl rfl) ?_
   refine nl ?_
   refine nN ?_
   refine cdt rfl ?_
   refine sq ?_
   refine rg ?_
   refine q trivial rfl rfl (asg (v := ns) rfl) ?_
   refine q trivial rfl rfl (asg (v := .bool false) rfl) ?_
   refine nl ?_
   refine nN ?_
   refine rt (tR ?_)
   refine fret (v := .tuple #[ns, .bool false]) (.tmp (.tmp .nil)) rfl ?_
   have hs3 : SH w w2 [] [.blk b1 44 [I c, I ak, .slice Aaq aq.length caq, Str an, I apt], .own none (([] : List Int).length) 0 3 1 (([] : List Int).map I)] := SH.nils (by intro i hi; simp at hi; subst hi; exact nilItem) hs2
   have e1 : ruleReply zs c ak aq an apt = (([] : List Int), false) := by first | (simp [ruleReply, h2]; done) | (have hra := reqOk_addr (by assumption : reqOk c ak aq an apt = true); have hrr := rulesAllow_ok (by assumption : rulesOk zs = true) hra; simp [ruleReply, hrr, h2]; done) | (have hrq := (reqP_2 c ak aq an apt).symm.trans (by assumption); simp [ruleReply, hrq, h2]; done)
   have e2 : ([] : List Int) = (ruleReply zs c ak aq an apt).1 := by rw [e1]
   have e3 : ([] : List Int).length = ((ruleReply zs c ak aq an apt).1).length := by exact congrArg List.length e2
   have e4 : false = (ruleReply zs c ak aq an apt).2 := by rw [e1]
   exact ⟨none, 0, (tup2 (slv rfl e3 rfl) (congrArg (Value.bool) e4)), ((hs3.pick [1] rfl (by decide)).cast (lc (own_eq (g := I) rfl e3 rfl e2) rfl))⟩
 · have h3 : (rulesOk zs) = true := by simpa using h1
   refine q ⟨_, rfl, rfl⟩ rfl rfl (ldg (vs := [I c, I ak, .slice Aaq aq.length caq, Str an, I apt]) hs2 0 rfl rfl rfl rfl ag44) ?_
   refine cl ⟨_, rfl, rfl⟩ rfl (iIsRequest (n := c) (ak := ak) (Aaq := Aaq) (caq := caq) (aq := aq) (an := an) (apt := apt) (w := _) (haq := (haq.up0 hs2)) (han_n := (by first | omega | (simp; done) | (simp; omega)))) ?_
   rintro _ w3 ⟨rfl, hs4'⟩
   have hs4 : SH w w3 [] [.blk b1 44 [I c, I ak, .slice Aaq aq.length caq, Str an, I apt]] := hs2.call0 hs4'
   clear hs4'
   refine q ⟨_, rfl, rfl⟩ rfl rfl (nt (b := reqOk c ak aq an apt) rfl) ?_
   refine q trivial rfl rfl (pf (v := .bool (!(reqOk c ak aq an apt))) rfl rfl) ?_
   refine nl ?_
   refine nN ?_
   refine cd (b := !(reqOk c ak aq an apt)) rfl (fun h4 => ?_) (fun h4 => ?_)
   · have h5 : (reqOk c ak aq an apt) = false := by simpa using h4
     refine sq ?_
     refine rg ?_
     refine q trivial rfl rfl (asg (v := ns) rfl) ?_
     refine q trivial rfl rfl (asg (v := .bool false) rfl) ?_
     refine nl ?_
     refine nN ?_
     refine rt (tR ?_)
     refine fret (v := .tuple #[ns, .bool false]) (.tmp (.tmp .nil)) rfl ?_
     have hs5 : SH w w3 [] [.blk b1 44 [I c, I ak, .slice Aaq aq.length caq, Str an, I apt], .own none (([] : List Int).length) 0 3 1 (([] : List Int).map I)] := SH.nils (by intro i hi; simp at hi; subst hi; exact nilItem) hs4
     have e5 : ruleReply zs c ak aq an apt = (([] : List Int), false) := by first | (simp [ruleReply, h3, h5]; done) | (have hra := reqOk_addr (by assumption : reqOk c ak aq an apt = true); have hrr := rulesAllow_ok (by assumption : rulesOk zs = true) hra; simp [ruleReply, hrr, h3, h5]; done) | (have hrq := (reqP_2 c ak aq an apt).symm.trans (by assumption); simp [ruleReply, hrq, h3, h5]; done)
     have e6 : ([] : List Int) = (ruleReply zs c ak aq an apt).1 := by rw [e5]
     have e7 : ([] : List Int).length = ((ruleReply zs c ak aq an apt).1).length := by exact congrArg List.length e6
     have e8 : false = (ruleReply zs c ak aq an apt).2 := by rw [e5]
     exact ⟨none, 0, (tup2 (slv rfl e7 rfl) (congrArg (Value.bool) e8)), ((hs5.pick [1] rfl (by decide)).cast (lc (own_eq (g := I) rfl e7 rfl e6) rfl))⟩
   · have h6 : (reqOk c ak aq an apt) = true := by simpa using h4
     refine sk ?_
     refine nN ?_
     refine sq ?_
     refine sq ?_
     refine rg ?_
     refine q trivial rfl rfl (mv (v := .slice Azs zs.length czs) rfl) ?_
     refine q trivial rfl rfl (fa 1 fo44_1 rfl) ?_
     refine q trivial rfl rfl (ldg (vs := [I ak, .slice Aaq aq.length caq, Str an, I apt]) hs4 0 rfl rfl rfl rfl ag25) ?_
     refine cl trivial rfl (iAllow (Azs := Azs) (czs := czs) (zs := zs) (ak := ak) (Aaq := Aaq) (caq := caq) (aq := aq) (an := an) (apt := apt) (w := _) (hzs := (hzs.up0 hs4)) (hzs_e := hzs_e) (haq := (haq.up0 hs4)) (han_n := (by first | omega | (simp; done) | (simp; omega))) (hok := (by exact reqOk_addr (by assumption))) (hGp := (tab_up hGp hs4))) ?_
     rintro _ w4 ⟨rfl, hs6'⟩
     have hs6 : SH w w4 [] [.blk b1 44 [I c, I ak, .slice Aaq aq.length caq, Str an, I apt]] := hs4.call0 hs6'
     clear hs6'
     refine nl ?_
     refine nN ?_
     refine cd (b := allowL zs (hostT ak aq an) apt) rfl (fun h7 => ?_) (fun h7 => ?_)
     · refine sq ?_
       refine rg ?_
       refine q trivial rfl rfl (fa 1 fo44_1 rfl) ?_
       refine q trivial rfl rfl (ldg (vs := [I ak, .slice Aaq aq.length caq, Str an, I apt]) hs6 0 rfl rfl rfl rfl ag25) ?_
       refine cl trivial rfl (iReplyBytes (c := 0) (ak := ak) (Aaq := Aaq) (caq := caq) (aq := aq) (an := an) (apt := apt) (w := _) (haq := (haq.up0 hs6)) (han_n := (by first | omega | (simp; done) | (simp; omega)))) ?_
       rintro _ w5 ⟨A1, c1, rfl, hs7'⟩
       have hs7 : SH w w5 [] [.blk b1 44 [I c, I ak, .slice Aaq aq.length caq, Str an, I apt], .own A1 (((replyP 0 ak aq an apt).1).length) c1 3 1 (((replyP 0 ak aq an apt).1).map I)] := hs6.call0 hs7'
       clear hs7'
       refine q trivial rfl rfl (xt 0 (v := .slice A1 (((replyP 0 ak aq an apt).1).length) c1) rfl rfl) ?_
       refine q trivial rfl rfl (xt 1 (v := .bool ((replyP 0 ak aq an apt).2)) rfl rfl) ?_
       refine q trivial rfl rfl (asg (v := .slice A1 (((replyP 0 ak aq an apt).1).length) c1) rfl) ?_
       refine q trivial rfl rfl (asg (v := .bool ((replyP 0 ak aq an apt).2)) rfl) ?_
       refine nl ?_
       refine nN ?_
       refine rt (tR ?_)
       refine fret (v := .tuple #[.slice A1 (((replyP 0 ak aq an apt).1).length) c1, .bool ((replyP 0 ak aq an apt).2)]) (.tmp (.tmp .nil)) rfl ?_
       have e9 : ruleReply zs c ak aq an apt = ((replyP 0 ak aq an apt).1, ((replyP 0 ak aq an apt).2)) := by first | (simp [ruleReply, h3, h6, h7]; done) | (have hra := reqOk_addr (by assumption : reqOk c ak aq an apt = true); have hrr := rulesAllow_ok (by assumption : rulesOk zs = true) hra; simp [ruleReply, hrr, h3, h6, h7]; done) | (have hrq := (reqP_2 c ak aq an apt).symm.trans (by assumption); simp [ruleReply, hrq, h3, h6, h7]; done)
       have e10 : (replyP 0 ak aq an apt).1 = (ruleReply zs c ak aq an apt).1 := by rw [e9]
       have e11 : ((replyP 0 ak aq an apt).1).length = ((ruleReply zs c ak aq an apt).1).length := by exact congrArg List.length e10
       have e12 : ((replyP 0 ak aq an apt).2) = (ruleReply zs c ak aq an apt).2 := by rw [e9]
       exact ⟨A1, c1, (tup2 (slv rfl e11 rfl) (congrArg (Value.bool) e12)), ((hs7.pick [1] rfl (by decide)).cast (lc (own_eq (g := I) rfl e11 rfl e10) rfl))⟩
     · refine sk ?_
       refine nN ?_
       refine sq ?_
       refine rg ?_
       refine q trivial rfl rfl (fa 1 fo44_1 rfl) ?_
       refine q trivial rfl rfl (ldg (vs := [I ak, .slice Aaq aq.length caq, Str an, I apt]) hs6 0 rfl rfl rfl rfl ag25) ?_
       refine cl trivial rfl (iReplyBytes (c := 2) (ak := ak) (Aaq := Aaq) (caq := caq) (aq := aq) (an := an) (apt := apt) (w := _) (haq := (haq.up0 hs6)) (han_n := (by first | omega | (simp; done) | (simp; omega)))) ?_
       rintro _ w6 ⟨A2, c2, rfl, hs8'⟩
       have hs8 : SH w w6 [] [.blk b1 44 [I c, I ak, .slice Aaq aq.length caq, Str an, I apt], .own A2 (((replyP 2 ak aq an apt).1).length) c2 3 1 (((replyP 2 ak aq an apt).1).map I)] := hs6.call0 hs8'
       clear hs8'
       refine q trivial rfl rfl (xt 0 (v := .slice A2 (((replyP 2 ak aq an apt).1).length) c2) rfl rfl) ?_
       refine q trivial rfl rfl (xt 1 (v := .bool ((replyP 2 ak aq an apt).2)) rfl rfl) ?_
       refine q trivial rfl rfl (asg (v := .slice A2 (((replyP 2 ak aq an apt).1).length) c2) rfl) ?_
       refine q trivial rfl rfl (asg (v := .bool ((replyP 2 ak aq an apt).2)) rfl) ?_
       refine nl ?_
       refine nN ?_
       refine rt ?_
       refine fret (v := .tuple #[.slice A2 (((replyP 2 ak aq an apt).1).length) c2, .bool ((replyP 2 ak aq an apt).2)]) (.tmp (.tmp .nil)) rfl ?_
       have e13 : ruleReply zs c ak aq an apt = ((replyP 2 ak aq an apt).1, ((replyP 2 ak aq an apt).2)) := by first | (simp [ruleReply, h3, h6, h7]; done) | (have hra := reqOk_addr (by assumption : reqOk c ak aq an apt = true); have hrr := rulesAllow_ok (by assumption : rulesOk zs = true) hra; simp [ruleReply, hrr, h3, h6, h7]; done) | (have hrq := (reqP_2 c ak aq an apt).symm.trans (by assumption); simp [ruleReply, hrq, h3, h6, h7]; done)
       have e14 : (replyP 2 ak aq an apt).1 = (ruleReply zs c ak aq an apt).1 := by rw [e13]
       have e15 : ((replyP 2 ak aq an apt).1).length = ((ruleReply zs c ak aq an apt).1).length := by exact congrArg List.length e14
       have e16 : ((replyP 2 ak aq an apt).2) = (ruleReply zs c ak aq an apt).2 := by rw [e13]
       exact ⟨A2, c2, (tup2 (slv rfl e15 rfl) (congrArg (Value.bool) e16)), ((hs8.pick [1] rfl (by decide)).cast (lc (own_eq (g := I) rfl e15 rfl e14) rfl))⟩

theorem sRulesReply {Azs : Option Addr} {czs : Nat} (zs : List (List UInt8 × Int × Bool)) (c : Int) (ak : Int) {Aaq : Option Addr} {caq : Nat} (aq : List Int) (an : List UInt8) (apt : Int) (w : World) (hzs : Sl w [] 3 Azs zs.length czs (zs.flatMap gRule)) (hzs_e : ∀ u ∈ zs, u.1.length ≤ 9223372036854775807) (haq : Sl w [] 1 Aaq aq.length caq (aq.map I)) (han_n : an.length ≤ 1099511627776) : Does Tryd.prog 21 [.slice Azs zs.length czs, .agg #[I c, I ak, .slice Aaq aq.length caq, Str an, I apt]] w (fun v w' => ∃ Ar : Option Addr, ∃ cr : Nat, v = .tuple #[.slice Ar ((ruleReply zs c ak aq an apt).1).length cr, .bool ((ruleReply zs c ak aq an apt).2)] ∧ SH w w' [] [.own Ar (((ruleReply zs c ak aq an apt).1).length) cr 3 1 (((ruleReply zs c ak aq an apt).1).map I)]) := by
 refine fn_enter (N := 35) Tryd.func21 rfl (by kernel_rfl) rfl rfl rfl ?_
 have hs0 : SH w w [] [] := SH.refl w []
 have hzs_m : zs.length ≤ 9223372036854775807 := Nat.le_trans hzs.cap hzs.capMax
 have haq_m : aq.length ≤ 9223372036854775807 := Nat.le_trans haq.cap haq.capMax
 refine sq ?_
 refine rg ?_
 refine bx (v := .agg #[I c, I ak, .slice Aaq aq.length caq, Str an, I apt]) (cs := [I c, I ak, .slice Aaq aq.length caq, Str an, I apt]) hs0 rfl rfl trivial rfl (fun b1 w1 (hs1 : SH w w1 [] [.blk b1 44 [I c, I ak, .slice Aaq aq.length caq, Str an, I apt]]) => ?_)
 refine q trivial rfl rfl (asg (v := ns) rfl) ?_
 refine q trivial rfl rfl (asg (v := .bool false) rfl) ?_
 refine nl ?_
 refine nN ?_
 refine sq ?_
 refine rg ?_
 refine q trivial rfl rfl (ldg (vs := [I c, I ak, .slice Aaq aq.length caq, Str an, I apt]) hs1 0 rfl rfl rfl rfl ag44) ?_
 refine cl trivial rfl (sRequestBytes (n := c) (ak := ak) (Aaq := Aaq) (caq := caq) (aq := aq) (an := an) (apt := apt) (w := _) (haq := (haq.up0 hs1)) (han_n := (by first | omega | (simp; done) | (simp; omega)))) ?_
 rintro _ w2 ⟨A1, c1, rfl, hs2'⟩
 have hs2 : SH w w2 [] [.blk b1 44 [I c, I ak, .slice Aaq aq.length caq, Str an, I apt], .own A1 (((reqP c ak aq an apt).1).length) c1 3 1 (((reqP c ak aq an apt).1).map I)] := hs1.call0 hs2'
 clear hs2'
 refine q trivial rfl rfl (mv (v := .tuple #[.slice A1 (((reqP c ak aq an apt).1).length) c1, .bool ((reqP c ak aq an apt).2)]) rfl) ?_
 refine q trivial rfl rfl (xt 0 (v := .slice A1 (((reqP c ak aq an apt).1).length) c1) rfl rfl) ?_
 refine q trivial rfl rfl (xt 1 (v := .bool ((reqP c ak aq an apt).2)) rfl rfl) ?_
 refine q trivial rfl rfl (asg (v := .slice A1 (((reqP c ak aq an apt).1).length) c1) rfl) ?_
 refine q trivial rfl rfl (asg (v := .bool ((reqP c ak aq an apt).2)) rfl) ?_
 refine nl ?_
 refine nN ?_
 refine sq ?_
 refine sq ?_
 refine rg ?_
 refine q trivial rfl rfl (mv (v := .slice Azs zs.length czs) rfl) ?_
 refine cl trivial rfl (sRulesValid (Azs := Azs) (czs := czs) (zs := zs) (w := _) (hzs := (hzs.up0 hs2)) (hzs_e := hzs_e)) ?_
 rintro _ w3 ⟨rfl, hs3'⟩
 have hs3 : SH w w3 [] [.blk b1 44 [I c, I ak, .slice Aaq aq.length caq, Str an, I apt], .own A1 (((reqP c ak aq an apt).1).length) c1 3 1 (((reqP c ak aq an apt).1).map I)] := hs2.call0 hs3'
 clear hs3'
 refine q trivial rfl rfl (nt (b := rulesOk zs) rfl) ?_
 refine q trivial rfl rfl (mv (v := .bool (!(rulesOk zs))) rfl) ?_
 refine spl (b := !(rulesOk zs)) 16 rfl (fun h1 => ?_) (fun h1 => ?_)
 · have h2 : (rulesOk zs) = false := by simpa using h1
   refine gk true rfl rfl rfl rfl rfl ?_
   refine gk true rfl rfl rfl rfl rfl ?_
   refine q trivial rfl rfl (pt (v := .bool true) rfl rfl) ?_
   refine nl ?_
   refine nN ?_
   refine cdt rfl ?_
   refine sq ?_
   refine rg ?_
   refine bsk hs3 sl23 [] [] trivial rfl (fun b2 w4 (hs4 : SH w w4 [] [.blk b1 44 [I c, I ak, .slice Aaq aq.length caq, Str an, I apt], .own A1 (((reqP c ak aq an apt).1).length) c1 3 1 (((reqP c ak aq an apt).1).map I), oI b2 ([] : List Int) 0 3]) => ?_)
   refine q trivial rfl rfl (asg (v := sb b2 (([] : List Int).length) 0) rfl) ?_
   refine q trivial rfl rfl (asg (v := .bool false) rfl) ?_
   refine nl ?_
   refine nN ?_
   refine rt (tR ?_)
   refine fret (v := .tuple #[sb b2 (([] : List Int).length) 0, .bool false]) (.tmp (.tmp .nil)) rfl ?_
   have e1 : ruleReply zs c ak aq an apt = (([] : List Int), false) := by first | (simp [ruleReply, h2]; done) | (have hra := reqOk_addr (by assumption : reqOk c ak aq an apt = true); have hrr := rulesAllow_ok (by assumption : rulesOk zs = true) hra; simp [ruleReply, hrr, h2]; done) | (have hrq := (reqP_2 c ak aq an apt).symm.trans (by assumption); simp [ruleReply, hrq, h2]; done)
   have e2 : ([] : List Int) = (ruleReply zs c ak aq an apt).1 := by rw [e1]
   have e3 : ([] : List Int).length = ((ruleReply zs c ak aq an apt).1).length := by exact congrArg List.length e2
   have e4 : false = (ruleReply zs c ak aq an apt).2 := by rw [e1]
   exact ⟨(some ⟨b2, 0, none⟩), 0, (tup2 (slv rfl e3 rfl) (congrArg (Value.bool) e4)), ((hs4.pick [2] rfl (by decide)).cast (lc (own_eq (g := I) rfl e3 rfl e2) rfl))⟩
 · have h3 : (rulesOk zs) = true := by simpa using h1
   refine q ⟨_, rfl, rfl⟩ rfl rfl (mv (v := .bool ((reqP c ak aq an apt).2)) rfl) ?_
   refine q ⟨_, rfl, rfl⟩ rfl rfl (nt (b := (reqP c ak aq an apt).2) rfl) ?_
   refine q trivial rfl rfl (pf (v := .bool (!((reqP c ak aq an apt).2))) rfl rfl) ?_
   refine nl ?_
   refine nN ?_
   refine cd (b := !((reqP c ak aq an apt).2)) rfl (fun h4 => ?_) (fun h4 => ?_)
   · have h5 : ((reqP c ak aq an apt).2) = false := by simpa using h4
     refine sq ?_
     refine rg ?_
     refine bsk hs3 sl23 [] [] trivial rfl (fun b3 w5 (hs5 : SH w w5 [] [.blk b1 44 [I c, I ak, .slice Aaq aq.length caq, Str an, I apt], .own A1 (((reqP c ak aq an apt).1).length) c1 3 1 (((reqP c ak aq an apt).1).map I), oI b3 ([] : List Int) 0 3]) => ?_)
     refine q trivial rfl rfl (asg (v := sb b3 (([] : List Int).length) 0) rfl) ?_
     refine q trivial rfl rfl (asg (v := .bool false) rfl) ?_
     refine nl ?_
     refine nN ?_
     refine rt (tR ?_)
     refine fret (v := .tuple #[sb b3 (([] : List Int).length) 0, .bool false]) (.tmp (.tmp .nil)) rfl ?_
     have e5 : ruleReply zs c ak aq an apt = (([] : List Int), false) := by first | (simp [ruleReply, h3, h5]; done) | (have hra := reqOk_addr (by assumption : reqOk c ak aq an apt = true); have hrr := rulesAllow_ok (by assumption : rulesOk zs = true) hra; simp [ruleReply, hrr, h3, h5]; done) | (have hrq := (reqP_2 c ak aq an apt).symm.trans (by assumption); simp [ruleReply, hrq, h3, h5]; done)
     have e6 : ([] : List Int) = (ruleReply zs c ak aq an apt).1 := by rw [e5]
     have e7 : ([] : List Int).length = ((ruleReply zs c ak aq an apt).1).length := by exact congrArg List.length e6
     have e8 : false = (ruleReply zs c ak aq an apt).2 := by rw [e5]
     exact ⟨(some ⟨b3, 0, none⟩), 0, (tup2 (slv rfl e7 rfl) (congrArg (Value.bool) e8)), ((hs5.pick [2] rfl (by decide)).cast (lc (own_eq (g := I) rfl e7 rfl e6) rfl))⟩
   · have h6 : ((reqP c ak aq an apt).2) = true := by simpa using h4
     refine sk ?_
     refine nN ?_
     refine sq ?_
     refine sq ?_
     refine rg ?_
     refine q trivial rfl rfl (mv (v := .slice Azs zs.length czs) rfl) ?_
     refine q trivial rfl rfl (fa 1 fo44_1 rfl) ?_
     refine q trivial rfl rfl (ldg (vs := [I ak, .slice Aaq aq.length caq, Str an, I apt]) hs3 0 rfl rfl rfl rfl ag25) ?_
     refine cl trivial rfl (sRulesAllow (Azs := Azs) (czs := czs) (zs := zs) (ak := ak) (Aaq := Aaq) (caq := caq) (aq := aq) (an := an) (apt := apt) (w := _) (hzs := (hzs.up0 hs3)) (hzs_e := hzs_e) (haq := (haq.up0 hs3)) (han_n := (by first | omega | (simp; done) | (simp; omega)))) ?_
     rintro _ w6 ⟨rfl, hs6'⟩
     have hs6 : SH w w6 [] [.blk b1 44 [I c, I ak, .slice Aaq aq.length caq, Str an, I apt], .own A1 (((reqP c ak aq an apt).1).length) c1 3 1 (((reqP c ak aq an apt).1).map I)] := hs3.call0 hs6'
     clear hs6'
     refine nl ?_
     refine nN ?_
     refine cd (b := rulesAllow zs ak aq an apt) rfl (fun h7 => ?_) (fun h7 => ?_)
     · refine sq ?_
       refine rg ?_
       refine q trivial rfl rfl (fa 1 fo44_1 rfl) ?_
       refine q trivial rfl rfl (ldg (vs := [I ak, .slice Aaq aq.length caq, Str an, I apt]) hs6 0 rfl rfl rfl rfl ag25) ?_
       refine cl trivial rfl (sReplyBytes (c := 0) (ak := ak) (Aaq := Aaq) (caq := caq) (aq := aq) (an := an) (apt := apt) (w := _) (haq := (haq.up0 hs6)) (han_n := (by first | omega | (simp; done) | (simp; omega)))) ?_
       rintro _ w7 ⟨A2, c2, rfl, hs7'⟩
       have hs7 : SH w w7 [] [.blk b1 44 [I c, I ak, .slice Aaq aq.length caq, Str an, I apt], .own A1 (((reqP c ak aq an apt).1).length) c1 3 1 (((reqP c ak aq an apt).1).map I), .own A2 (((replyP 0 ak aq an apt).1).length) c2 3 1 (((replyP 0 ak aq an apt).1).map I)] := hs6.call0 hs7'
       clear hs7'
       refine q trivial rfl rfl (xt 0 (v := .slice A2 (((replyP 0 ak aq an apt).1).length) c2) rfl rfl) ?_
       refine q trivial rfl rfl (xt 1 (v := .bool ((replyP 0 ak aq an apt).2)) rfl rfl) ?_
       refine q trivial rfl rfl (asg (v := .slice A2 (((replyP 0 ak aq an apt).1).length) c2) rfl) ?_
       refine q trivial rfl rfl (asg (v := .bool ((replyP 0 ak aq an apt).2)) rfl) ?_
       refine nl ?_
       refine nN ?_
       refine rt (tR ?_)
       refine fret (v := .tuple #[.slice A2 (((replyP 0 ak aq an apt).1).length) c2, .bool ((replyP 0 ak aq an apt).2)]) (.tmp (.tmp .nil)) rfl ?_
       have e9 : ruleReply zs c ak aq an apt = ((replyP 0 ak aq an apt).1, ((replyP 0 ak aq an apt).2)) := by first | (simp [ruleReply, h3, h6, h7]; done) | (have hra := reqOk_addr (by assumption : reqOk c ak aq an apt = true); have hrr := rulesAllow_ok (by assumption : rulesOk zs = true) hra; simp [ruleReply, hrr, h3, h6, h7]; done) | (have hrq := (reqP_2 c ak aq an apt).symm.trans (by assumption); simp [ruleReply, hrq, h3, h6, h7]; done)
       have e10 : (replyP 0 ak aq an apt).1 = (ruleReply zs c ak aq an apt).1 := by rw [e9]
       have e11 : ((replyP 0 ak aq an apt).1).length = ((ruleReply zs c ak aq an apt).1).length := by exact congrArg List.length e10
       have e12 : ((replyP 0 ak aq an apt).2) = (ruleReply zs c ak aq an apt).2 := by rw [e9]
       exact ⟨A2, c2, (tup2 (slv rfl e11 rfl) (congrArg (Value.bool) e12)), ((hs7.pick [2] rfl (by decide)).cast (lc (own_eq (g := I) rfl e11 rfl e10) rfl))⟩
     · refine sk ?_
       refine nN ?_
       refine sq ?_
       refine rg ?_
       refine q trivial rfl rfl (fa 1 fo44_1 rfl) ?_
       refine q trivial rfl rfl (ldg (vs := [I ak, .slice Aaq aq.length caq, Str an, I apt]) hs6 0 rfl rfl rfl rfl ag25) ?_
       refine cl trivial rfl (sReplyBytes (c := 2) (ak := ak) (Aaq := Aaq) (caq := caq) (aq := aq) (an := an) (apt := apt) (w := _) (haq := (haq.up0 hs6)) (han_n := (by first | omega | (simp; done) | (simp; omega)))) ?_
       rintro _ w8 ⟨A3, c3, rfl, hs8'⟩
       have hs8 : SH w w8 [] [.blk b1 44 [I c, I ak, .slice Aaq aq.length caq, Str an, I apt], .own A1 (((reqP c ak aq an apt).1).length) c1 3 1 (((reqP c ak aq an apt).1).map I), .own A3 (((replyP 2 ak aq an apt).1).length) c3 3 1 (((replyP 2 ak aq an apt).1).map I)] := hs6.call0 hs8'
       clear hs8'
       refine q trivial rfl rfl (xt 0 (v := .slice A3 (((replyP 2 ak aq an apt).1).length) c3) rfl rfl) ?_
       refine q trivial rfl rfl (xt 1 (v := .bool ((replyP 2 ak aq an apt).2)) rfl rfl) ?_
       refine q trivial rfl rfl (asg (v := .slice A3 (((replyP 2 ak aq an apt).1).length) c3) rfl) ?_
       refine q trivial rfl rfl (asg (v := .bool ((replyP 2 ak aq an apt).2)) rfl) ?_
       refine nl ?_
       refine nN ?_
       refine rt ?_
       refine fret (v := .tuple #[.slice A3 (((replyP 2 ak aq an apt).1).length) c3, .bool ((replyP 2 ak aq an apt).2)]) (.tmp (.tmp .nil)) rfl ?_
       have e13 : ruleReply zs c ak aq an apt = ((replyP 2 ak aq an apt).1, ((replyP 2 ak aq an apt).2)) := by first | (simp [ruleReply, h3, h6, h7]; done) | (have hra := reqOk_addr (by assumption : reqOk c ak aq an apt = true); have hrr := rulesAllow_ok (by assumption : rulesOk zs = true) hra; simp [ruleReply, hrr, h3, h6, h7]; done) | (have hrq := (reqP_2 c ak aq an apt).symm.trans (by assumption); simp [ruleReply, hrq, h3, h6, h7]; done)
       have e14 : (replyP 2 ak aq an apt).1 = (ruleReply zs c ak aq an apt).1 := by rw [e13]
       have e15 : ((replyP 2 ak aq an apt).1).length = ((ruleReply zs c ak aq an apt).1).length := by exact congrArg List.length e14
       have e16 : ((replyP 2 ak aq an apt).2) = (ruleReply zs c ak aq an apt).2 := by rw [e13]
       exact ⟨A3, c3, (tup2 (slv rfl e15 rfl) (congrArg (Value.bool) e16)), ((hs8.pick [2] rfl (by decide)).cast (lc (own_eq (g := I) rfl e15 rfl e14) rfl))⟩

theorem iCountSize (ak : Int) {Aaq : Option Addr} {caq : Nat} (aq : List Int) (an : List UInt8) (apt : Int) (w : World) (haq : Sl w [] 1 Aaq aq.length caq (aq.map I)) (han_n : an.length ≤ 1099511627776) (hGp : Lib.TabIs Tryd.prog w "internal/strconv.uint64pow10" .u64 Lib.pow10Tab) : Does Tryd.prog 10 [.agg #[I ak, .slice Aaq aq.length caq, Str an, I apt]] w (fun v w' => v = .tuple #[.int .i64 (((sizeP ak aq an apt).1 : Nat) : Int), .int .i64 (((sizeP ak aq an apt).2.1 : Nat) : Int), .int .i64 (((sizeP ak aq an apt).2.2 : Nat) : Int)] ∧ SH w w' [] []) := by
 refine fn_enter (N := 28) Tryd.func10 rfl (by kernel_rfl) rfl rfl rfl ?_
 have hs0 : SH w w [] [] := SH.refl w []
 have haq_m : aq.length ≤ 9223372036854775807 := Nat.le_trans haq.cap haq.capMax
 refine sq ?_
 refine rg ?_
 refine bx (v := .agg #[I ak, .slice Aaq aq.length caq, Str an, I apt]) (cs := [I ak, .slice Aaq aq.length caq, Str an, I apt]) hs0 rfl rfl trivial rfl (fun b1 w1 (hs1 : SH w w1 [] [.blk b1 25 [I ak, .slice Aaq aq.length caq, Str an, I apt]]) => ?_)
 refine q trivial rfl rfl (asg (v := I 0) rfl) ?_
 refine q trivial rfl rfl (asg (v := I 0) rfl) ?_
 refine q trivial rfl rfl (asg (v := I 0) rfl) ?_
 refine nl ?_
 refine nN ?_
 refine sq ?_
 refine rg ?_
 refine q trivial rfl rfl (ldg (vs := [I ak, .slice Aaq aq.length caq, Str an, I apt]) hs1 0 rfl rfl rfl rfl ag25) ?_
 refine q trivial rfl rfl (bdv (v := .agg #[I 1, I ak, .slice Aaq aq.length caq, Str an, I apt, Str []]) [(0, I 1), (1, .agg #[I ak, .slice Aaq aq.length caq, Str an, I apt])] rfl (fun _ => by kernel_rfl)) ?_
 refine cl trivial rfl (iOldBytes (c := 1) (ak := ak) (Aaq := Aaq) (caq := caq) (aq := aq) (an := an) (apt := apt) (us := []) (w := _) (haq := (haq.up0 hs1)) (han_n := (by first | omega | (simp; done) | (simp; omega))) (hus_n := (by first | omega | (simp; done) | (simp; omega)))) ?_
 rintro _ w2 ⟨A1, c1, rfl, hs2'⟩
 have hs2 : SH w w2 [] [.blk b1 25 [I ak, .slice Aaq aq.length caq, Str an, I apt], .own A1 (((oldP 1 ak aq an apt []).1).length) c1 3 1 (((oldP 1 ak aq an apt []).1).map I)] := hs1.call0 hs2'
 clear hs2'
 refine q trivial rfl rfl (mv (v := .tuple #[.slice A1 (((oldP 1 ak aq an apt []).1).length) c1, .bool ((oldP 1 ak aq an apt []).2)]) rfl) ?_
 refine q trivial rfl rfl (xt 0 (v := .slice A1 (((oldP 1 ak aq an apt []).1).length) c1) rfl rfl) ?_
 refine q trivial rfl rfl (xt 1 (v := .bool ((oldP 1 ak aq an apt []).2)) rfl rfl) ?_
 refine q trivial rfl rfl (asg (v := .slice A1 (((oldP 1 ak aq an apt []).1).length) c1) rfl) ?_
 refine q trivial rfl rfl (asg (v := .bool ((oldP 1 ak aq an apt []).2)) rfl) ?_
 refine nl ?_
 refine nN ?_
 refine sq ?_
 refine rg ?_
 refine q trivial rfl rfl (ldg (vs := [I ak, .slice Aaq aq.length caq, Str an, I apt]) hs2 0 rfl rfl rfl rfl ag25) ?_
 refine q trivial rfl rfl (bdv (v := .agg #[I 1, I ak, .slice Aaq aq.length caq, Str an, I apt]) [(0, I 1), (1, .agg #[I ak, .slice Aaq aq.length caq, Str an, I apt])] rfl (fun _ => by kernel_rfl)) ?_
 refine cl trivial rfl (iRequestBytes (n := 1) (ak := ak) (Aaq := Aaq) (caq := caq) (aq := aq) (an := an) (apt := apt) (w := _) (haq := (haq.up0 hs2)) (han_n := (by first | omega | (simp; done) | (simp; omega)))) ?_
 rintro _ w3 ⟨A2, c2, rfl, hs3'⟩
 have hs3 : SH w w3 [] [.blk b1 25 [I ak, .slice Aaq aq.length caq, Str an, I apt], .own A1 (((oldP 1 ak aq an apt []).1).length) c1 3 1 (((oldP 1 ak aq an apt []).1).map I), .own A2 (((reqP 1 ak aq an apt).1).length) c2 3 1 (((reqP 1 ak aq an apt).1).map I)] := hs2.call0 hs3'
 clear hs3'
 refine q trivial rfl rfl (mv (v := .tuple #[.slice A2 (((reqP 1 ak aq an apt).1).length) c2, .bool ((reqP 1 ak aq an apt).2)]) rfl) ?_
 refine q trivial rfl rfl (xt 0 (v := .slice A2 (((reqP 1 ak aq an apt).1).length) c2) rfl rfl) ?_
 refine q trivial rfl rfl (xt 1 (v := .bool ((reqP 1 ak aq an apt).2)) rfl rfl) ?_
 refine q trivial rfl rfl (asg (v := .slice A2 (((reqP 1 ak aq an apt).1).length) c2) rfl) ?_
 refine q trivial rfl rfl (asg (v := .bool ((reqP 1 ak aq an apt).2)) rfl) ?_
 refine nl ?_
 refine nN ?_
 refine sq ?_
 refine rg ?_
 refine q trivial rfl rfl (mv (v := .slice A1 (((oldP 1 ak aq an apt []).1).length) c1) rfl) ?_
 refine q trivial rfl rfl (lnA (n := ((oldP 1 ak aq an apt []).1).length) sl23 rfl) ?_
 refine q trivial rfl rfl (mv (v := .slice A2 (((reqP 1 ak aq an apt).1).length) c2) rfl) ?_
 refine q trivial rfl rfl (lnA (n := ((reqP 1 ak aq an apt).1).length) sl23 rfl) ?_
 refine q trivial rfl rfl (ldg (vs := [I ak, .slice Aaq aq.length caq, Str an, I apt]) hs3 0 rfl rfl rfl rfl ag25) ?_
 refine cl trivial rfl (iConnectText (ak := ak) (Aaq := Aaq) (caq := caq) (aq := aq) (an := an) (apt := apt) (w := _) (haq := (haq.up0 hs3)) (han_n := (by first | omega | (simp; done) | (simp; omega))) (hGp := (tab_up hGp hs3))) ?_
 rintro _ w4 ⟨rfl, hs4'⟩
 have hs4 : SH w w4 [] [.blk b1 25 [I ak, .slice Aaq aq.length caq, Str an, I apt], .own A1 (((oldP 1 ak aq an apt []).1).length) c1 3 1 (((oldP 1 ak aq an apt []).1).map I), .own A2 (((reqP 1 ak aq an apt).1).length) c2 3 1 (((reqP 1 ak aq an apt).1).map I)] := hs3.call0 hs4'
 clear hs4'
 refine q trivial rfl rfl (lnS (l := connT ak aq an apt) st9 rfl) ?_
 refine q trivial rfl rfl (asg (v := I ((((oldP 1 ak aq an apt []).1).length : Nat) : Int)) rfl) ?_
 refine q trivial rfl rfl (asg (v := I ((((reqP 1 ak aq an apt).1).length : Nat) : Int)) rfl) ?_
 refine q trivial rfl rfl (asg (v := I (((connT ak aq an apt).length : Nat) : Int)) rfl) ?_
 refine nl ?_
 refine nN ?_
 refine rt ?_
 refine fret (v := .tuple #[I ((((oldP 1 ak aq an apt []).1).length : Nat) : Int), I ((((reqP 1 ak aq an apt).1).length : Nat) : Int), I (((connT ak aq an apt).length : Nat) : Int)]) (.tmp (.tmp (.tmp .nil))) rfl ?_
 have e1 : ((((oldP 1 ak aq an apt []).1).length : Nat) : Int) = (((sizeP ak aq an apt).1 : Nat) : Int) := by rfl
 have e2 : ((((reqP 1 ak aq an apt).1).length : Nat) : Int) = (((sizeP ak aq an apt).2.1 : Nat) : Int) := by rfl
 have e3 : (((connT ak aq an apt).length : Nat) : Int) = (((sizeP ak aq an apt).2.2 : Nat) : Int) := by rfl
 exact ⟨(tup3 (congrArg (Value.int .i64) e1) (congrArg (Value.int .i64) e2) (congrArg (Value.int .i64) e3)), (hs4.pick [] rfl (by decide))⟩

set_option maxHeartbeats 8000000 in
theorem sCountSize (ak : Int) {Aaq : Option Addr} {caq : Nat} (aq : List Int) (an : List UInt8) (apt : Int) (w : World) (haq : Sl w [] 1 Aaq aq.length caq (aq.map I)) (han_n : an.length ≤ 1099511627776) : Does Tryd.prog 11 [.agg #[I ak, .slice Aaq aq.length caq, Str an, I apt]] w (fun v w' => v = .tuple #[.int .i64 (((sizeP ak aq an apt).1 : Nat) : Int), .int .i64 (((sizeP ak aq an apt).2.1 : Nat) : Int), .int .i64 (((sizeP ak aq an apt).2.2 : Nat) : Int)] ∧ SH w w' [] []) := by
 refine fn_enter (N := 24) Tryd.func11 rfl (by kernel_rfl) rfl rfl rfl ?_
 have hs0 : SH w w [] [] := SH.refl w []
 have haq_m : aq.length ≤ 9223372036854775807 := Nat.le_trans haq.cap haq.capMax
 refine sq ?_
 refine rg ?_
 refine bx (v := .agg #[I ak, .slice Aaq aq.length caq, Str an, I apt]) (cs := [I ak, .slice Aaq aq.length caq, Str an, I apt]) hs0 rfl rfl trivial rfl (fun b1 w1 (hs1 : SH w w1 [] [.blk b1 25 [I ak, .slice Aaq aq.length caq, Str an, I apt]]) => ?_)
 refine q trivial rfl rfl (asg (v := I 0) rfl) ?_
 refine q trivial rfl rfl (asg (v := I 0) rfl) ?_
 refine q trivial rfl rfl (asg (v := I 0) rfl) ?_
 refine nl ?_
 refine nN ?_
 refine sq ?_
 refine sq ?_
 refine rg ?_
 refine q trivial rfl rfl (ldg (vs := [I ak, .slice Aaq aq.length caq, Str an, I apt]) hs1 0 rfl rfl rfl rfl ag25) ?_
 refine cl trivial rfl (sAddressValid (ak := ak) (Aaq := Aaq) (caq := caq) (aq := aq) (an := an) (apt := apt) (w := _) (haq := (haq.up0 hs1)) (han_n := (by first | omega | (simp; done) | (simp; omega)))) ?_
 rintro _ w2 ⟨rfl, hs2'⟩
 have hs2 : SH w w2 [] [.blk b1 25 [I ak, .slice Aaq aq.length caq, Str an, I apt]] := hs1.call0 hs2'
 clear hs2'
 refine q trivial rfl rfl (nt (b := addrOk ak aq an apt) rfl) ?_
 refine nl ?_
 refine nN ?_
 refine cd (b := !(addrOk ak aq an apt)) rfl (fun h1 => ?_) (fun h1 => ?_)
 · have h2 : (addrOk ak aq an apt) = false := by simpa using h1
   refine sq ?_
   refine rg ?_
   refine q trivial rfl rfl (asg (v := I 0) rfl) ?_
   refine q trivial rfl rfl (asg (v := I 0) rfl) ?_
   refine q trivial rfl rfl (asg (v := I 0) rfl) ?_
   refine nl ?_
   refine nN ?_
   refine rt (tR ?_)
   refine fret (v := .tuple #[I 0, I 0, I 0]) (.tmp (.tmp (.tmp .nil))) rfl ?_
   have e1 : 0 = (((sizeP ak aq an apt).1 : Nat) : Int) := by first | rfl | (have hx := size_no (by assumption : addrOk ak aq an apt = false); simp [sizeP, hx]; done) | (simp [sizeP, req_len (by assumption : addrOk ak aq an apt = true)]; omega)
   have e2 : 0 = (((sizeP ak aq an apt).2.1 : Nat) : Int) := by first | rfl | (have hx := size_no (by assumption : addrOk ak aq an apt = false); simp [sizeP, hx]; done) | (simp [sizeP, req_len (by assumption : addrOk ak aq an apt = true)]; omega)
   have e3 : 0 = (((sizeP ak aq an apt).2.2 : Nat) : Int) := by first | rfl | (have hx := size_no (by assumption : addrOk ak aq an apt = false); simp [sizeP, hx]; done) | (simp [sizeP, req_len (by assumption : addrOk ak aq an apt = true)]; omega)
   exact ⟨(tup3 (congrArg (Value.int .i64) e1) (congrArg (Value.int .i64) e2) (congrArg (Value.int .i64) e3)), (hs2.pick [] rfl (by decide))⟩
 · have h3 : (addrOk ak aq an apt) = true := by simpa using h1
   refine sk ?_
   refine nN ?_
   refine sq ?_
   refine rg ?_
   refine q trivial rfl rfl (ldg (vs := [I ak, .slice Aaq aq.length caq, Str an, I apt]) hs2 0 rfl rfl rfl rfl ag25) ?_
   refine q trivial rfl rfl (bdv (v := .agg #[I 1, I ak, .slice Aaq aq.length caq, Str an, I apt, Str []]) [(0, I 1), (1, .agg #[I ak, .slice Aaq aq.length caq, Str an, I apt])] rfl (fun _ => by kernel_rfl)) ?_
   refine cl trivial rfl (sOldBytes (c := 1) (ak := ak) (Aaq := Aaq) (caq := caq) (aq := aq) (an := an) (apt := apt) (us := []) (w := _) (haq := (haq.up0 hs2)) (han_n := (by first | omega | (simp; done) | (simp; omega))) (hus_n := (by first | omega | (simp; done) | (simp; omega)))) ?_
   rintro _ w3 ⟨A1, c1, rfl, hs3'⟩
   have hs3 : SH w w3 [] [.blk b1 25 [I ak, .slice Aaq aq.length caq, Str an, I apt], .own A1 (((oldP 1 ak aq an apt []).1).length) c1 3 1 (((oldP 1 ak aq an apt []).1).map I)] := hs2.call0 hs3'
   clear hs3'
   refine q trivial rfl rfl (mv (v := .tuple #[.slice A1 (((oldP 1 ak aq an apt []).1).length) c1, .bool ((oldP 1 ak aq an apt []).2)]) rfl) ?_
   refine q trivial rfl rfl (xt 0 (v := .slice A1 (((oldP 1 ak aq an apt []).1).length) c1) rfl rfl) ?_
   refine q trivial rfl rfl (xt 1 (v := .bool ((oldP 1 ak aq an apt []).2)) rfl rfl) ?_
   refine q trivial rfl rfl (asg (v := .slice A1 (((oldP 1 ak aq an apt []).1).length) c1) rfl) ?_
   refine q trivial rfl rfl (asg (v := .bool ((oldP 1 ak aq an apt []).2)) rfl) ?_
   refine nl ?_
   refine nN ?_
   refine sq ?_
   refine raJ (fun w' => ∃ L, SH w w' [] L ∧ (.blk b1 25 [I ak, .slice Aaq aq.length caq, Str an, I apt]) ∈ L ∧ True) (fun f w' => ∃ (A3' : Option Addr) (c3' : Nat), Has f [(2, I ((((oldP 1 ak aq an apt []).1).length : Nat) : Int)), (3, I ((([5, 1, 0] ++ addrB ak aq an apt).length : Nat) : Int)), (4, I (((connT ak aq an apt).length : Nat) : Int))] ∧ SH w w' [] [.blk b1 25 [I ak, .slice Aaq aq.length caq, Str an, I apt], .own A1 (((oldP 1 ak aq an apt []).1).length) c1 3 1 (((oldP 1 ak aq an apt []).1).map I), .own A3' (([5, 1, 0] ++ addrB ak aq an apt).length) c3' 3 1 (([5, 1, 0] ++ addrB ak aq an apt).map I)]) mixed ?_ ?_
   · refine dag (fuel' := 5) (listed' := lbits 11 63) (fun f w' => ∃ (A3' : Option Addr) (c3' : Nat), Has f [(2, I 0), (3, I 0), (4, I 0), (17, I ((((oldP 1 ak aq an apt []).1).length : Nat) : Int)), (20, I ((([5, 1, 0] ++ addrB ak aq an apt).length : Nat) : Int)), (21, .agg #[I ak, .slice Aaq aq.length caq, Str an, I apt])] ∧ SH w w' [] [.blk b1 25 [I ak, .slice Aaq aq.length caq, Str an, I apt], .own A1 (((oldP 1 ak aq an apt []).1).length) c1 3 1 (((oldP 1 ak aq an apt []).1).map I), .own A3' (([5, 1, 0] ++ addrB ak aq an apt).length) c3' 3 1 (([5, 1, 0] ++ addrB ak aq an apt).map I)]) ?_ (fun D_4_0 => ?_)
     · rintro f w4 ⟨A3', c3', hf, hs4⟩
       obtain ⟨g1, rfl⟩ := has_upd hf
       clear hf
       refine aaL [6] (fa_one ?_)
       refine one_ rfl ?_
       refine cl trivial rfl (sConnectText (ak := ak) (Aaq := Aaq) (caq := caq) (aq := aq) (an := an) (apt := apt) (w := _) (haq := (haq.up0 hs4)) (han_n := (by first | omega | (simp; done) | (simp; omega)))) ?_
       rintro _ w5 ⟨rfl, hs5'⟩
       have hs5 := hs4.call0 hs5'
       clear hs5'
       refine nl (kq ⟨_, hs5, memi 0 rfl, trivial⟩ ?_)
       refine tk (fuel := 0) (is := [7, 8, 9, 10]) (.cons rfl (.cons rfl (.cons rfl (.cons rfl (.nil))))) (by kernel_rfl) (by kernel_rfl) ⟨_, hs5, memi 0 rfl, trivial⟩ ?_
       refine .op trivial rfl rfl (fun wq _ => lnS (l := connT ak aq an apt) st9 rfl) ?_
       refine .op trivial rfl rfl (fun wq _ => asg (v := I ((((oldP 1 ak aq an apt []).1).length : Nat) : Int)) rfl) ?_
       refine .op trivial rfl rfl (fun wq _ => asg (v := I ((([5, 1, 0] ++ addrB ak aq an apt).length : Nat) : Int)) rfl) ?_
       refine .op trivial rfl rfl (fun wq _ => asg (v := I (((connT ak aq an apt).length : Nat) : Int)) rfl) ?_
       refine .nil ?_
       refine ad (by kernel_rfl) ?_
       exact ⟨A3', c3', ⟨rfl, rfl, rfl, trivial⟩, hs5⟩
     refine dag (fuel' := 7) (listed' := lbits 11 39) (fun f w' => Has f [(2, I 0), (3, I 0), (4, I 0), (17, I ((((oldP 1 ak aq an apt []).1).length : Nat) : Int)), (18, .agg #[I ak, .slice Aaq aq.length caq, Str an, I apt]), (21, .agg #[I ak, .slice Aaq aq.length caq, Str an, I apt])] ∧ SH w w' [] [.blk b1 25 [I ak, .slice Aaq aq.length caq, Str an, I apt], .own A1 (((oldP 1 ak aq an apt []).1).length) c1 3 1 (((oldP 1 ak aq an apt []).1).map I)]) ?_ (fun D_4_1 => ?_)
     · rintro f w6 ⟨hf, hs6⟩
       obtain ⟨g2, rfl⟩ := has_upd hf
       clear hf
       refine aaL [3] (fa_one ?_)
       refine one_ rfl ?_
       refine cl trivial rfl (sL12Bytes (n := 1) (ak := ak) (Aaq := Aaq) (caq := caq) (aq := aq) (an := an) (apt := apt) (w := _) (haq := (haq.up0 hs6)) (han_n := (by first | omega | (simp; done) | (simp; omega))) (hok := (by first | omega | assumption | (simp; done) | (simp; omega)))) ?_
       rintro _ w7 ⟨A3', c3', rfl, hs7'⟩
       have hs7 := hs6.call0 hs7'
       clear hs7'
       refine nl (kq ⟨_, hs7, memi 0 rfl, trivial⟩ ?_)
       refine tk (fuel := 5) (is := [4]) (.cons rfl (.nil)) (by kernel_rfl) (by kernel_rfl) ⟨_, hs7, memi 0 rfl, trivial⟩ ?_
       refine .op trivial rfl rfl (fun wq _ => lnA (n := ([5, 1, 0] ++ addrB ak aq an apt).length) sl23 rfl) ?_
       refine .nil ?_
       exact alc D_4_0 ⟨A3', c3', ⟨rfl, rfl, rfl, rfl, rfl, rfl, trivial⟩, hs7⟩
     have hs8 := hs3.drew
     refine tk (fuel := 7) (is := [0, 1, 2, 5]) (.cons rfl (.cons rfl (.cons rfl (.cons rfl (.nil))))) (by kernel_rfl) (by kernel_rfl) ⟨_, hs8, memi 0 rfl, trivial⟩ ?_
     refine .op trivial rfl rfl (fun wq _ => mv (v := .slice A1 (((oldP 1 ak aq an apt []).1).length) c1) rfl) ?_
     refine .op trivial rfl rfl (fun wq _ => lnA (n := ((oldP 1 ak aq an apt []).1).length) sl23 rfl) ?_
     refine .op trivial rfl rfl (fun wq ⟨Lq, hsq, mh0, _⟩ => ldgm (vs := [I ak, .slice Aaq aq.length caq, Str an, I apt]) hsq mh0 rfl rfl rfl ag25) ?_
     refine .op trivial rfl rfl (fun wq ⟨Lq, hsq, mh0, _⟩ => ldgm (vs := [I ak, .slice Aaq aq.length caq, Str an, I apt]) hsq mh0 rfl rfl rfl ag25) ?_
     refine .nil ?_
     exact alc D_4_1 ⟨⟨rfl, rfl, rfl, rfl, rfl, rfl, trivial⟩, hs8⟩
   rintro f w8 ⟨A3', c3', hf, hs9⟩
   obtain ⟨g3, rfl⟩ := has_upd hf
   clear hf
   refine nN ?_
   refine rt ?_
   refine fret (v := .tuple #[I ((((oldP 1 ak aq an apt []).1).length : Nat) : Int), I ((([5, 1, 0] ++ addrB ak aq an apt).length : Nat) : Int), I (((connT ak aq an apt).length : Nat) : Int)]) (.tmp (.tmp (.tmp .nil))) rfl ?_
   have e4 : ((((oldP 1 ak aq an apt []).1).length : Nat) : Int) = (((sizeP ak aq an apt).1 : Nat) : Int) := by first | rfl | (have hx := size_no (by assumption : addrOk ak aq an apt = false); simp [sizeP, hx]; done) | (simp [sizeP, req_len (by assumption : addrOk ak aq an apt = true)]; omega)
   have e5 : ((([5, 1, 0] ++ addrB ak aq an apt).length : Nat) : Int) = (((sizeP ak aq an apt).2.1 : Nat) : Int) := by first | rfl | (have hx := size_no (by assumption : addrOk ak aq an apt = false); simp [sizeP, hx]; done) | (simp [sizeP, req_len (by assumption : addrOk ak aq an apt = true)]; omega)
   have e6 : (((connT ak aq an apt).length : Nat) : Int) = (((sizeP ak aq an apt).2.2 : Nat) : Int) := by first | rfl | (have hx := size_no (by assumption : addrOk ak aq an apt = false); simp [sizeP, hx]; done) | (simp [sizeP, req_len (by assumption : addrOk ak aq an apt = true)]; omega)
   exact ⟨(tup3 (congrArg (Value.int .i64) e4) (congrArg (Value.int .i64) e5) (congrArg (Value.int .i64) e6)), (hs9.pick [] rfl (by decide))⟩

theorem drawCountSize {Acs : Option Addr} {ccs : Nat} (cs : List UInt8) (w : World) (hcs : Sl w [] 1 Acs cs.length ccs (cs.map U)) : Does Tryd.prog 9 [.slice Acs cs.length ccs] w (fun v w' => ∃ Aqr : Option Addr, ∃ cqr : Nat, ∃ ak : Int, ∃ aq : List Int, ∃ an : List UInt8, ∃ apt : Int, v = .agg #[.int .i64 ak, .slice Aqr aq.length cqr, Str an, .int .i64 apt] ∧ (aq.length ≤ 4) ∧ (an.length ≤ 21) ∧ SH w w' [] [.own Aqr aq.length cqr 3 1 (aq.map I)]) := by
 refine fn_enter (N := 6) Tryd.func9 rfl (by kernel_rfl) rfl rfl rfl ?_
 have hs0 : SH w w [] [] := SH.refl w []
 have hcs_m : cs.length ≤ 9223372036854775807 := Nat.le_trans hcs.cap hcs.capMax
 refine sq ?_
 refine rg ?_
 refine al (v := .agg #[I 0, ns, Str [], I 0]) (cs := [I 0, ns, Str [], I 0]) hs0 tz25 rfl trivial rfl (fun b1 w1 (hs1 : SH w w1 [] [.blk b1 25 [I 0, ns, Str [], I 0]]) => ?_)
 refine nl ?_
 refine nN ?_
 refine sq ?_
 refine rg ?_
 refine q trivial rfl rfl (mv (v := .slice Acs cs.length ccs) rfl) ?_
 refine cl trivial rfl (l6Open (Acs := Acs) (ccs := ccs) (cs := cs) (w := _) (hcs := (hcs.up0 hs1))) ?_
 rintro _ w2 ⟨g1, rfl, hs2'⟩
 have hs2 : SH w w2 [] [.blk b1 25 [I 0, ns, Str [], I 0], .blk g1 74 [.slice Acs ((cs.take 2000).length) ccs, I 0]] := hs1.call0 hs2'
 clear hs2'
 refine cl trivial rfl (l91Address (rb := g1) (Ab := Acs) (cb := ccs) (bs := cs.take 2000) (p := 0) (w := _) (hr := (blk_heap hs2 1 rfl)) (hb := (Sl.take_ (hcs.up hs2 (by simp) (fun k h => .inr (hs2.lo1 1 rfl k h))) 2000)) (hbn := (by first | assumption | (simp; omega))) (hp := (by omega))) ?_
 rintro _ w3 ⟨Aq1, cq1, ak1, aq1, an1, apt1, q1, rfl, p1, p2, p3, hs3'⟩
 have hs3 : SH w w3 [] [.blk b1 25 [I 0, ns, Str [], I 0], .blk g1 74 [.slice Acs ((cs.take 2000).length) ccs, I ((q1 : Nat) : Int)], .own Aq1 aq1.length cq1 3 1 (aq1.map I)] := hs2.callM 1 rfl hs3' (by intro k hk; simp at hk; exact hk.symm)
 clear hs3'
 refine stg (vs := [I ak1, .slice Aq1 aq1.length cq1, Str an1, I apt1]) hs3 0 rfl rfl rfl rfl rfl rfl rfl ag25 trivial (fun w4 (hs4 : SH w w4 [] [.blk g1 74 [.slice Acs ((cs.take 2000).length) ccs, I ((q1 : Nat) : Int)], .own Aq1 aq1.length cq1 3 1 (aq1.map I), .blk b1 25 [I ak1, .slice Aq1 aq1.length cq1, Str an1, I apt1]]) => ?_)
 refine nl ?_
 refine nN ?_
 refine rt ?_
 refine fret (v := .agg #[I ak1, .slice Aq1 aq1.length cq1, Str an1, I apt1]) (resC hs4 2 rfl rfl ag25 rfl .nil) rfl ?_
 exact ⟨Aq1, cq1, ak1, aq1, an1, apt1, rfl, (by first | assumption | omega | (simp; omega)), (by first | assumption | omega | (simp; omega)), (hs4.pick [1] rfl (by decide))⟩


end Go.Proofs.YtcgdccfofinheaaDoor
