/-
  Part of the proofs over this seat: what each function of the program computes, function by function (the text is written by a program of this hand-in's own).
  Conditions: each theorem states its own.
-/
import Derived.Test.YtogejeniggngjaaDoorPfWalks3
namespace Go.Proofs.YtogejeniggngjaaDoor
open Go.PF
set_option maxRecDepth 100000
set_option linter.unusedSimpArgs false
set_option linter.unusedVariables false

theorem lAllowEnd {Acs : Option Addr} {ccs : Nat} (cs : List UInt8) (w : World) (hcs : Sl w [] 1 Acs cs.length ccs (cs.map U)) (hGp : Lib.TabIs Tryd.prog w "internal/strconv.uint64pow10" .u64 Lib.pow10Tab) : Does Tryd.prog 8 [.slice Acs cs.length ccs] w (fun v w' => v = .bool true ∧ SH w w' [] []) := by
 refine fn_enter (N := 69) Tryd.func8 rfl (by kernel_rfl) rfl rfl rfl ?_
 have hs0 : SH w w [] [] := SH.refl w []
 have hcs_m : cs.length ≤ 9223372036854775807 := Nat.le_trans hcs.cap hcs.capMax
 refine sq ?_
 refine rg ?_
 refine q trivial rfl rfl (asg (v := .bool false) rfl) ?_
 refine nl ?_
 refine nN ?_
 refine sq ?_
 refine sq ?_
 refine rg ?_
 refine q trivial rfl rfl (mv (v := .slice Acs cs.length ccs) rfl) ?_
 refine q trivial rfl rfl (lnA (n := cs.length) sl22 rfl) ?_
 refine q trivial rfl rfl (gtr (k := .i64) (a := ((cs.length : Nat) : Int)) (b := 1048576) rfl rfl) ?_
 refine nl ?_
 refine nN ?_
 refine cdd (p := (1048576 : Int) < ((cs.length : Nat) : Int)) rfl (fun h1 => ?_) (fun h1 => ?_)
 · refine sq ?_
   refine rg ?_
   refine q trivial rfl rfl (asg (v := .bool true) rfl) ?_
   refine nl ?_
   refine nN ?_
   refine rt (tR ?_)
   refine fret (v := .bool true) (.tmp .nil) rfl ?_
   exact ⟨rfl, hs0⟩
 · refine sk ?_
   refine nN ?_
   refine sq ?_
   refine rg ?_
   refine q trivial rfl rfl (mv (v := .slice Acs cs.length ccs) rfl) ?_
   refine cl trivial rfl (drawRulesAllow (Acs := Acs) (ccs := ccs) (cs := cs) (w := _) (hcs := (hcs.up0 hs0))) ?_
   rintro _ w1 ⟨A1, c1, Aq1, cq1, r1, ak1, aq1, an1, apt1, rfl, p1, p2, p3, p4, hs1'⟩
   have hs1 : SH w w1 [] [.own A1 r1.length c1 33 3 (r1.flatMap gRule), .own Aq1 aq1.length cq1 3 1 (aq1.map I)] := hs0.call0 hs1'
   clear hs1'
   refine q trivial rfl rfl (mv (v := .tuple #[.slice A1 r1.length c1, .agg #[I ak1, .slice Aq1 aq1.length cq1, Str an1, I apt1]]) rfl) ?_
   refine q trivial rfl rfl (xt 0 (v := .slice A1 r1.length c1) rfl rfl) ?_
   refine q trivial rfl rfl (xt 1 (v := .agg #[I ak1, .slice Aq1 aq1.length cq1, Str an1, I apt1]) rfl rfl) ?_
   refine al (v := .agg #[I 0, ns, Str [], I 0]) (cs := [I 0, ns, Str [], I 0]) hs1 tz26 rfl trivial rfl (fun b1 w2 (hs2 : SH w w2 [] [.own A1 r1.length c1 33 3 (r1.flatMap gRule), .own Aq1 aq1.length cq1 3 1 (aq1.map I), .blk b1 26 [I 0, ns, Str [], I 0]]) => ?_)
   refine q trivial rfl rfl (asg (v := .slice A1 r1.length c1) rfl) ?_
   refine stg (vs := [I ak1, .slice Aq1 aq1.length cq1, Str an1, I apt1]) hs2 2 rfl rfl rfl rfl rfl rfl rfl ag26 trivial (fun w3 (hs3 : SH w w3 [] [.own A1 r1.length c1 33 3 (r1.flatMap gRule), .own Aq1 aq1.length cq1 3 1 (aq1.map I), .blk b1 26 [I ak1, .slice Aq1 aq1.length cq1, Str an1, I apt1]]) => ?_)
   refine nl ?_
   refine nN ?_
   refine sq ?_
   refine rg ?_
   refine q trivial rfl rfl (mv (v := .slice A1 r1.length c1) rfl) ?_
   refine q trivial rfl rfl (ldg (vs := [I ak1, .slice Aq1 aq1.length cq1, Str an1, I apt1]) hs3 2 rfl rfl rfl rfl ag26) ?_
   refine cl trivial rfl (iRulesAllow (Azs := A1) (czs := c1) (zs := r1) (ak := ak1) (Aaq := Aq1) (caq := cq1) (aq := aq1) (an := an1) (apt := apt1) (w := _) (hzs := (hs3.sl0 0 rfl)) (hzs_e := (by first | exact fun u hu => Nat.le_trans (p2 u hu) (by decide) | (have hal := addrT_len ak1 aq1 an1 apt1; have hcl := cutH_len (by assumption : addrOk ak1 aq1 an1 apt1 = true) k; intro u hu; simp only [List.mem_singleton] at hu; subst hu; (try simp only [List.length_append, List.length_cons, List.length_nil]); omega))) (haq := (hs3.sl0 1 rfl)) (han_n := (by first | (first | omega | (simp; done) | (simp; omega)) | (have hal := addrT_len ak1 aq1 an1 apt1; have hcl := cutH_len (by assumption : addrOk ak1 aq1 an1 apt1 = true) k; first | omega | (simp; done) | (simp; omega)))) (hGp := (tab_up hGp hs3))) ?_
   rintro _ w4 ⟨rfl, hs4'⟩
   have hs4 : SH w w4 [] [.own A1 r1.length c1 33 3 (r1.flatMap gRule), .own Aq1 aq1.length cq1 3 1 (aq1.map I), .blk b1 26 [I ak1, .slice Aq1 aq1.length cq1, Str an1, I apt1]] := hs3.call0 hs4'
   clear hs4'
   refine q trivial rfl rfl (asg (v := .bool (rulesAllow r1 ak1 aq1 an1 apt1)) rfl) ?_
   refine nl ?_
   refine nN ?_
   refine sq ?_
   refine rg ?_
   refine q trivial rfl rfl (mv (v := .slice A1 r1.length c1) rfl) ?_
   refine q trivial rfl rfl (ldg (vs := [I ak1, .slice Aq1 aq1.length cq1, Str an1, I apt1]) hs4 2 rfl rfl rfl rfl ag26) ?_
   refine cl trivial rfl (sRulesAllow (Azs := A1) (czs := c1) (zs := r1) (ak := ak1) (Aaq := Aq1) (caq := cq1) (aq := aq1) (an := an1) (apt := apt1) (w := _) (hzs := (hs4.sl0 0 rfl)) (hzs_e := (by first | exact fun u hu => Nat.le_trans (p2 u hu) (by decide) | (have hal := addrT_len ak1 aq1 an1 apt1; have hcl := cutH_len (by assumption : addrOk ak1 aq1 an1 apt1 = true) k; intro u hu; simp only [List.mem_singleton] at hu; subst hu; (try simp only [List.length_append, List.length_cons, List.length_nil]); omega))) (haq := (hs4.sl0 1 rfl)) (han_n := (by first | (first | omega | (simp; done) | (simp; omega)) | (have hal := addrT_len ak1 aq1 an1 apt1; have hcl := cutH_len (by assumption : addrOk ak1 aq1 an1 apt1 = true) k; first | omega | (simp; done) | (simp; omega))))) ?_
   rintro _ w5 ⟨rfl, hs5'⟩
   have hs5 : SH w w5 [] [.own A1 r1.length c1 33 3 (r1.flatMap gRule), .own Aq1 aq1.length cq1 3 1 (aq1.map I), .blk b1 26 [I ak1, .slice Aq1 aq1.length cq1, Str an1, I apt1]] := hs4.call0 hs5'
   clear hs5'
   refine q trivial rfl rfl (asg (v := .bool (rulesAllow r1 ak1 aq1 an1 apt1)) rfl) ?_
   refine nl ?_
   refine nN ?_
   refine sq ?_
   refine sq ?_
   refine rg ?_
   refine q trivial rfl rfl (mv (v := .bool (rulesAllow r1 ak1 aq1 an1 apt1)) rfl) ?_
   refine q trivial rfl rfl (mv (v := .bool (rulesAllow r1 ak1 aq1 an1 apt1)) rfl) ?_
   refine q trivial rfl rfl (neb (a := (rulesAllow r1 ak1 aq1 an1 apt1)) (b := (rulesAllow r1 ak1 aq1 an1 apt1)) tb4 rfl rfl) ?_
   refine q trivial rfl rfl (mv (v := .bool (decide ((rulesAllow r1 ak1 aq1 an1 apt1) ≠ (rulesAllow r1 ak1 aq1 an1 apt1)))) rfl) ?_
   refine spd (p := (rulesAllow r1 ak1 aq1 an1 apt1) ≠ (rulesAllow r1 ak1 aq1 an1 apt1)) 29 rfl (fun h2 => absurd h2 (by exact fun h => h rfl)) (fun h2 => ?_)
   refine q ⟨_, rfl, rfl⟩ rfl rfl (ldg (vs := [I ak1, .slice Aq1 aq1.length cq1, Str an1, I apt1]) hs5 2 rfl rfl rfl rfl ag26) ?_
   refine cl ⟨_, rfl, rfl⟩ rfl (sAddressValid (ak := ak1) (Aaq := Aq1) (caq := cq1) (aq := aq1) (an := an1) (apt := apt1) (w := _) (haq := (hs5.sl0 1 rfl)) (han_n := (by first | (first | omega | (simp; done) | (simp; omega)) | (have hal := addrT_len ak1 aq1 an1 apt1; have hcl := cutH_len (by assumption : addrOk ak1 aq1 an1 apt1 = true) k; first | omega | (simp; done) | (simp; omega))))) ?_
   rintro _ w6 ⟨rfl, hs6'⟩
   have hs6 : SH w w6 [] [.own A1 r1.length c1 33 3 (r1.flatMap gRule), .own Aq1 aq1.length cq1 3 1 (aq1.map I), .blk b1 26 [I ak1, .slice Aq1 aq1.length cq1, Str an1, I apt1]] := hs5.call0 hs6'
   clear hs6'
   refine q ⟨_, rfl, rfl⟩ rfl rfl (nt (b := addrOk ak1 aq1 an1 apt1) rfl) ?_
   refine q trivial rfl rfl (pf (v := .bool (!(addrOk ak1 aq1 an1 apt1))) rfl rfl) ?_
   refine nl ?_
   refine nN ?_
   refine cd (b := !(addrOk ak1 aq1 an1 apt1)) rfl (fun h3 => ?_) (fun h3 => ?_)
   · have h4 : (addrOk ak1 aq1 an1 apt1) = false := by simpa using h3
     refine sq ?_
     refine rg ?_
     refine q trivial rfl rfl (mv (v := .bool (rulesAllow r1 ak1 aq1 an1 apt1)) rfl) ?_
     refine q trivial rfl rfl (mv (v := .bool (rulesAllow r1 ak1 aq1 an1 apt1)) rfl) ?_
     refine q trivial rfl rfl (eqb (a := (rulesAllow r1 ak1 aq1 an1 apt1)) (b := (rulesAllow r1 ak1 aq1 an1 apt1)) tb4 rfl rfl) ?_
     refine q trivial rfl rfl (asg (v := .bool (decide ((rulesAllow r1 ak1 aq1 an1 apt1) = (rulesAllow r1 ak1 aq1 an1 apt1)))) rfl) ?_
     refine nl ?_
     refine nN ?_
     refine rt (tR ?_)
     refine fret (v := .bool (decide ((rulesAllow r1 ak1 aq1 an1 apt1) = (rulesAllow r1 ak1 aq1 an1 apt1)))) (.tmp .nil) rfl ?_
     have e1 : (decide ((rulesAllow r1 ak1 aq1 an1 apt1) = (rulesAllow r1 ak1 aq1 an1 apt1))) = true := by first | rfl | (simp; done) | (have y := cutH_end (i := k) (by assumption : addrOk ak1 aq1 an1 apt1 = true) (by omega); have z1 := allow_host (by assumption : addrOk ak1 aq1 an1 apt1 = true); have z2 := allow_qhost (k := ak1) (q := aq1) (nm := an1) (p := apt1); simp_all; done)
     exact ⟨(congrArg (Value.bool) e1), (hs6.pick [] rfl (by decide))⟩
   · have h5 : (addrOk ak1 aq1 an1 apt1) = true := by simpa using h3
     refine sk ?_
     refine nN ?_
     refine sq ?_
     refine rg ?_
     refine q trivial rfl rfl (ldg (vs := [I ak1, .slice Aq1 aq1.length cq1, Str an1, I apt1]) hs6 2 rfl rfl rfl rfl ag26) ?_
     refine cl trivial rfl (iAddressTextQ (ak := ak1) (Aaq := Aq1) (caq := cq1) (aq := aq1) (an := an1) (apt := apt1) (w := _) (haq := (hs6.sl0 1 rfl)) (han_n := (by first | (first | omega | (simp; done) | (simp; omega)) | (have hal := addrT_len ak1 aq1 an1 apt1; have hcl := cutH_len (by assumption : addrOk ak1 aq1 an1 apt1 = true) k; first | omega | (simp; done) | (simp; omega)))) (hGp := (tab_up hGp hs6))) ?_
     rintro _ w7 ⟨rfl, hs7'⟩
     have hs7 : SH w w7 [] [.own A1 r1.length c1 33 3 (r1.flatMap gRule), .own Aq1 aq1.length cq1 3 1 (aq1.map I), .blk b1 26 [I ak1, .slice Aq1 aq1.length cq1, Str an1, I apt1]] := hs6.call0 hs7'
     clear hs7'
     refine q trivial rfl rfl (asg (v := Str (addrT ak1 aq1 an1 apt1)) rfl) ?_
     refine nl ?_
     refine nN ?_
     refine sq ?_
     refine rg ?_
     refine q trivial rfl rfl (mv (v := Str (addrT ak1 aq1 an1 apt1)) rfl) ?_
     refine q trivial rfl rfl (asg (v := Str (addrT ak1 aq1 an1 apt1)) rfl) ?_
     refine nl ?_
     refine nN ?_
     refine sq ?_
     refine sq ?_
     refine rg ?_
     refine q trivial rfl rfl (asg (v := I 0) rfl) ?_
     refine nl ?_
     refine nN ?_
     refine bl ?_
     refine lp (σ := Nat) (fun (k : Nat) f w' => Has f [(4, pB b1), (7, Str (addrT ak1 aq1 an1 apt1)), (8, Str (cutH ak1 aq1 an1 apt1 k)), (9, I ((k : Nat) : Int))] ∧ (k ≤ (addrT ak1 aq1 an1 apt1).length) ∧ SH w w' [] [.own A1 r1.length c1 33 3 (r1.flatMap gRule), .own Aq1 aq1.length cq1 3 1 (aq1.map I), .blk b1 26 [I ak1, .slice Aq1 aq1.length cq1, Str an1, I apt1]]) (fun k => (addrT ak1 aq1 an1 apt1).length - k) 0 ⟨⟨rfl, rfl, (show (Str (addrT ak1 aq1 an1 apt1) : Value) = Str (cutH ak1 aq1 an1 apt1 0) from congrArg (Str) (by simp [cutH])), rfl, trivial⟩, (by simp), hs7⟩ ?_
     rintro k f w8 ⟨hf, hk, hs8⟩
     obtain ⟨g1, rfl⟩ := has_upd hf
     clear hf
     refine sq ?_
     refine sq ?_
     refine rg ?_
     refine q trivial rfl rfl (mv (v := I ((k : Nat) : Int)) rfl) ?_
     refine q trivial rfl rfl (mv (v := Str (addrT ak1 aq1 an1 apt1)) rfl) ?_
     refine q trivial rfl rfl (lnS (l := addrT ak1 aq1 an1 apt1) st9 rfl) ?_
     refine q trivial rfl rfl (lss (k := .i64) (a := ((k : Nat) : Int)) (b := (((addrT ak1 aq1 an1 apt1).length : Nat) : Int)) rfl rfl) ?_
     refine nl ?_
     refine nN ?_
     refine cdd (p := ((k : Nat) : Int) < (((addrT ak1 aq1 an1 apt1).length : Nat) : Int)) rfl (fun h6 => ?_) (fun h6 => ?_)
     · refine sk ?_
       refine nN ?_
       refine sq ?_
       refine bl ?_
       refine sq ?_
       refine rg ?_
       refine q trivial rfl rfl (mv (v := Str (addrT ak1 aq1 an1 apt1)) rfl) ?_
       refine q trivial rfl rfl (mv (v := I ((k : Nat) : Int)) rfl) ?_
       refine q trivial rfl rfl (ixs (l := addrT ak1 aq1 an1 apt1) k st9 rfl rfl (by first | (first | omega | (simp; done) | (simp; omega)) | (have hal := addrT_len ak1 aq1 an1 apt1; have hcl := cutH_len (by assumption : addrOk ak1 aq1 an1 apt1 = true) k; first | omega | (simp; done) | (simp; omega)))) ?_
       refine q trivial rfl rfl (eqi (k := .u8) (a := ((((addrT ak1 aq1 an1 apt1).getD k 0).toNat : Nat) : Int)) (b := 58) rfl rfl) ?_
       refine nl ?_
       refine nN ?_
       refine cdd (p := ((((addrT ak1 aq1 an1 apt1).getD k 0).toNat : Nat) : Int) = 58) rfl (fun h7 => ?_) (fun h7 => ?_)
       · refine rg ?_
         refine q trivial rfl rfl (mv (v := Str (addrT ak1 aq1 an1 apt1)) rfl) ?_
         refine q trivial rfl rfl (mv (v := I ((k : Nat) : Int)) rfl) ?_
         refine q trivial rfl rfl (cuhs (l := addrT ak1 aq1 an1 apt1) k st9 rfl rfl (by first | (first | omega | (simp; done) | (simp; omega)) | (have hal := addrT_len ak1 aq1 an1 apt1; have hcl := cutH_len (by assumption : addrOk ak1 aq1 an1 apt1 = true) k; first | omega | (simp; done) | (simp; omega)))) ?_
         refine q trivial rfl rfl (asg (v := Str ((addrT ak1 aq1 an1 apt1).take k)) rfl) ?_
         refine nl ?_
         refine bN ?_
         refine nN ?_
         refine rg ?_
         refine q trivial rfl rfl (mv (v := I ((k : Nat) : Int)) rfl) ?_
         refine q trivial rfl rfl (add (a := ((k : Nat) : Int)) (b := 1) rfl rfl (by first | (exact ⟨by omega, by omega⟩) | (have hal := addrT_len ak1 aq1 an1 apt1; have hcl := cutH_len (by assumption : addrOk ak1 aq1 an1 apt1 = true) k; exact ⟨by omega, by omega⟩))) ?_
         refine q trivial rfl rfl (asg (v := I (((k : Nat) : Int) + 1)) rfl) ?_
         refine nl ?_
         refine nN ?_
         refine ⟨(k + 1), ⟨⟨rfl, rfl, (show (Str ((addrT ak1 aq1 an1 apt1).take k) : Value) = Str (cutH ak1 aq1 an1 apt1 (k + 1)) from congrArg (Str) (by first | exact cutH_yes (by assumption : addrOk ak1 aq1 an1 apt1 = true) (by omega) (by assumption) | exact cutH_no (by assumption : addrOk ak1 aq1 an1 apt1 = true) (by omega) (by assumption))), rfl, trivial⟩, (by omega), hs8⟩, ?_⟩
         omega
       · refine sk ?_
         refine bN ?_
         refine nN ?_
         refine rg ?_
         refine q trivial rfl rfl (mv (v := I ((k : Nat) : Int)) rfl) ?_
         refine q trivial rfl rfl (add (a := ((k : Nat) : Int)) (b := 1) rfl rfl (by first | (exact ⟨by omega, by omega⟩) | (have hal := addrT_len ak1 aq1 an1 apt1; have hcl := cutH_len (by assumption : addrOk ak1 aq1 an1 apt1 = true) k; exact ⟨by omega, by omega⟩))) ?_
         refine q trivial rfl rfl (asg (v := I (((k : Nat) : Int) + 1)) rfl) ?_
         refine nl ?_
         refine nN ?_
         refine ⟨(k + 1), ⟨⟨rfl, rfl, (show (Str (cutH ak1 aq1 an1 apt1 k) : Value) = Str (cutH ak1 aq1 an1 apt1 (k + 1)) from congrArg (Str) (by first | exact cutH_yes (by assumption : addrOk ak1 aq1 an1 apt1 = true) (by omega) (by assumption) | exact cutH_no (by assumption : addrOk ak1 aq1 an1 apt1 = true) (by omega) (by assumption))), rfl, trivial⟩, (by omega), hs8⟩, ?_⟩
         omega
     · refine ex (tE (tE (bE ?_)))
       refine nN ?_
       refine sq ?_
       refine rg ?_
       refine q trivial rfl rfl (mv (v := Str (cutH ak1 aq1 an1 apt1 k)) rfl) ?_
       refine q trivial rfl rfl (bdv (v := .agg #[Str (cutH ak1 aq1 an1 apt1 k), I 0, .bool true]) [(0, Str (cutH ak1 aq1 an1 apt1 k)), (2, .bool true)] rfl (fun _ => by kernel_rfl)) ?_
       refine bsk hs8 sl23 [.agg #[Str (cutH ak1 aq1 an1 apt1 k), I 0, .bool true]] [Str (cutH ak1 aq1 an1 apt1 k), I 0, .bool true] trivial rfl (fun b2 w9 (hs9 : SH w w9 [] [.own A1 r1.length c1 33 3 (r1.flatMap gRule), .own Aq1 aq1.length cq1 3 1 (aq1.map I), .blk b1 26 [I ak1, .slice Aq1 aq1.length cq1, Str an1, I apt1], .own (some ⟨b2, 0, none⟩) (([((cutH ak1 aq1 an1 apt1 k, 0, true) : List UInt8 × Int × Bool)] : List (List UInt8 × Int × Bool)).length) 1 33 3 (([((cutH ak1 aq1 an1 apt1 k, 0, true) : List UInt8 × Int × Bool)] : List (List UInt8 × Int × Bool)).flatMap gRule)]) => ?_)
       refine q trivial rfl rfl (ldg (vs := [I ak1, .slice Aq1 aq1.length cq1, Str an1, I apt1]) hs9 2 rfl rfl rfl rfl ag26) ?_
       refine cl trivial rfl (iRulesAllow (Azs := (some ⟨b2, 0, none⟩)) (czs := 1) (zs := ([((cutH ak1 aq1 an1 apt1 k, 0, true) : List UInt8 × Int × Bool)] : List (List UInt8 × Int × Bool))) (ak := ak1) (Aaq := Aq1) (caq := cq1) (aq := aq1) (an := an1) (apt := apt1) (w := _) (hzs := (hs9.sl0 3 rfl)) (hzs_e := (by first | exact fun u hu => Nat.le_trans (p2 u hu) (by decide) | (have hal := addrT_len ak1 aq1 an1 apt1; have hcl := cutH_len (by assumption : addrOk ak1 aq1 an1 apt1 = true) k; intro u hu; simp only [List.mem_singleton] at hu; subst hu; (try simp only [List.length_append, List.length_cons, List.length_nil]); omega))) (haq := (hs9.sl0 1 rfl)) (han_n := (by first | (first | omega | (simp; done) | (simp; omega)) | (have hal := addrT_len ak1 aq1 an1 apt1; have hcl := cutH_len (by assumption : addrOk ak1 aq1 an1 apt1 = true) k; first | omega | (simp; done) | (simp; omega)))) (hGp := (tab_up hGp hs9))) ?_
       rintro _ w10 ⟨rfl, hs10'⟩
       have hs10 : SH w w10 [] [.own A1 r1.length c1 33 3 (r1.flatMap gRule), .own Aq1 aq1.length cq1 3 1 (aq1.map I), .blk b1 26 [I ak1, .slice Aq1 aq1.length cq1, Str an1, I apt1], .own (some ⟨b2, 0, none⟩) (([((cutH ak1 aq1 an1 apt1 k, 0, true) : List UInt8 × Int × Bool)] : List (List UInt8 × Int × Bool)).length) 1 33 3 (([((cutH ak1 aq1 an1 apt1 k, 0, true) : List UInt8 × Int × Bool)] : List (List UInt8 × Int × Bool)).flatMap gRule)] := hs9.call0 hs10'
       clear hs10'
       refine q trivial rfl rfl (asg (v := .bool (rulesAllow ([((cutH ak1 aq1 an1 apt1 k, 0, true) : List UInt8 × Int × Bool)] : List (List UInt8 × Int × Bool)) ak1 aq1 an1 apt1)) rfl) ?_
       refine nl ?_
       refine nN ?_
       have hs11 : SH w w10 [] [.own Aq1 aq1.length cq1 3 1 (aq1.map I), .blk b1 26 [I ak1, .slice Aq1 aq1.length cq1, Str an1, I apt1]] := hs10.pick [1, 2] rfl (by decide)
       refine sq ?_
       refine rg ?_
       refine q trivial rfl rfl (mv (v := Str (cutH ak1 aq1 an1 apt1 k)) rfl) ?_
       refine q trivial rfl rfl (cat (l := [113]) (m := cutH ak1 aq1 an1 apt1 k) rfl rfl (by have hal := addrT_len ak1 aq1 an1 apt1; have hcl := cutH_len (by assumption : addrOk ak1 aq1 an1 apt1 = true) k; simp only [List.length_append, List.length_cons, List.length_nil]; omega)) ?_
       refine q trivial rfl rfl (bdv (v := .agg #[Str ([113] ++ (cutH ak1 aq1 an1 apt1 k)), I 0, .bool true]) [(0, Str ([113] ++ (cutH ak1 aq1 an1 apt1 k))), (2, .bool true)] rfl (fun _ => by kernel_rfl)) ?_
       refine bsk hs11 sl23 [.agg #[Str ([113] ++ (cutH ak1 aq1 an1 apt1 k)), I 0, .bool true]] [Str ([113] ++ (cutH ak1 aq1 an1 apt1 k)), I 0, .bool true] trivial rfl (fun b3 w11 (hs12 : SH w w11 [] [.own Aq1 aq1.length cq1 3 1 (aq1.map I), .blk b1 26 [I ak1, .slice Aq1 aq1.length cq1, Str an1, I apt1], .own (some ⟨b3, 0, none⟩) (([(([113] ++ (cutH ak1 aq1 an1 apt1 k), 0, true) : List UInt8 × Int × Bool)] : List (List UInt8 × Int × Bool)).length) 1 33 3 (([(([113] ++ (cutH ak1 aq1 an1 apt1 k), 0, true) : List UInt8 × Int × Bool)] : List (List UInt8 × Int × Bool)).flatMap gRule)]) => ?_)
       refine q trivial rfl rfl (ldg (vs := [I ak1, .slice Aq1 aq1.length cq1, Str an1, I apt1]) hs12 1 rfl rfl rfl rfl ag26) ?_
       refine cl trivial rfl (iRulesAllow (Azs := (some ⟨b3, 0, none⟩)) (czs := 1) (zs := ([(([113] ++ (cutH ak1 aq1 an1 apt1 k), 0, true) : List UInt8 × Int × Bool)] : List (List UInt8 × Int × Bool))) (ak := ak1) (Aaq := Aq1) (caq := cq1) (aq := aq1) (an := an1) (apt := apt1) (w := _) (hzs := (hs12.sl0 2 rfl)) (hzs_e := (by first | exact fun u hu => Nat.le_trans (p2 u hu) (by decide) | (have hal := addrT_len ak1 aq1 an1 apt1; have hcl := cutH_len (by assumption : addrOk ak1 aq1 an1 apt1 = true) k; intro u hu; simp only [List.mem_singleton] at hu; subst hu; (try simp only [List.length_append, List.length_cons, List.length_nil]); omega))) (haq := (hs12.sl0 0 rfl)) (han_n := (by first | (first | omega | (simp; done) | (simp; omega)) | (have hal := addrT_len ak1 aq1 an1 apt1; have hcl := cutH_len (by assumption : addrOk ak1 aq1 an1 apt1 = true) k; first | omega | (simp; done) | (simp; omega)))) (hGp := (tab_up hGp hs12))) ?_
       rintro _ w12 ⟨rfl, hs13'⟩
       have hs13 : SH w w12 [] [.own Aq1 aq1.length cq1 3 1 (aq1.map I), .blk b1 26 [I ak1, .slice Aq1 aq1.length cq1, Str an1, I apt1], .own (some ⟨b3, 0, none⟩) (([(([113] ++ (cutH ak1 aq1 an1 apt1 k), 0, true) : List UInt8 × Int × Bool)] : List (List UInt8 × Int × Bool)).length) 1 33 3 (([(([113] ++ (cutH ak1 aq1 an1 apt1 k), 0, true) : List UInt8 × Int × Bool)] : List (List UInt8 × Int × Bool)).flatMap gRule)] := hs12.call0 hs13'
       clear hs13'
       refine q trivial rfl rfl (asg (v := .bool (rulesAllow ([(([113] ++ (cutH ak1 aq1 an1 apt1 k), 0, true) : List UInt8 × Int × Bool)] : List (List UInt8 × Int × Bool)) ak1 aq1 an1 apt1)) rfl) ?_
       refine nl ?_
       refine nN ?_
       refine sq ?_
       refine rg ?_
       refine q trivial rfl rfl (mv (v := .bool (rulesAllow ([((cutH ak1 aq1 an1 apt1 k, 0, true) : List UInt8 × Int × Bool)] : List (List UInt8 × Int × Bool)) ak1 aq1 an1 apt1)) rfl) ?_
       refine q trivial rfl rfl (mv (v := .bool (rulesAllow ([((cutH ak1 aq1 an1 apt1 k, 0, true) : List UInt8 × Int × Bool)] : List (List UInt8 × Int × Bool)) ak1 aq1 an1 apt1)) rfl) ?_
       refine spl (b := rulesAllow ([((cutH ak1 aq1 an1 apt1 k, 0, true) : List UInt8 × Int × Bool)] : List (List UInt8 × Int × Bool)) ak1 aq1 an1 apt1) 65 rfl (fun h8 => ?_) (fun h8 => ?_)
       · refine q ⟨_, rfl, rfl⟩ rfl rfl (mv (v := .bool (rulesAllow ([(([113] ++ (cutH ak1 aq1 an1 apt1 k), 0, true) : List UInt8 × Int × Bool)] : List (List UInt8 × Int × Bool)) ak1 aq1 an1 apt1)) rfl) ?_
         refine q ⟨_, rfl, rfl⟩ rfl rfl (nt (b := rulesAllow ([(([113] ++ (cutH ak1 aq1 an1 apt1 k), 0, true) : List UInt8 × Int × Bool)] : List (List UInt8 × Int × Bool)) ak1 aq1 an1 apt1) rfl) ?_
         refine q trivial rfl rfl (pt (v := .bool (!(rulesAllow ([(([113] ++ (cutH ak1 aq1 an1 apt1 k), 0, true) : List UInt8 × Int × Bool)] : List (List UInt8 × Int × Bool)) ak1 aq1 an1 apt1))) rfl rfl) ?_
         refine q trivial rfl rfl (asg (v := .bool (!(rulesAllow ([(([113] ++ (cutH ak1 aq1 an1 apt1 k), 0, true) : List UInt8 × Int × Bool)] : List (List UInt8 × Int × Bool)) ak1 aq1 an1 apt1))) rfl) ?_
         refine nl ?_
         refine nN ?_
         refine rt ?_
         refine fret (v := .bool (!(rulesAllow ([(([113] ++ (cutH ak1 aq1 an1 apt1 k), 0, true) : List UInt8 × Int × Bool)] : List (List UInt8 × Int × Bool)) ak1 aq1 an1 apt1))) (.tmp .nil) rfl ?_
         have e2 : (!(rulesAllow ([(([113] ++ (cutH ak1 aq1 an1 apt1 k), 0, true) : List UInt8 × Int × Bool)] : List (List UInt8 × Int × Bool)) ak1 aq1 an1 apt1)) = true := by first | rfl | (simp; done) | (have y := cutH_end (i := k) (by assumption : addrOk ak1 aq1 an1 apt1 = true) (by omega); have z1 := allow_host (by assumption : addrOk ak1 aq1 an1 apt1 = true); have z2 := allow_qhost (k := ak1) (q := aq1) (nm := an1) (p := apt1); simp_all; done)
         exact ⟨(congrArg (Value.bool) e2), (hs13.pick [] rfl (by decide))⟩
       · refine gk false rfl rfl rfl rfl rfl ?_
         refine gk false rfl rfl rfl rfl rfl ?_
         refine q trivial rfl rfl (pf (v := .bool false) rfl rfl) ?_
         refine q trivial rfl rfl (asg (v := .bool false) rfl) ?_
         refine nl ?_
         refine nN ?_
         refine rt ?_
         refine fret (v := .bool false) (.tmp .nil) rfl ?_
         have e3 : false = true := by first | rfl | (simp; done) | (have y := cutH_end (i := k) (by assumption : addrOk ak1 aq1 an1 apt1 = true) (by omega); have z1 := allow_host (by assumption : addrOk ak1 aq1 an1 apt1 = true); have z2 := allow_qhost (k := ak1) (q := aq1) (nm := an1) (p := apt1); simp_all; done)
         exact ⟨(congrArg (Value.bool) e3), (hs13.pick [] rfl (by decide))⟩

end Go.Proofs.YtogejeniggngjaaDoor
