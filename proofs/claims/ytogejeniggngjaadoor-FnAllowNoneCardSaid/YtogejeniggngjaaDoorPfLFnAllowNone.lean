/-
  Part of the proofs over this seat: what each function of the program computes, function by function (the text is written by a program of this hand-in's own).
  Conditions: each theorem states its own.
-/
import Derived.Test.YtogejeniggngjaaDoorPfWalks3
namespace Go.Proofs.YtogejeniggngjaaDoor
open Go.PF
set_option maxRecDepth 100000
set_option linter.unusedSimpArgs false
set_option linter.unusedVariables false

theorem lAllowNone {Acs : Option Addr} {ccs : Nat} (cs : List UInt8) (w : World) (hcs : Sl w [] 1 Acs cs.length ccs (cs.map U)) (hGp : Lib.TabIs Tryd.prog w "internal/strconv.uint64pow10" .u64 Lib.pow10Tab) : Does Tryd.prog 4 [.slice Acs cs.length ccs] w (fun v w' => v = .bool true ∧ SH w w' [] []) := by
 refine fn_enter (N := 54) Tryd.func4 rfl (by kernel_rfl) rfl rfl rfl ?_
 have hs0 : SH w w [] [] := SH.refl w []
 have hcs_m : cs.length ≤ 9223372036854775807 := Nat.le_trans hcs.cap hcs.capMax
 refine sq ?_
 refine rg ?_
 refine q trivial rfl rfl (asg (v := .bool false) rfl) ?_
 refine nl ?_
 refine nN ?_
 refine sq ?_
 refine sq ?_
 refine rg ?_
 refine q trivial rfl rfl (mv (v := .slice Acs cs.length ccs) rfl) ?_
 refine q trivial rfl rfl (lnA (n := cs.length) sl22 rfl) ?_
 refine q trivial rfl rfl (gtr (k := .i64) (a := ((cs.length : Nat) : Int)) (b := 1048576) rfl rfl) ?_
 refine nl ?_
 refine nN ?_
 refine cdd (p := (1048576 : Int) < ((cs.length : Nat) : Int)) rfl (fun h1 => ?_) (fun h1 => ?_)
 · refine sq ?_
   refine rg ?_
   refine q trivial rfl rfl (asg (v := .bool true) rfl) ?_
   refine nl ?_
   refine nN ?_
   refine rt (tR ?_)
   refine fret (v := .bool true) (.tmp .nil) rfl ?_
   exact ⟨rfl, hs0⟩
 · refine sk ?_
   refine nN ?_
   refine sq ?_
   refine rg ?_
   refine q trivial rfl rfl (mv (v := .slice Acs cs.length ccs) rfl) ?_
   refine cl trivial rfl (drawRulesAllow (Acs := Acs) (ccs := ccs) (cs := cs) (w := _) (hcs := (hcs.up0 hs0))) ?_
   rintro _ w1 ⟨A1, c1, Aq1, cq1, r1, ak1, aq1, an1, apt1, rfl, p1, p2, p3, p4, hs1'⟩
   have hs1 : SH w w1 [] [.own A1 r1.length c1 33 3 (r1.flatMap gRule), .own Aq1 aq1.length cq1 3 1 (aq1.map I)] := hs0.call0 hs1'
   clear hs1'
   refine q trivial rfl rfl (mv (v := .tuple #[.slice A1 r1.length c1, .agg #[I ak1, .slice Aq1 aq1.length cq1, Str an1, I apt1]]) rfl) ?_
   refine q trivial rfl rfl (xt 0 (v := .slice A1 r1.length c1) rfl rfl) ?_
   refine q trivial rfl rfl (xt 1 (v := .agg #[I ak1, .slice Aq1 aq1.length cq1, Str an1, I apt1]) rfl rfl) ?_
   refine al (v := .agg #[I 0, ns, Str [], I 0]) (cs := [I 0, ns, Str [], I 0]) hs1 tz26 rfl trivial rfl (fun b1 w2 (hs2 : SH w w2 [] [.own A1 r1.length c1 33 3 (r1.flatMap gRule), .own Aq1 aq1.length cq1 3 1 (aq1.map I), .blk b1 26 [I 0, ns, Str [], I 0]]) => ?_)
   refine q trivial rfl rfl (asg (v := .slice A1 r1.length c1) rfl) ?_
   refine stg (vs := [I ak1, .slice Aq1 aq1.length cq1, Str an1, I apt1]) hs2 2 rfl rfl rfl rfl rfl rfl rfl ag26 trivial (fun w3 (hs3 : SH w w3 [] [.own A1 r1.length c1 33 3 (r1.flatMap gRule), .own Aq1 aq1.length cq1 3 1 (aq1.map I), .blk b1 26 [I ak1, .slice Aq1 aq1.length cq1, Str an1, I apt1]]) => ?_)
   refine nl ?_
   refine nN ?_
   refine sq ?_
   refine rg ?_
   refine q trivial rfl rfl (mv (v := .slice A1 r1.length c1) rfl) ?_
   refine q trivial rfl rfl (ldg (vs := [I ak1, .slice Aq1 aq1.length cq1, Str an1, I apt1]) hs3 2 rfl rfl rfl rfl ag26) ?_
   refine cl trivial rfl (iRulesAllow (Azs := A1) (czs := c1) (zs := r1) (ak := ak1) (Aaq := Aq1) (caq := cq1) (aq := aq1) (an := an1) (apt := apt1) (w := _) (hzs := (hs3.sl0 0 rfl)) (hzs_e := (by first | assumption | (simp; done) | exact fun u hu => Nat.le_trans (by first | exact p1 u hu | exact p2 u hu | exact p3 u hu) (by decide) | (intro u hu; simp at hu; simp [hu]))) (haq := (hs3.sl0 1 rfl)) (han_n := (by first | omega | (simp; done) | (simp; omega))) (hGp := (tab_up hGp hs3))) ?_
   rintro _ w4 ⟨rfl, hs4'⟩
   have hs4 : SH w w4 [] [.own A1 r1.length c1 33 3 (r1.flatMap gRule), .own Aq1 aq1.length cq1 3 1 (aq1.map I), .blk b1 26 [I ak1, .slice Aq1 aq1.length cq1, Str an1, I apt1]] := hs3.call0 hs4'
   clear hs4'
   refine q trivial rfl rfl (asg (v := .bool (rulesAllow r1 ak1 aq1 an1 apt1)) rfl) ?_
   refine nl ?_
   refine nN ?_
   refine sq ?_
   refine rg ?_
   refine q trivial rfl rfl (mv (v := .slice A1 r1.length c1) rfl) ?_
   refine q trivial rfl rfl (ldg (vs := [I ak1, .slice Aq1 aq1.length cq1, Str an1, I apt1]) hs4 2 rfl rfl rfl rfl ag26) ?_
   refine cl trivial rfl (sRulesAllow (Azs := A1) (czs := c1) (zs := r1) (ak := ak1) (Aaq := Aq1) (caq := cq1) (aq := aq1) (an := an1) (apt := apt1) (w := _) (hzs := (hs4.sl0 0 rfl)) (hzs_e := (by first | assumption | (simp; done) | exact fun u hu => Nat.le_trans (by first | exact p1 u hu | exact p2 u hu | exact p3 u hu) (by decide) | (intro u hu; simp at hu; simp [hu]))) (haq := (hs4.sl0 1 rfl)) (han_n := (by first | omega | (simp; done) | (simp; omega)))) ?_
   rintro _ w5 ⟨rfl, hs5'⟩
   have hs5 : SH w w5 [] [.own A1 r1.length c1 33 3 (r1.flatMap gRule), .own Aq1 aq1.length cq1 3 1 (aq1.map I), .blk b1 26 [I ak1, .slice Aq1 aq1.length cq1, Str an1, I apt1]] := hs4.call0 hs5'
   clear hs5'
   refine q trivial rfl rfl (asg (v := .bool (rulesAllow r1 ak1 aq1 an1 apt1)) rfl) ?_
   refine nl ?_
   refine nN ?_
   refine sq ?_
   refine sq ?_
   refine rg ?_
   refine q trivial rfl rfl (mv (v := .bool (rulesAllow r1 ak1 aq1 an1 apt1)) rfl) ?_
   refine q trivial rfl rfl (mv (v := .bool (rulesAllow r1 ak1 aq1 an1 apt1)) rfl) ?_
   refine q trivial rfl rfl (neb (a := (rulesAllow r1 ak1 aq1 an1 apt1)) (b := (rulesAllow r1 ak1 aq1 an1 apt1)) tb4 rfl rfl) ?_
   refine q trivial rfl rfl (mv (v := .bool (decide ((rulesAllow r1 ak1 aq1 an1 apt1) ≠ (rulesAllow r1 ak1 aq1 an1 apt1)))) rfl) ?_
   refine spd (p := (rulesAllow r1 ak1 aq1 an1 apt1) ≠ (rulesAllow r1 ak1 aq1 an1 apt1)) 26 rfl (fun h2 => absurd h2 (by exact fun h => h rfl)) (fun h2 => ?_)
   refine q ⟨_, rfl, rfl⟩ rfl rfl (mv (v := .bool (rulesAllow r1 ak1 aq1 an1 apt1)) rfl) ?_
   refine q ⟨_, rfl, rfl⟩ rfl rfl (nt (b := rulesAllow r1 ak1 aq1 an1 apt1) rfl) ?_
   refine q trivial rfl rfl (pf (v := .bool (!(rulesAllow r1 ak1 aq1 an1 apt1))) rfl rfl) ?_
   refine nl ?_
   refine nN ?_
   refine cd (b := !(rulesAllow r1 ak1 aq1 an1 apt1)) rfl (fun h3 => ?_) (fun h3 => ?_)
   · have h4 : (rulesAllow r1 ak1 aq1 an1 apt1) = false := by simpa using h3
     refine sq ?_
     refine rg ?_
     refine q trivial rfl rfl (mv (v := .bool (rulesAllow r1 ak1 aq1 an1 apt1)) rfl) ?_
     refine q trivial rfl rfl (mv (v := .bool (rulesAllow r1 ak1 aq1 an1 apt1)) rfl) ?_
     refine q trivial rfl rfl (eqb (a := (rulesAllow r1 ak1 aq1 an1 apt1)) (b := (rulesAllow r1 ak1 aq1 an1 apt1)) tb4 rfl rfl) ?_
     refine q trivial rfl rfl (asg (v := .bool (decide ((rulesAllow r1 ak1 aq1 an1 apt1) = (rulesAllow r1 ak1 aq1 an1 apt1)))) rfl) ?_
     refine nl ?_
     refine nN ?_
     refine rt (tR ?_)
     refine fret (v := .bool (decide ((rulesAllow r1 ak1 aq1 an1 apt1) = (rulesAllow r1 ak1 aq1 an1 apt1)))) (.tmp .nil) rfl ?_
     have e1 : (decide ((rulesAllow r1 ak1 aq1 an1 apt1) = (rulesAllow r1 ak1 aq1 an1 apt1))) = true := by first | rfl | (simp; done) | (have y := any_end (i := k) (by omega) (by assumption : rulesAllow r1 ak1 aq1 an1 apt1 = true); have z := allow_empty ak1 aq1 an1 apt1; simp_all; done)
     exact ⟨(congrArg (Value.bool) e1), (hs5.pick [] rfl (by decide))⟩
   · have h5 : (rulesAllow r1 ak1 aq1 an1 apt1) = true := by simpa using h3
     refine sk ?_
     refine nN ?_
     refine sq ?_
     refine rg ?_
     refine q trivial rfl rfl (asg (v := .bool false) rfl) ?_
     refine nl ?_
     refine nN ?_
     refine sq ?_
     refine sq ?_
     refine rg ?_
     refine q trivial rfl rfl (asg (v := I 0) rfl) ?_
     refine nl ?_
     refine nN ?_
     refine bl ?_
     refine lp (σ := Nat) (fun (k : Nat) f w' => Has f [(3, .slice A1 r1.length c1), (4, pB b1), (7, .bool ((r1.take k).any (fun u => u.2.2))), (8, I ((k : Nat) : Int))] ∧ (k ≤ r1.length) ∧ SH w w' [] [.own A1 r1.length c1 33 3 (r1.flatMap gRule), .own Aq1 aq1.length cq1 3 1 (aq1.map I), .blk b1 26 [I ak1, .slice Aq1 aq1.length cq1, Str an1, I apt1]]) (fun k => r1.length - k) 0 ⟨⟨rfl, rfl, (show (.bool false : Value) = .bool ((r1.take 0).any (fun u => u.2.2)) from congrArg (Value.bool) (by simp)), rfl, trivial⟩, (by simp), hs5⟩ ?_
     rintro k f w6 ⟨hf, hk, hs6⟩
     obtain ⟨g1, rfl⟩ := has_upd hf
     clear hf
     refine sq ?_
     refine sq ?_
     refine rg ?_
     refine q trivial rfl rfl (mv (v := I ((k : Nat) : Int)) rfl) ?_
     refine q trivial rfl rfl (mv (v := .slice A1 r1.length c1) rfl) ?_
     refine q trivial rfl rfl (lnA (n := r1.length) sl23 rfl) ?_
     refine q trivial rfl rfl (lss (k := .i64) (a := ((k : Nat) : Int)) (b := ((r1.length : Nat) : Int)) rfl rfl) ?_
     refine nl ?_
     refine nN ?_
     refine cdd (p := ((k : Nat) : Int) < ((r1.length : Nat) : Int)) rfl (fun h6 => ?_) (fun h6 => ?_)
     · refine sk ?_
       refine nN ?_
       refine sq ?_
       refine bl ?_
       refine rg ?_
       refine q trivial rfl rfl (mv (v := .bool ((r1.take k).any (fun u => u.2.2))) rfl) ?_
       refine q trivial rfl rfl (mv (v := .bool ((r1.take k).any (fun u => u.2.2))) rfl) ?_
       refine spl (b := (r1.take k).any (fun u => u.2.2)) 40 rfl (fun h7 => ?_) (fun h7 => ?_)
       · refine gk true rfl rfl rfl rfl rfl ?_
         refine gk true rfl rfl rfl rfl rfl ?_
         refine gk true rfl rfl rfl rfl rfl ?_
         refine gk true rfl rfl rfl rfl rfl ?_
         refine gk true rfl rfl rfl rfl rfl ?_
         refine q trivial rfl rfl (pt (v := .bool true) rfl rfl) ?_
         refine q trivial rfl rfl (asg (v := .bool true) rfl) ?_
         refine nl ?_
         refine bN ?_
         refine nN ?_
         refine rg ?_
         refine q trivial rfl rfl (mv (v := I ((k : Nat) : Int)) rfl) ?_
         refine q trivial rfl rfl (add (a := ((k : Nat) : Int)) (b := 1) rfl rfl (by exact ⟨by omega, by omega⟩)) ?_
         refine q trivial rfl rfl (asg (v := I (((k : Nat) : Int) + 1)) rfl) ?_
         refine nl ?_
         refine nN ?_
         refine ⟨(k + 1), ⟨⟨rfl, rfl, (show (.bool true : Value) = .bool ((r1.take (k + 1)).any (fun u => u.2.2)) from congrArg (Value.bool) (by first | (rw [any_take (by omega)]; done) | (rw [any_take (by omega)]; simp_all; done))), rfl, trivial⟩, (by omega), hs6⟩, ?_⟩
         omega
       · refine q ⟨_, rfl, rfl⟩ rfl rfl (mv (v := .slice A1 r1.length c1) rfl) ?_
         refine q ⟨_, rfl, rfl⟩ rfl rfl (mv (v := I ((k : Nat) : Int)) rfl) ?_
         refine ixwf (g := gRule) (zs := r1) (fun _ => rfl) rule0 k sl23 rfl rfl (hs6.sl0 0 rfl) (by first | omega | (simp; done) | (simp; omega)) (by first | omega | (simp; done) | (simp; omega)) ⟨_, rfl, rfl⟩ rfl (fun a1 ha1 => ?_)
         refine q ⟨_, rfl, rfl⟩ rfl rfl (fap 2 fo33_2 rfl) ?_
         refine q ⟨_, rfl, rfl⟩ rfl rfl (ldf (v := .bool ((r1.getD k rule0).2.2)) 2 (SH.refl w6 []) ha1 (fun _ h => h) rfl rfl one4) ?_
         refine q trivial rfl rfl (pf (v := .bool ((r1.getD k rule0).2.2)) rfl rfl) ?_
         refine q trivial rfl rfl (asg (v := .bool ((r1.getD k rule0).2.2)) rfl) ?_
         refine nl ?_
         refine bN ?_
         refine nN ?_
         refine rg ?_
         refine q trivial rfl rfl (mv (v := I ((k : Nat) : Int)) rfl) ?_
         refine q trivial rfl rfl (add (a := ((k : Nat) : Int)) (b := 1) rfl rfl (by exact ⟨by omega, by omega⟩)) ?_
         refine q trivial rfl rfl (asg (v := I (((k : Nat) : Int) + 1)) rfl) ?_
         refine nl ?_
         refine nN ?_
         refine ⟨(k + 1), ⟨⟨rfl, rfl, (show (.bool ((r1.getD k rule0).2.2) : Value) = .bool ((r1.take (k + 1)).any (fun u => u.2.2)) from congrArg (Value.bool) (by first | (rw [any_take (by omega)]; done) | (rw [any_take (by omega)]; simp_all; done))), rfl, trivial⟩, (by omega), hs6⟩, ?_⟩
         omega
     · refine ex (tE (tE (bE ?_)))
       refine nN ?_
       refine sq ?_
       refine rg ?_
       refine q trivial rfl rfl (mv (v := .bool ((r1.take k).any (fun u => u.2.2))) rfl) ?_
       refine q trivial rfl rfl (mv (v := .bool ((r1.take k).any (fun u => u.2.2))) rfl) ?_
       refine spl (b := (r1.take k).any (fun u => u.2.2)) 48 rfl (fun h8 => ?_) (fun h8 => ?_)
       · refine bsk hs6 sl23 [] [] ⟨_, rfl, rfl⟩ rfl (fun b2 w7 (hs7 : SH w w7 [] [.own A1 r1.length c1 33 3 (r1.flatMap gRule), .own Aq1 aq1.length cq1 3 1 (aq1.map I), .blk b1 26 [I ak1, .slice Aq1 aq1.length cq1, Str an1, I apt1], .own (some ⟨b2, 0, none⟩) (([] : List (List UInt8 × Int × Bool)).length) 0 33 3 (([] : List (List UInt8 × Int × Bool)).flatMap gRule)]) => ?_)
         refine q ⟨_, rfl, rfl⟩ rfl rfl (ldg (vs := [I ak1, .slice Aq1 aq1.length cq1, Str an1, I apt1]) hs7 2 rfl rfl rfl rfl ag26) ?_
         refine cl ⟨_, rfl, rfl⟩ rfl (iRulesAllow (Azs := (some ⟨b2, 0, none⟩)) (czs := 0) (zs := ([] : List (List UInt8 × Int × Bool))) (ak := ak1) (Aaq := Aq1) (caq := cq1) (aq := aq1) (an := an1) (apt := apt1) (w := _) (hzs := (hs7.sl0 3 rfl)) (hzs_e := (by first | assumption | (simp; done) | exact fun u hu => Nat.le_trans (by first | exact p1 u hu | exact p2 u hu | exact p3 u hu) (by decide) | (intro u hu; simp at hu; simp [hu]))) (haq := (hs7.sl0 1 rfl)) (han_n := (by first | omega | (simp; done) | (simp; omega))) (hGp := (tab_up hGp hs7))) ?_
         rintro _ w8 ⟨rfl, hs8'⟩
         have hs8 : SH w w8 [] [.own A1 r1.length c1 33 3 (r1.flatMap gRule), .own Aq1 aq1.length cq1 3 1 (aq1.map I), .blk b1 26 [I ak1, .slice Aq1 aq1.length cq1, Str an1, I apt1], .own (some ⟨b2, 0, none⟩) (([] : List (List UInt8 × Int × Bool)).length) 0 33 3 (([] : List (List UInt8 × Int × Bool)).flatMap gRule)] := hs7.call0 hs8'
         clear hs8'
         refine q ⟨_, rfl, rfl⟩ rfl rfl (nt (b := rulesAllow ([] : List (List UInt8 × Int × Bool)) ak1 aq1 an1 apt1) rfl) ?_
         refine q trivial rfl rfl (pt (v := .bool (!(rulesAllow ([] : List (List UInt8 × Int × Bool)) ak1 aq1 an1 apt1))) rfl rfl) ?_
         refine q trivial rfl rfl (asg (v := .bool (!(rulesAllow ([] : List (List UInt8 × Int × Bool)) ak1 aq1 an1 apt1))) rfl) ?_
         refine nl ?_
         refine nN ?_
         have hs9 : SH w w8 [] [] := hs8.pick [] rfl (by decide)
         refine rt ?_
         refine fret (v := .bool (!(rulesAllow ([] : List (List UInt8 × Int × Bool)) ak1 aq1 an1 apt1))) (.tmp .nil) rfl ?_
         have e2 : (!(rulesAllow ([] : List (List UInt8 × Int × Bool)) ak1 aq1 an1 apt1)) = true := by first | rfl | (simp; done) | (have y := any_end (i := k) (by omega) (by assumption : rulesAllow r1 ak1 aq1 an1 apt1 = true); have z := allow_empty ak1 aq1 an1 apt1; simp_all; done)
         exact ⟨(congrArg (Value.bool) e2), hs9⟩
       · refine gk false rfl rfl rfl rfl rfl ?_
         refine gk false rfl rfl rfl rfl rfl ?_
         refine gk false rfl rfl rfl rfl rfl ?_
         refine gk false rfl rfl rfl rfl rfl ?_
         refine q trivial rfl rfl (pf (v := .bool false) rfl rfl) ?_
         refine q trivial rfl rfl (asg (v := .bool false) rfl) ?_
         refine nl ?_
         refine nN ?_
         refine rt ?_
         refine fret (v := .bool false) (.tmp .nil) rfl ?_
         have e3 : false = true := by first | rfl | (simp; done) | (have y := any_end (i := k) (by omega) (by assumption : rulesAllow r1 ak1 aq1 an1 apt1 = true); have z := allow_empty ak1 aq1 an1 apt1; simp_all; done)
         exact ⟨(congrArg (Value.bool) e3), (hs6.pick [] rfl (by decide))⟩

end Go.Proofs.YtogejeniggngjaaDoor
