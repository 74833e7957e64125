/-
  Part of the proofs over this seat: what each function of the program computes, function by function (the text is written by a program of this hand-in's own).
  Conditions: each theorem states its own.
-/
import Derived.Test.YtogejeniggngjaaDoorPfWalks3
namespace Go.Proofs.YtogejeniggngjaaDoor
open Go.PF
set_option maxRecDepth 100000
set_option linter.unusedSimpArgs false
set_option linter.unusedVariables false

theorem lAllowRest {Acs : Option Addr} {ccs : Nat} (cs : List UInt8) (w : World) (hcs : Sl w [] 1 Acs cs.length ccs (cs.map U)) (hGp : Lib.TabIs Tryd.prog w "internal/strconv.uint64pow10" .u64 Lib.pow10Tab) : Does Tryd.prog 6 [.slice Acs cs.length ccs] w (fun v w' => v = .bool true ∧ SH w w' [] []) := by
 refine fn_enter (N := 46) Tryd.func6 rfl (by kernel_rfl) rfl rfl rfl ?_
 have hs0 : SH w w [] [] := SH.refl w []
 have hcs_m : cs.length ≤ 9223372036854775807 := Nat.le_trans hcs.cap hcs.capMax
 refine sq ?_
 refine rg ?_
 refine q trivial rfl rfl (asg (v := .bool false) rfl) ?_
 refine nl ?_
 refine nN ?_
 refine sq ?_
 refine sq ?_
 refine rg ?_
 refine q trivial rfl rfl (mv (v := .slice Acs cs.length ccs) rfl) ?_
 refine q trivial rfl rfl (lnA (n := cs.length) sl22 rfl) ?_
 refine q trivial rfl rfl (gtr (k := .i64) (a := ((cs.length : Nat) : Int)) (b := 1048576) rfl rfl) ?_
 refine nl ?_
 refine nN ?_
 refine cdd (p := (1048576 : Int) < ((cs.length : Nat) : Int)) rfl (fun h1 => ?_) (fun h1 => ?_)
 · refine sq ?_
   refine rg ?_
   refine q trivial rfl rfl (asg (v := .bool true) rfl) ?_
   refine nl ?_
   refine nN ?_
   refine rt (tR ?_)
   refine fret (v := .bool true) (.tmp .nil) rfl ?_
   exact ⟨rfl, hs0⟩
 · refine sk ?_
   refine nN ?_
   refine sq ?_
   refine rg ?_
   refine q trivial rfl rfl (mv (v := .slice Acs cs.length ccs) rfl) ?_
   refine cl trivial rfl (drawRulesAllow (Acs := Acs) (ccs := ccs) (cs := cs) (w := _) (hcs := (hcs.up0 hs0))) ?_
   rintro _ w1 ⟨A1, c1, Aq1, cq1, r1, ak1, aq1, an1, apt1, rfl, p1, p2, p3, p4, hs1'⟩
   have hs1 : SH w w1 [] [.own A1 r1.length c1 33 3 (r1.flatMap gRule), .own Aq1 aq1.length cq1 3 1 (aq1.map I)] := hs0.call0 hs1'
   clear hs1'
   refine q trivial rfl rfl (mv (v := .tuple #[.slice A1 r1.length c1, .agg #[I ak1, .slice Aq1 aq1.length cq1, Str an1, I apt1]]) rfl) ?_
   refine q trivial rfl rfl (xt 0 (v := .slice A1 r1.length c1) rfl rfl) ?_
   refine q trivial rfl rfl (xt 1 (v := .agg #[I ak1, .slice Aq1 aq1.length cq1, Str an1, I apt1]) rfl rfl) ?_
   refine al (v := .agg #[I 0, ns, Str [], I 0]) (cs := [I 0, ns, Str [], I 0]) hs1 tz26 rfl trivial rfl (fun b1 w2 (hs2 : SH w w2 [] [.own A1 r1.length c1 33 3 (r1.flatMap gRule), .own Aq1 aq1.length cq1 3 1 (aq1.map I), .blk b1 26 [I 0, ns, Str [], I 0]]) => ?_)
   refine q trivial rfl rfl (asg (v := .slice A1 r1.length c1) rfl) ?_
   refine stg (vs := [I ak1, .slice Aq1 aq1.length cq1, Str an1, I apt1]) hs2 2 rfl rfl rfl rfl rfl rfl rfl ag26 trivial (fun w3 (hs3 : SH w w3 [] [.own A1 r1.length c1 33 3 (r1.flatMap gRule), .own Aq1 aq1.length cq1 3 1 (aq1.map I), .blk b1 26 [I ak1, .slice Aq1 aq1.length cq1, Str an1, I apt1]]) => ?_)
   refine nl ?_
   refine nN ?_
   refine sq ?_
   refine rg ?_
   refine q trivial rfl rfl (mv (v := .slice A1 r1.length c1) rfl) ?_
   refine q trivial rfl rfl (ldg (vs := [I ak1, .slice Aq1 aq1.length cq1, Str an1, I apt1]) hs3 2 rfl rfl rfl rfl ag26) ?_
   refine cl trivial rfl (iRulesAllow (Azs := A1) (czs := c1) (zs := r1) (ak := ak1) (Aaq := Aq1) (caq := cq1) (aq := aq1) (an := an1) (apt := apt1) (w := _) (hzs := (hs3.sl0 0 rfl)) (hzs_e := (by exact fun u hu => Nat.le_trans (p2 u (by first | exact hu | exact List.mem_of_mem_take hu | exact List.mem_of_mem_drop hu)) (by decide))) (haq := (hs3.sl0 1 rfl)) (han_n := (by first | omega | (simp; done) | (simp; omega))) (hGp := (tab_up hGp hs3))) ?_
   rintro _ w4 ⟨rfl, hs4'⟩
   have hs4 : SH w w4 [] [.own A1 r1.length c1 33 3 (r1.flatMap gRule), .own Aq1 aq1.length cq1 3 1 (aq1.map I), .blk b1 26 [I ak1, .slice Aq1 aq1.length cq1, Str an1, I apt1]] := hs3.call0 hs4'
   clear hs4'
   refine q trivial rfl rfl (asg (v := .bool (rulesAllow r1 ak1 aq1 an1 apt1)) rfl) ?_
   refine nl ?_
   refine nN ?_
   refine sq ?_
   refine rg ?_
   refine q trivial rfl rfl (mv (v := .slice A1 r1.length c1) rfl) ?_
   refine q trivial rfl rfl (ldg (vs := [I ak1, .slice Aq1 aq1.length cq1, Str an1, I apt1]) hs4 2 rfl rfl rfl rfl ag26) ?_
   refine cl trivial rfl (sRulesAllow (Azs := A1) (czs := c1) (zs := r1) (ak := ak1) (Aaq := Aq1) (caq := cq1) (aq := aq1) (an := an1) (apt := apt1) (w := _) (hzs := (hs4.sl0 0 rfl)) (hzs_e := (by exact fun u hu => Nat.le_trans (p2 u (by first | exact hu | exact List.mem_of_mem_take hu | exact List.mem_of_mem_drop hu)) (by decide))) (haq := (hs4.sl0 1 rfl)) (han_n := (by first | omega | (simp; done) | (simp; omega)))) ?_
   rintro _ w5 ⟨rfl, hs5'⟩
   have hs5 : SH w w5 [] [.own A1 r1.length c1 33 3 (r1.flatMap gRule), .own Aq1 aq1.length cq1 3 1 (aq1.map I), .blk b1 26 [I ak1, .slice Aq1 aq1.length cq1, Str an1, I apt1]] := hs4.call0 hs5'
   clear hs5'
   refine q trivial rfl rfl (asg (v := .bool (rulesAllow r1 ak1 aq1 an1 apt1)) rfl) ?_
   refine nl ?_
   refine nN ?_
   refine sq ?_
   refine sq ?_
   refine rg ?_
   refine q trivial rfl rfl (mv (v := .bool (rulesAllow r1 ak1 aq1 an1 apt1)) rfl) ?_
   refine q trivial rfl rfl (mv (v := .bool (rulesAllow r1 ak1 aq1 an1 apt1)) rfl) ?_
   refine q trivial rfl rfl (neb (a := (rulesAllow r1 ak1 aq1 an1 apt1)) (b := (rulesAllow r1 ak1 aq1 an1 apt1)) tb4 rfl rfl) ?_
   refine q trivial rfl rfl (mv (v := .bool (decide ((rulesAllow r1 ak1 aq1 an1 apt1) ≠ (rulesAllow r1 ak1 aq1 an1 apt1)))) rfl) ?_
   refine spd (p := (rulesAllow r1 ak1 aq1 an1 apt1) ≠ (rulesAllow r1 ak1 aq1 an1 apt1)) 24 rfl (fun h2 => absurd h2 (by exact fun h => h rfl)) (fun h2 => ?_)
   refine q ⟨_, rfl, rfl⟩ rfl rfl (mv (v := .bool (rulesAllow r1 ak1 aq1 an1 apt1)) rfl) ?_
   refine q ⟨_, rfl, rfl⟩ rfl rfl (nt (b := rulesAllow r1 ak1 aq1 an1 apt1) rfl) ?_
   refine q trivial rfl rfl (pf (v := .bool (!(rulesAllow r1 ak1 aq1 an1 apt1))) rfl rfl) ?_
   refine q trivial rfl rfl (mv (v := .bool (!(rulesAllow r1 ak1 aq1 an1 apt1))) rfl) ?_
   refine spl (b := !(rulesAllow r1 ak1 aq1 an1 apt1)) 28 rfl (fun h3 => ?_) (fun h3 => ?_)
   · have h4 : (rulesAllow r1 ak1 aq1 an1 apt1) = false := by simpa using h3
     refine gk true rfl rfl rfl rfl rfl ?_
     refine gk true rfl rfl rfl rfl rfl ?_
     refine gk true rfl rfl rfl rfl rfl ?_
     refine q trivial rfl rfl (pt (v := .bool true) rfl rfl) ?_
     refine nl ?_
     refine nN ?_
     refine cdt rfl ?_
     refine sq ?_
     refine rg ?_
     refine q trivial rfl rfl (mv (v := .bool (rulesAllow r1 ak1 aq1 an1 apt1)) rfl) ?_
     refine q trivial rfl rfl (mv (v := .bool (rulesAllow r1 ak1 aq1 an1 apt1)) rfl) ?_
     refine q trivial rfl rfl (eqb (a := (rulesAllow r1 ak1 aq1 an1 apt1)) (b := (rulesAllow r1 ak1 aq1 an1 apt1)) tb4 rfl rfl) ?_
     refine q trivial rfl rfl (asg (v := .bool (decide ((rulesAllow r1 ak1 aq1 an1 apt1) = (rulesAllow r1 ak1 aq1 an1 apt1)))) rfl) ?_
     refine nl ?_
     refine nN ?_
     refine rt (tR ?_)
     refine fret (v := .bool (decide ((rulesAllow r1 ak1 aq1 an1 apt1) = (rulesAllow r1 ak1 aq1 an1 apt1)))) (.tmp .nil) rfl ?_
     have e1 : (decide ((rulesAllow r1 ak1 aq1 an1 apt1) = (rulesAllow r1 ak1 aq1 an1 apt1))) = true := by first | rfl | (simp; done) | exact allow_rest (by assumption) (by assumption)
     exact ⟨(congrArg (Value.bool) e1), (hs5.pick [] rfl (by decide))⟩
   · have h5 : (rulesAllow r1 ak1 aq1 an1 apt1) = true := by simpa using h3
     refine q ⟨_, rfl, rfl⟩ rfl rfl (mv (v := .slice A1 r1.length c1) rfl) ?_
     refine q ⟨_, rfl, rfl⟩ rfl rfl (lnA (n := r1.length) sl23 rfl) ?_
     refine q ⟨_, rfl, rfl⟩ rfl rfl (eqi (k := .i64) (a := ((r1.length : Nat) : Int)) (b := 0) rfl rfl) ?_
     refine q trivial rfl rfl (pf (v := .bool (decide (((r1.length : Nat) : Int) = 0))) rfl rfl) ?_
     refine nl ?_
     refine nN ?_
     refine cdd (p := ((r1.length : Nat) : Int) = 0) rfl (fun h6 => ?_) (fun h6 => ?_)
     · refine sq ?_
       refine rg ?_
       refine q trivial rfl rfl (mv (v := .bool (rulesAllow r1 ak1 aq1 an1 apt1)) rfl) ?_
       refine q trivial rfl rfl (mv (v := .bool (rulesAllow r1 ak1 aq1 an1 apt1)) rfl) ?_
       refine q trivial rfl rfl (eqb (a := (rulesAllow r1 ak1 aq1 an1 apt1)) (b := (rulesAllow r1 ak1 aq1 an1 apt1)) tb4 rfl rfl) ?_
       refine q trivial rfl rfl (asg (v := .bool (decide ((rulesAllow r1 ak1 aq1 an1 apt1) = (rulesAllow r1 ak1 aq1 an1 apt1)))) rfl) ?_
       refine nl ?_
       refine nN ?_
       refine rt (tR ?_)
       refine fret (v := .bool (decide ((rulesAllow r1 ak1 aq1 an1 apt1) = (rulesAllow r1 ak1 aq1 an1 apt1)))) (.tmp .nil) rfl ?_
       have e2 : (decide ((rulesAllow r1 ak1 aq1 an1 apt1) = (rulesAllow r1 ak1 aq1 an1 apt1))) = true := by first | rfl | (simp; done) | exact allow_rest (by assumption) (by assumption)
       exact ⟨(congrArg (Value.bool) e2), (hs5.pick [] rfl (by decide))⟩
     · refine sk ?_
       refine nN ?_
       refine sq ?_
       refine rq (fun w' => SH w w' [] [.own A1 r1.length c1 33 3 (r1.flatMap gRule), .own Aq1 aq1.length cq1 3 1 (aq1.map I), .blk b1 26 [I ak1, .slice Aq1 aq1.length cq1, Str an1, I apt1]]) mixed (by kernel_rfl) hs5.drew ?_
       refine qq trivial rfl rfl (fun wq hsq => mv (v := .slice A1 r1.length c1) rfl) ?_
       refine qq trivial rfl rfl (fun wq hsq => cuhf (zs := r1) 1 sl23 rfl rfl (by first | omega | (simp; done) | (simp; omega)) (own_cap hsq 0 rfl).1) ?_
       refine qq trivial rfl rfl (fun wq hsq => ldg (vs := [I ak1, .slice Aq1 aq1.length cq1, Str an1, I apt1]) hsq 2 rfl rfl rfl rfl ag26) ?_
       refine qc (.bool (rulesAllow (r1.take 1) ak1 aq1 an1 apt1)) trivial rfl (fun wq hsq => (iRulesAllow (Azs := A1) (czs := c1) (zs := r1.take 1) (ak := ak1) (Aaq := Aq1) (caq := cq1) (aq := aq1) (an := an1) (apt := apt1) (w := _) (hzs := (Sl.cuthf (g := gRule) (sz := 3) (fun _ => rfl) (hsq.sl0 0 rfl) (by first | omega | (simp; done) | (simp; omega)))) (hzs_e := (by exact fun u hu => Nat.le_trans (p2 u (by first | exact hu | exact List.mem_of_mem_take hu | exact List.mem_of_mem_drop hu)) (by decide))) (haq := (hsq.sl0 1 rfl)) (han_n := (by first | omega | (simp; done) | (simp; omega))) (hGp := (tab_up hGp hsq))).mono (fun v w' h => ⟨h.1, by simpa using hsq.call0 h.2⟩)) ?_
       refine qq trivial rfl rfl (fun wq hsq => mv (v := .bool (rulesAllow (r1.take 1) ak1 aq1 an1 apt1)) rfl) ?_
       refine qspl (b := rulesAllow (r1.take 1) ak1 aq1 an1 apt1) 40 rfl (fun h7 => ?_) (fun h7 => ?_)
       · refine qk true rfl rfl rfl rfl rfl ?_
         refine qk true rfl rfl rfl rfl rfl ?_
         refine qk true rfl rfl rfl rfl rfl ?_
         refine qk true rfl rfl rfl rfl rfl ?_
         refine qq trivial rfl rfl (fun wq hsq => pt (v := .bool true) rfl rfl) ?_
         refine qq trivial rfl rfl (fun wq hsq => asg (v := .bool true) rfl) ?_
         refine qn (fun w6 hs6 => ?_)
         refine nN ?_
         refine rt ?_
         refine fret (v := .bool true) (.tmp .nil) rfl ?_
         exact ⟨rfl, (hs6.pick [] rfl (by decide))⟩
       · refine qq ⟨_, rfl, rfl⟩ rfl rfl (fun wq hsq => mv (v := .slice A1 r1.length c1) rfl) ?_
         refine qq ⟨_, rfl, rfl⟩ rfl rfl (fun wq hsq => culf (zs := r1) 1 sl23 rfl rfl (by first | omega | (simp; done) | (simp; omega))) ?_
         refine qq ⟨_, rfl, rfl⟩ rfl rfl (fun wq hsq => ldg (vs := [I ak1, .slice Aq1 aq1.length cq1, Str an1, I apt1]) hsq 2 rfl rfl rfl rfl ag26) ?_
         refine qc (.bool (rulesAllow (r1.drop 1) ak1 aq1 an1 apt1)) ⟨_, rfl, rfl⟩ rfl (fun wq hsq => (iRulesAllow (Azs := if c1 = 1 then A1 else A1.map (·.add (1 * 3))) (czs := c1 - 1) (zs := r1.drop 1) (ak := ak1) (Aaq := Aq1) (caq := cq1) (aq := aq1) (an := an1) (apt := apt1) (w := _) (hzs := (Sl.cutlf (g := gRule) (sz := 3) (fun _ => rfl) (hsq.sl0 0 rfl) (by first | omega | (simp; done) | (simp; omega)))) (hzs_e := (by exact fun u hu => Nat.le_trans (p2 u (by first | exact hu | exact List.mem_of_mem_take hu | exact List.mem_of_mem_drop hu)) (by decide))) (haq := (hsq.sl0 1 rfl)) (han_n := (by first | omega | (simp; done) | (simp; omega))) (hGp := (tab_up hGp hsq))).mono (fun v w' h => ⟨h.1, by simpa using hsq.call0 h.2⟩)) ?_
         refine qq trivial rfl rfl (fun wq hsq => pf (v := .bool (rulesAllow (r1.drop 1) ak1 aq1 an1 apt1)) rfl rfl) ?_
         refine qq trivial rfl rfl (fun wq hsq => asg (v := .bool (rulesAllow (r1.drop 1) ak1 aq1 an1 apt1)) rfl) ?_
         refine qn (fun w7 hs7 => ?_)
         refine nN ?_
         refine rt ?_
         refine fret (v := .bool (rulesAllow (r1.drop 1) ak1 aq1 an1 apt1)) (.tmp .nil) rfl ?_
         have e3 : (rulesAllow (r1.drop 1) ak1 aq1 an1 apt1) = true := by first | rfl | (simp; done) | exact allow_rest (by assumption) (by assumption)
         exact ⟨(congrArg (Value.bool) e3), (hs7.pick [] rfl (by decide))⟩

end Go.Proofs.YtogejeniggngjaaDoor
