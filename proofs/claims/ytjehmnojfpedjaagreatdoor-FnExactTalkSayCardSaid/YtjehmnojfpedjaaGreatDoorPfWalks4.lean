/-
  Part of the proofs over this seat: what each function of the program computes, function by function (the text is written by a program of this hand-in's own).
  Conditions: each theorem states its own.
-/
import Derived.Test.YtjehmnojfpedjaaGreatDoorPfWalks3
namespace Go.Proofs.YtjehmnojfpedjaaGreatDoor
open Go.PF
set_option maxRecDepth 100000
set_option linter.unusedSimpArgs false
set_option linter.unusedVariables false

theorem sTalkSay (sx : Int) {Awt : Option Addr} {cwt : Nat} (wt : List Int) {Alg : Option Addr} {clg : Nat} (lg : List (List UInt8 × List UInt8)) (to : List UInt8) {Abs : Option Addr} {cbs : Nat} (bs : List Int) (w : World) (hwt : Sl w [] 1 Awt wt.length cwt (wt.map I)) (hlg : Sl w [] 2 Alg lg.length clg (lg.flatMap gLogin)) (hlg_e : ∀ u ∈ lg, u.1.length ≤ 9223372036854775807 ∧ u.2.length ≤ 9223372036854775807) (hto_n : to.length ≤ 1099511627776) (hbs : Sl w [] 1 Abs bs.length cbs (bs.map I)) : Does Tryz.prog 12 [.agg #[I sx, .slice Awt wt.length cwt, .slice Alg lg.length clg, Str to], .slice Abs bs.length cbs] w (fun v w' => ∃ Awr : Option Addr, ∃ cwr : Nat, ∃ Alr : Option Addr, ∃ clr : Nat, ∃ Ayr : Option Addr, ∃ cyr : Nat, v = .tuple #[.agg #[.int .i64 ((talkSay sx wt lg to bs).1.1), .slice Awr ((talkSay sx wt lg to bs).1.2.1).length cwr, .slice Alr ((talkSay sx wt lg to bs).1.2.2.1).length clr, Str ((talkSay sx wt lg to bs).1.2.2.2)], .slice Ayr ((talkSay sx wt lg to bs).2.1).length cyr, .bool ((talkSay sx wt lg to bs).2.2)] ∧ SH w w' [] [.own Awr (((talkSay sx wt lg to bs).1.2.1).length) cwr 3 1 (((talkSay sx wt lg to bs).1.2.1).map I), .own Alr (((talkSay sx wt lg to bs).1.2.2.1).length) clr 51 2 (((talkSay sx wt lg to bs).1.2.2.1).flatMap gLogin), .own Ayr (((talkSay sx wt lg to bs).2.1).length) cyr 3 1 (((talkSay sx wt lg to bs).2.1).map I)]) := by
 refine fn_enter (N := 57) Tryz.func12 rfl (by kernel_rfl) rfl rfl rfl ?_
 have hs0 : SH w w [] [] := SH.refl w []
 have hwt_m : wt.length ≤ 9223372036854775807 := Nat.le_trans hwt.cap hwt.capMax
 have hlg_m : lg.length ≤ 9223372036854775807 := Nat.le_trans hlg.cap hlg.capMax
 have hbs_m : bs.length ≤ 9223372036854775807 := Nat.le_trans hbs.cap hbs.capMax
 refine sq (rg (bx (v := .agg #[I sx, .slice Awt wt.length cwt, .slice Alg lg.length clg, Str to]) (cs := [I sx, .slice Awt wt.length cwt, .slice Alg lg.length clg, Str to]) hs0 rfl rfl trivial rfl (fun b1 w1 (hs1 : SH w w1 [] [.blk b1 29 [I sx, .slice Awt wt.length cwt, .slice Alg lg.length clg, Str to]]) => ?_)))
 refine al (v := .agg #[I 0, ns, ns, Str []]) (cs := [I 0, ns, ns, Str []]) hs1 tz29 rfl trivial rfl (fun b2 w2 (hs2 : SH w w2 [] [.blk b1 29 [I sx, .slice Awt wt.length cwt, .slice Alg lg.length clg, Str to], .blk b2 29 [I 0, ns, ns, Str []]]) => ?_)
 refine qt rfl (asg (v := ns) rfl) (qt rfl (asg (v := .bool false) rfl) (nl (nN (sq (sq (rg (qt rfl (ldg (vs := [I sx, .slice Awt wt.length cwt, .slice Alg lg.length clg, Str to]) hs2 0 rfl rfl rfl rfl ag29) ?_)))))))
 refine cl trivial rfl (sTalkValid (sx := sx) (Awt := Awt) (cwt := cwt) (wt := wt) (Alg := Alg) (clg := clg) (lg := lg) (to := to) (w := _) (hwt := (hwt.up0 hs2)) (hlg := (hlg.up0 hs2)) (hlg_e := hlg_e) (hto_n := (by (first | omega | (simp; done) | (simp; omega))))) ?_
 rintro _ w3 ⟨rfl, hs3'⟩
 have hs3 := hs2.call0 hs3'
 clear hs3'
 refine qt rfl (nt (b := talkOk sx wt lg to) rfl) (qt rfl (mv (v := .bool (!(talkOk sx wt lg to))) rfl) ?_)
 refine spl (b := !(talkOk sx wt lg to)) 16 rfl (fun h1 => ?_) (fun h1 => ?_)
 · have h2 : (talkOk sx wt lg to) = false := by simpa using h1
   refine gk true rfl rfl rfl rfl rfl (gk true rfl rfl rfl rfl rfl (gk true rfl rfl rfl rfl rfl (qt rfl (pt (v := .bool true) rfl rfl) (nl (nN (cdt rfl (sq ?_)))))))
   refine rg (qt rfl (bdv (v := .agg #[I 0, ns, ns, Str []]) [] rfl (fun _ => by kernel_rfl)) (bsk hs3 sl22 [] [] trivial rfl (fun b3 w4 (hs4 : SH w w4 [] [.blk b1 29 [I sx, .slice Awt wt.length cwt, .slice Alg lg.length clg, Str to], .blk b2 29 [I 0, ns, ns, Str []], oI b3 ([] : List Int) 0 3]) => ?_)))
   refine stg (vs := [I 0, ns, ns, Str []]) hs4 1 rfl rfl rfl rfl rfl rfl rfl ag29 trivial (fun w5 (hs5 : SH w w5 [] [.blk b1 29 [I sx, .slice Awt wt.length cwt, .slice Alg lg.length clg, Str to], oI b3 ([] : List Int) 0 3, .blk b2 29 [I 0, ns, ns, Str []]]) => ?_)
   refine qt rfl (asg (v := sb b3 (([] : List Int).length) 0) rfl) (qt rfl (asg (v := .bool false) rfl) (nl (nN (rt (tR ?_)))))
   refine fret (v := .tuple #[.agg #[I 0, ns, ns, Str []], sb b3 (([] : List Int).length) 0, .bool false]) (resC hs5 2 rfl rfl ag29 rfl (.tmp (.tmp .nil))) rfl ?_
   have hs6 : SH w w5 [] [.blk b1 29 [I sx, .slice Awt wt.length cwt, .slice Alg lg.length clg, Str to], oI b3 ([] : List Int) 0 3, .blk b2 29 [I 0, ns, ns, Str []], .own none (([] : List Int).length) 0 3 1 (([] : List Int).map I)] := SH.nils (by intro i hi; simp at hi; subst hi; exact nilItem) hs5
   have hs7 : SH w w5 [] [.blk b1 29 [I sx, .slice Awt wt.length cwt, .slice Alg lg.length clg, Str to], oI b3 ([] : List Int) 0 3, .blk b2 29 [I 0, ns, ns, Str []], .own none (([] : List Int).length) 0 3 1 (([] : List Int).map I), .own none (([] : List (List UInt8 × List UInt8)).length) 0 51 2 (([] : List (List UInt8 × List UInt8)).flatMap gLogin)] := SH.nils (by intro i hi; simp at hi; subst hi; exact nilItemF) hs6
   have e1 : talkSay sx wt lg to bs = ((0, ([] : List Int), ([] : List (List UInt8 × List UInt8)), []), ([] : List Int), false) := by exact talkSay_no (.inl (by assumption))
   have e2 : 0 = (talkSay sx wt lg to bs).1.1 := by rw [e1]
   have e3 : ([] : List Int) = (talkSay sx wt lg to bs).1.2.1 := by rw [e1]
   have e4 : ([] : List Int).length = ((talkSay sx wt lg to bs).1.2.1).length := by exact congrArg List.length e3
   have e5 : ([] : List (List UInt8 × List UInt8)) = (talkSay sx wt lg to bs).1.2.2.1 := by rw [e1]
   have e6 : ([] : List (List UInt8 × List UInt8)).length = ((talkSay sx wt lg to bs).1.2.2.1).length := by exact congrArg List.length e5
   have e7 : [] = (talkSay sx wt lg to bs).1.2.2.2 := by rw [e1]
   have e8 : ([] : List Int) = (talkSay sx wt lg to bs).2.1 := by rw [e1]
   have e9 : ([] : List Int).length = ((talkSay sx wt lg to bs).2.1).length := by exact congrArg List.length e8
   have e10 : false = (talkSay sx wt lg to bs).2.2 := by rw [e1]
   exact ⟨none, 0, none, 0, (some ⟨b3, 0, none⟩), 0, (tup3 (aggv (lc (congrArg (Value.int .i64) e2) (lc (slv rfl e4 rfl) (lc (slv rfl e6 rfl) (lc (congrArg (Str) e7) rfl))))) (slv rfl e9 rfl) (congrArg (Value.bool) e10)), ((hs7.pick [3, 4, 1] rfl (by decide)).cast (lc (own_eq (g := I) rfl e4 rfl e3) (lc (own_eqf (g := gLogin) rfl e6 rfl e5) (lc (own_eq (g := I) rfl e9 rfl e8) rfl))))⟩
 · have h3 : (talkOk sx wt lg to) = true := by simpa using h1
   refine q ⟨_, rfl, rfl⟩ rfl rfl (mv (v := .slice Abs bs.length cbs) rfl) (cl ⟨_, rfl, rfl⟩ rfl (sBytesValid (Azs := Abs) (czs := cbs) (zs := bs) (w := _) (hzs := (hbs.up0 hs3))) ?_)
   rintro _ w6 ⟨rfl, hs8'⟩
   have hs8 := hs3.call0 hs8'
   clear hs8'
   refine q ⟨_, rfl, rfl⟩ rfl rfl (nt (b := isBytes bs) rfl) (qt rfl (pf (v := .bool (!(isBytes bs))) rfl rfl) (nl (nN ?_)))
   refine cd (b := !(isBytes bs)) rfl (fun h4 => ?_) (fun h4 => ?_)
   · have h5 : (isBytes bs) = false := by simpa using h4
     refine sq (rg (qt rfl (bdv (v := .agg #[I 0, ns, ns, Str []]) [] rfl (fun _ => by kernel_rfl)) (bsk hs8 sl22 [] [] trivial rfl (fun b4 w7 (hs9 : SH w w7 [] [.blk b1 29 [I sx, .slice Awt wt.length cwt, .slice Alg lg.length clg, Str to], .blk b2 29 [I 0, ns, ns, Str []], oI b4 ([] : List Int) 0 3]) => ?_))))
     refine stg (vs := [I 0, ns, ns, Str []]) hs9 1 rfl rfl rfl rfl rfl rfl rfl ag29 trivial (fun w8 (hs10 : SH w w8 [] [.blk b1 29 [I sx, .slice Awt wt.length cwt, .slice Alg lg.length clg, Str to], oI b4 ([] : List Int) 0 3, .blk b2 29 [I 0, ns, ns, Str []]]) => ?_)
     refine qt rfl (asg (v := sb b4 (([] : List Int).length) 0) rfl) (qt rfl (asg (v := .bool false) rfl) (nl (nN (rt (tR ?_)))))
     refine fret (v := .tuple #[.agg #[I 0, ns, ns, Str []], sb b4 (([] : List Int).length) 0, .bool false]) (resC hs10 2 rfl rfl ag29 rfl (.tmp (.tmp .nil))) rfl ?_
     have hs11 : SH w w8 [] [.blk b1 29 [I sx, .slice Awt wt.length cwt, .slice Alg lg.length clg, Str to], oI b4 ([] : List Int) 0 3, .blk b2 29 [I 0, ns, ns, Str []], .own none (([] : List Int).length) 0 3 1 (([] : List Int).map I)] := SH.nils (by intro i hi; simp at hi; subst hi; exact nilItem) hs10
     have hs12 : SH w w8 [] [.blk b1 29 [I sx, .slice Awt wt.length cwt, .slice Alg lg.length clg, Str to], oI b4 ([] : List Int) 0 3, .blk b2 29 [I 0, ns, ns, Str []], .own none (([] : List Int).length) 0 3 1 (([] : List Int).map I), .own none (([] : List (List UInt8 × List UInt8)).length) 0 51 2 (([] : List (List UInt8 × List UInt8)).flatMap gLogin)] := SH.nils (by intro i hi; simp at hi; subst hi; exact nilItemF) hs11
     have e11 : talkSay sx wt lg to bs = ((0, ([] : List Int), ([] : List (List UInt8 × List UInt8)), []), ([] : List Int), false) := by exact talkSay_no (.inr (.inl (by assumption)))
     have e12 : 0 = (talkSay sx wt lg to bs).1.1 := by rw [e11]
     have e13 : ([] : List Int) = (talkSay sx wt lg to bs).1.2.1 := by rw [e11]
     have e14 : ([] : List Int).length = ((talkSay sx wt lg to bs).1.2.1).length := by exact congrArg List.length e13
     have e15 : ([] : List (List UInt8 × List UInt8)) = (talkSay sx wt lg to bs).1.2.2.1 := by rw [e11]
     have e16 : ([] : List (List UInt8 × List UInt8)).length = ((talkSay sx wt lg to bs).1.2.2.1).length := by exact congrArg List.length e15
     have e17 : [] = (talkSay sx wt lg to bs).1.2.2.2 := by rw [e11]
     have e18 : ([] : List Int) = (talkSay sx wt lg to bs).2.1 := by rw [e11]
     have e19 : ([] : List Int).length = ((talkSay sx wt lg to bs).2.1).length := by exact congrArg List.length e18
     have e20 : false = (talkSay sx wt lg to bs).2.2 := by rw [e11]
     exact ⟨none, 0, none, 0, (some ⟨b4, 0, none⟩), 0, (tup3 (aggv (lc (congrArg (Value.int .i64) e12) (lc (slv rfl e14 rfl) (lc (slv rfl e16 rfl) (lc (congrArg (Str) e17) rfl))))) (slv rfl e19 rfl) (congrArg (Value.bool) e20)), ((hs12.pick [3, 4, 1] rfl (by decide)).cast (lc (own_eq (g := I) rfl e14 rfl e13) (lc (own_eqf (g := gLogin) rfl e16 rfl e15) (lc (own_eq (g := I) rfl e19 rfl e18) rfl))))⟩
   · have h6 : (isBytes bs) = true := by simpa using h4
     refine sk (nN (sq (sq (rg (qt rfl (fa 0 fo29_0 rfl) (qt rfl (ld (v := I sx) hs8 0 rfl rfl rfl one3) (nl ?_)))))))
     refine nN (bl (sq (rg (qt rfl (eqi (k := .i64) (a := sx) (b := 0) rfl rfl) (qt rfl (asg (v := .bool (decide (sx = 0))) rfl) (nl (nN ?_)))))))
     refine cdd (p := sx = 0) rfl (fun h7 => ?_) (fun h7 => ?_)
     · refine sq (rg (qt rfl (ldg (vs := [I sx, .slice Awt wt.length cwt, .slice Alg lg.length clg, Str to]) hs8 0 rfl rfl rfl rfl ag29) (qt rfl (mv (v := .slice Abs bs.length cbs) rfl) (cl trivial rfl (sL23Hello (sx := sx) (Awt := Awt) (cwt := cwt) (wt := wt) (Alg := Alg) (clg := clg) (lg := lg) (to := to) (Abs := Abs) (cbs := cbs) (bs := bs) (w := _) (hwt := (hwt.up0 hs8)) (hwt_n := (by (have htp := talkOk_parts (by assumption : talkOk sx wt lg to = true); have hmw := methOk_len htp.2.1; first | omega | (simp; done) | (simp; omega)))) (hlg := (hlg.up0 hs8)) (hlg_e := hlg_e) (hlg_n := (by (have htp := talkOk_parts (by assumption : talkOk sx wt lg to = true); have hmw := methOk_len htp.2.1; first | omega | (simp; done) | (simp; omega)))) (hbs := (hbs.up0 hs8))) ?_))))
       rintro _ w9 ⟨Aw1, cw1, Al1, cl1, Ay1, cy1, rfl, hs13'⟩
       have hs13 := hs8.call0 hs13'
       clear hs13'
       refine qt rfl (mv (v := .tuple #[.agg #[I ((sayHello wt bs).1), .slice Aw1 wt.length cw1, .slice Al1 lg.length cl1, Str []], .slice Ay1 (((sayHello wt bs).2).length) cy1]) rfl) (qt rfl (xt 0 (v := .agg #[I ((sayHello wt bs).1), .slice Aw1 wt.length cw1, .slice Al1 lg.length cl1, Str []]) rfl rfl) (qt rfl (xt 1 (v := .slice Ay1 (((sayHello wt bs).2).length) cy1) rfl rfl) (al (v := .agg #[I 0, ns, ns, Str []]) (cs := [I 0, ns, ns, Str []]) hs13 tz29 rfl trivial rfl (fun b5 w10 (hs14 : SH w w10 [] [.blk b1 29 [I sx, .slice Awt wt.length cwt, .slice Alg lg.length clg, Str to], .blk b2 29 [I 0, ns, ns, Str []], .own Aw1 wt.length cw1 3 1 (wt.map I), .own Al1 lg.length cl1 51 2 (lg.flatMap gLogin), .own Ay1 (((sayHello wt bs).2).length) cy1 3 1 (((sayHello wt bs).2).map I), .blk b5 29 [I 0, ns, ns, Str []]]) => ?_))))
       refine stg (vs := [I ((sayHello wt bs).1), .slice Aw1 wt.length cw1, .slice Al1 lg.length cl1, Str []]) hs14 5 rfl rfl rfl rfl rfl rfl rfl ag29 trivial (fun w11 (hs15 : SH w w11 [] [.blk b1 29 [I sx, .slice Awt wt.length cwt, .slice Alg lg.length clg, Str to], .blk b2 29 [I 0, ns, ns, Str []], .own Aw1 wt.length cw1 3 1 (wt.map I), .own Al1 lg.length cl1 51 2 (lg.flatMap gLogin), .own Ay1 (((sayHello wt bs).2).length) cy1 3 1 (((sayHello wt bs).2).map I), .blk b5 29 [I ((sayHello wt bs).1), .slice Aw1 wt.length cw1, .slice Al1 lg.length cl1, Str []]]) => ?_)
       refine qt rfl (asg (v := .slice Ay1 (((sayHello wt bs).2).length) cy1) rfl) (nl (nN (sq (rg (qt rfl (ldg (vs := [I ((sayHello wt bs).1), .slice Aw1 wt.length cw1, .slice Al1 lg.length cl1, Str []]) hs15 5 rfl rfl rfl rfl ag29) (qt rfl (mv (v := .slice Ay1 (((sayHello wt bs).2).length) cy1) rfl) (stg (vs := [I ((sayHello wt bs).1), .slice Aw1 wt.length cw1, .slice Al1 lg.length cl1, Str []]) hs15 1 rfl rfl rfl rfl rfl rfl rfl ag29 trivial (fun w12 (hs16 : SH w w12 [] [.blk b1 29 [I sx, .slice Awt wt.length cwt, .slice Alg lg.length clg, Str to], .own Aw1 wt.length cw1 3 1 (wt.map I), .own Al1 lg.length cl1 51 2 (lg.flatMap gLogin), .own Ay1 (((sayHello wt bs).2).length) cy1 3 1 (((sayHello wt bs).2).map I), .blk b5 29 [I ((sayHello wt bs).1), .slice Aw1 wt.length cw1, .slice Al1 lg.length cl1, Str []], .blk b2 29 [I ((sayHello wt bs).1), .slice Aw1 wt.length cw1, .slice Al1 lg.length cl1, Str []]]) => ?_))))))))
       refine qt rfl (asg (v := .slice Ay1 (((sayHello wt bs).2).length) cy1) rfl) (qt rfl (asg (v := .bool true) rfl) (nl (nN ?_)))
       have hs17 : SH w w12 [] [.own Aw1 wt.length cw1 3 1 (wt.map I), .own Al1 lg.length cl1 51 2 (lg.flatMap gLogin), .own Ay1 (((sayHello wt bs).2).length) cy1 3 1 (((sayHello wt bs).2).map I), .blk b2 29 [I ((sayHello wt bs).1), .slice Aw1 wt.length cw1, .slice Al1 lg.length cl1, Str []]] := hs16.pick [1, 2, 3, 5] rfl (by decide)
       refine rt (bR (tR ?_))
       refine fret (v := .tuple #[.agg #[I ((sayHello wt bs).1), .slice Aw1 wt.length cw1, .slice Al1 lg.length cl1, Str []], .slice Ay1 (((sayHello wt bs).2).length) cy1, .bool true]) (resC hs17 3 rfl rfl ag29 rfl (.tmp (.tmp .nil))) rfl ?_
       have e21 : talkSay sx wt lg to bs = (((sayHello wt bs).1, wt, lg, []), (sayHello wt bs).2, true) := by exact talkSay_0n (by assumption) (by assumption) (by assumption)
       have e22 : (sayHello wt bs).1 = (talkSay sx wt lg to bs).1.1 := by rw [e21]
       have e23 : wt = (talkSay sx wt lg to bs).1.2.1 := by rw [e21]
       have e24 : wt.length = ((talkSay sx wt lg to bs).1.2.1).length := by exact congrArg List.length e23
       have e25 : lg = (talkSay sx wt lg to bs).1.2.2.1 := by rw [e21]
       have e26 : lg.length = ((talkSay sx wt lg to bs).1.2.2.1).length := by exact congrArg List.length e25
       have e27 : [] = (talkSay sx wt lg to bs).1.2.2.2 := by rw [e21]
       have e28 : (sayHello wt bs).2 = (talkSay sx wt lg to bs).2.1 := by rw [e21]
       have e29 : ((sayHello wt bs).2).length = ((talkSay sx wt lg to bs).2.1).length := by exact congrArg List.length e28
       have e30 : true = (talkSay sx wt lg to bs).2.2 := by rw [e21]
       exact ⟨Aw1, cw1, Al1, cl1, Ay1, cy1, (tup3 (aggv (lc (congrArg (Value.int .i64) e22) (lc (slv rfl e24 rfl) (lc (slv rfl e26 rfl) (lc (congrArg (Str) e27) rfl))))) (slv rfl e29 rfl) (congrArg (Value.bool) e30)), ((hs17.pick [0, 1, 2] rfl (by decide)).cast (lc (own_eq (g := I) rfl e24 rfl e23) (lc (own_eqf (g := gLogin) rfl e26 rfl e25) (lc (own_eq (g := I) rfl e29 rfl e28) rfl))))⟩
     · refine sq (rg (qt rfl (eqi (k := .i64) (a := sx) (b := 1) rfl rfl) (qt rfl (asg (v := .bool (decide (sx = 1))) rfl) (nl (nN ?_)))))
       refine cdd (p := sx = 1) rfl (fun h8 => ?_) (fun h8 => ?_)
       · refine sq (rg (qt rfl (ldg (vs := [I sx, .slice Awt wt.length cwt, .slice Alg lg.length clg, Str to]) hs8 0 rfl rfl rfl rfl ag29) (qt rfl (mv (v := .slice Abs bs.length cbs) rfl) (cl trivial rfl (sL23Login (sx := sx) (Awt := Awt) (cwt := cwt) (wt := wt) (Alg := Alg) (clg := clg) (lg := lg) (to := to) (Abs := Abs) (cbs := cbs) (bs := bs) (w := _) (hwt := (hwt.up0 hs8)) (hwt_n := (by (have htp := talkOk_parts (by assumption : talkOk sx wt lg to = true); have hmw := methOk_len htp.2.1; first | omega | (simp; done) | (simp; omega)))) (hlg := (hlg.up0 hs8)) (hlg_e := hlg_e) (hlg_n := (by (have htp := talkOk_parts (by assumption : talkOk sx wt lg to = true); have hmw := methOk_len htp.2.1; first | omega | (simp; done) | (simp; omega)))) (hbs := (hbs.up0 hs8))) ?_))))
         rintro _ w13 ⟨Aw2, cw2, Al2, cl2, Ay2, cy2, rfl, hs18'⟩
         have hs18 := hs8.call0 hs18'
         clear hs18'
         refine qt rfl (mv (v := .tuple #[.agg #[I ((sayLogin lg bs).1), .slice Aw2 wt.length cw2, .slice Al2 lg.length cl2, Str []], .slice Ay2 (((sayLogin lg bs).2).length) cy2]) rfl) (qt rfl (xt 0 (v := .agg #[I ((sayLogin lg bs).1), .slice Aw2 wt.length cw2, .slice Al2 lg.length cl2, Str []]) rfl rfl) (qt rfl (xt 1 (v := .slice Ay2 (((sayLogin lg bs).2).length) cy2) rfl rfl) (al (v := .agg #[I 0, ns, ns, Str []]) (cs := [I 0, ns, ns, Str []]) hs18 tz29 rfl trivial rfl (fun b6 w14 (hs19 : SH w w14 [] [.blk b1 29 [I sx, .slice Awt wt.length cwt, .slice Alg lg.length clg, Str to], .blk b2 29 [I 0, ns, ns, Str []], .own Aw2 wt.length cw2 3 1 (wt.map I), .own Al2 lg.length cl2 51 2 (lg.flatMap gLogin), .own Ay2 (((sayLogin lg bs).2).length) cy2 3 1 (((sayLogin lg bs).2).map I), .blk b6 29 [I 0, ns, ns, Str []]]) => ?_))))
         refine stg (vs := [I ((sayLogin lg bs).1), .slice Aw2 wt.length cw2, .slice Al2 lg.length cl2, Str []]) hs19 5 rfl rfl rfl rfl rfl rfl rfl ag29 trivial (fun w15 (hs20 : SH w w15 [] [.blk b1 29 [I sx, .slice Awt wt.length cwt, .slice Alg lg.length clg, Str to], .blk b2 29 [I 0, ns, ns, Str []], .own Aw2 wt.length cw2 3 1 (wt.map I), .own Al2 lg.length cl2 51 2 (lg.flatMap gLogin), .own Ay2 (((sayLogin lg bs).2).length) cy2 3 1 (((sayLogin lg bs).2).map I), .blk b6 29 [I ((sayLogin lg bs).1), .slice Aw2 wt.length cw2, .slice Al2 lg.length cl2, Str []]]) => ?_)
         refine qt rfl (asg (v := .slice Ay2 (((sayLogin lg bs).2).length) cy2) rfl) (nl (nN (sq (rg (qt rfl (ldg (vs := [I ((sayLogin lg bs).1), .slice Aw2 wt.length cw2, .slice Al2 lg.length cl2, Str []]) hs20 5 rfl rfl rfl rfl ag29) (qt rfl (mv (v := .slice Ay2 (((sayLogin lg bs).2).length) cy2) rfl) (stg (vs := [I ((sayLogin lg bs).1), .slice Aw2 wt.length cw2, .slice Al2 lg.length cl2, Str []]) hs20 1 rfl rfl rfl rfl rfl rfl rfl ag29 trivial (fun w16 (hs21 : SH w w16 [] [.blk b1 29 [I sx, .slice Awt wt.length cwt, .slice Alg lg.length clg, Str to], .own Aw2 wt.length cw2 3 1 (wt.map I), .own Al2 lg.length cl2 51 2 (lg.flatMap gLogin), .own Ay2 (((sayLogin lg bs).2).length) cy2 3 1 (((sayLogin lg bs).2).map I), .blk b6 29 [I ((sayLogin lg bs).1), .slice Aw2 wt.length cw2, .slice Al2 lg.length cl2, Str []], .blk b2 29 [I ((sayLogin lg bs).1), .slice Aw2 wt.length cw2, .slice Al2 lg.length cl2, Str []]]) => ?_))))))))
         refine qt rfl (asg (v := .slice Ay2 (((sayLogin lg bs).2).length) cy2) rfl) (qt rfl (asg (v := .bool true) rfl) (nl (nN ?_)))
         have hs22 : SH w w16 [] [.own Aw2 wt.length cw2 3 1 (wt.map I), .own Al2 lg.length cl2 51 2 (lg.flatMap gLogin), .own Ay2 (((sayLogin lg bs).2).length) cy2 3 1 (((sayLogin lg bs).2).map I), .blk b2 29 [I ((sayLogin lg bs).1), .slice Aw2 wt.length cw2, .slice Al2 lg.length cl2, Str []]] := hs21.pick [1, 2, 3, 5] rfl (by decide)
         refine rt (bR (tR ?_))
         refine fret (v := .tuple #[.agg #[I ((sayLogin lg bs).1), .slice Aw2 wt.length cw2, .slice Al2 lg.length cl2, Str []], .slice Ay2 (((sayLogin lg bs).2).length) cy2, .bool true]) (resC hs22 3 rfl rfl ag29 rfl (.tmp (.tmp .nil))) rfl ?_
         have e31 : talkSay sx wt lg to bs = (((sayLogin lg bs).1, wt, lg, []), (sayLogin lg bs).2, true) := by exact talkSay_1n (by assumption) (by assumption) (by assumption)
         have e32 : (sayLogin lg bs).1 = (talkSay sx wt lg to bs).1.1 := by rw [e31]
         have e33 : wt = (talkSay sx wt lg to bs).1.2.1 := by rw [e31]
         have e34 : wt.length = ((talkSay sx wt lg to bs).1.2.1).length := by exact congrArg List.length e33
         have e35 : lg = (talkSay sx wt lg to bs).1.2.2.1 := by rw [e31]
         have e36 : lg.length = ((talkSay sx wt lg to bs).1.2.2.1).length := by exact congrArg List.length e35
         have e37 : [] = (talkSay sx wt lg to bs).1.2.2.2 := by rw [e31]
         have e38 : (sayLogin lg bs).2 = (talkSay sx wt lg to bs).2.1 := by rw [e31]
         have e39 : ((sayLogin lg bs).2).length = ((talkSay sx wt lg to bs).2.1).length := by exact congrArg List.length e38
         have e40 : true = (talkSay sx wt lg to bs).2.2 := by rw [e31]
         exact ⟨Aw2, cw2, Al2, cl2, Ay2, cy2, (tup3 (aggv (lc (congrArg (Value.int .i64) e32) (lc (slv rfl e34 rfl) (lc (slv rfl e36 rfl) (lc (congrArg (Str) e37) rfl))))) (slv rfl e39 rfl) (congrArg (Value.bool) e40)), ((hs22.pick [0, 1, 2] rfl (by decide)).cast (lc (own_eq (g := I) rfl e34 rfl e33) (lc (own_eqf (g := gLogin) rfl e36 rfl e35) (lc (own_eq (g := I) rfl e39 rfl e38) rfl))))⟩
       · refine sq (rg (qt rfl (eqi (k := .i64) (a := sx) (b := 2) rfl rfl) (qt rfl (asg (v := .bool (decide (sx = 2))) rfl) (nl (nN ?_)))))
         refine cdd (p := sx = 2) rfl (fun h9 => ?_) (fun h9 => ?_)
         · refine sq (rg (qt rfl (ldg (vs := [I sx, .slice Awt wt.length cwt, .slice Alg lg.length clg, Str to]) hs8 0 rfl rfl rfl rfl ag29) (qt rfl (mv (v := .slice Abs bs.length cbs) rfl) (cl trivial rfl (sL23Request (sx := sx) (Awt := Awt) (cwt := cwt) (wt := wt) (Alg := Alg) (clg := clg) (lg := lg) (to := to) (Abs := Abs) (cbs := cbs) (bs := bs) (w := _) (hwt := (hwt.up0 hs8)) (hwt_n := (by (have htp := talkOk_parts (by assumption : talkOk sx wt lg to = true); have hmw := methOk_len htp.2.1; first | omega | (simp; done) | (simp; omega)))) (hlg := (hlg.up0 hs8)) (hlg_e := hlg_e) (hlg_n := (by (have htp := talkOk_parts (by assumption : talkOk sx wt lg to = true); have hmw := methOk_len htp.2.1; first | omega | (simp; done) | (simp; omega)))) (hbs := (hbs.up0 hs8))) ?_))))
           rintro _ w17 ⟨Aw3, cw3, Al3, cl3, Ay3, cy3, rfl, hs23'⟩
           have hs23 := hs8.call0 hs23'
           clear hs23'
           refine qt rfl (mv (v := .tuple #[.agg #[I ((sayReq bs).1), .slice Aw3 wt.length cw3, .slice Al3 lg.length cl3, Str ((sayReq bs).2.1)], .slice Ay3 (((sayReq bs).2.2).length) cy3]) rfl) (qt rfl (xt 0 (v := .agg #[I ((sayReq bs).1), .slice Aw3 wt.length cw3, .slice Al3 lg.length cl3, Str ((sayReq bs).2.1)]) rfl rfl) (qt rfl (xt 1 (v := .slice Ay3 (((sayReq bs).2.2).length) cy3) rfl rfl) (al (v := .agg #[I 0, ns, ns, Str []]) (cs := [I 0, ns, ns, Str []]) hs23 tz29 rfl trivial rfl (fun b7 w18 (hs24 : SH w w18 [] [.blk b1 29 [I sx, .slice Awt wt.length cwt, .slice Alg lg.length clg, Str to], .blk b2 29 [I 0, ns, ns, Str []], .own Aw3 wt.length cw3 3 1 (wt.map I), .own Al3 lg.length cl3 51 2 (lg.flatMap gLogin), .own Ay3 (((sayReq bs).2.2).length) cy3 3 1 (((sayReq bs).2.2).map I), .blk b7 29 [I 0, ns, ns, Str []]]) => ?_))))
           refine stg (vs := [I ((sayReq bs).1), .slice Aw3 wt.length cw3, .slice Al3 lg.length cl3, Str ((sayReq bs).2.1)]) hs24 5 rfl rfl rfl rfl rfl rfl rfl ag29 trivial (fun w19 (hs25 : SH w w19 [] [.blk b1 29 [I sx, .slice Awt wt.length cwt, .slice Alg lg.length clg, Str to], .blk b2 29 [I 0, ns, ns, Str []], .own Aw3 wt.length cw3 3 1 (wt.map I), .own Al3 lg.length cl3 51 2 (lg.flatMap gLogin), .own Ay3 (((sayReq bs).2.2).length) cy3 3 1 (((sayReq bs).2.2).map I), .blk b7 29 [I ((sayReq bs).1), .slice Aw3 wt.length cw3, .slice Al3 lg.length cl3, Str ((sayReq bs).2.1)]]) => ?_)
           refine qt rfl (asg (v := .slice Ay3 (((sayReq bs).2.2).length) cy3) rfl) (nl (nN (sq (rg (qt rfl (ldg (vs := [I ((sayReq bs).1), .slice Aw3 wt.length cw3, .slice Al3 lg.length cl3, Str ((sayReq bs).2.1)]) hs25 5 rfl rfl rfl rfl ag29) (qt rfl (mv (v := .slice Ay3 (((sayReq bs).2.2).length) cy3) rfl) (stg (vs := [I ((sayReq bs).1), .slice Aw3 wt.length cw3, .slice Al3 lg.length cl3, Str ((sayReq bs).2.1)]) hs25 1 rfl rfl rfl rfl rfl rfl rfl ag29 trivial (fun w20 (hs26 : SH w w20 [] [.blk b1 29 [I sx, .slice Awt wt.length cwt, .slice Alg lg.length clg, Str to], .own Aw3 wt.length cw3 3 1 (wt.map I), .own Al3 lg.length cl3 51 2 (lg.flatMap gLogin), .own Ay3 (((sayReq bs).2.2).length) cy3 3 1 (((sayReq bs).2.2).map I), .blk b7 29 [I ((sayReq bs).1), .slice Aw3 wt.length cw3, .slice Al3 lg.length cl3, Str ((sayReq bs).2.1)], .blk b2 29 [I ((sayReq bs).1), .slice Aw3 wt.length cw3, .slice Al3 lg.length cl3, Str ((sayReq bs).2.1)]]) => ?_))))))))
           refine qt rfl (asg (v := .slice Ay3 (((sayReq bs).2.2).length) cy3) rfl) (qt rfl (asg (v := .bool true) rfl) (nl (nN ?_)))
           have hs27 : SH w w20 [] [.own Aw3 wt.length cw3 3 1 (wt.map I), .own Al3 lg.length cl3 51 2 (lg.flatMap gLogin), .own Ay3 (((sayReq bs).2.2).length) cy3 3 1 (((sayReq bs).2.2).map I), .blk b2 29 [I ((sayReq bs).1), .slice Aw3 wt.length cw3, .slice Al3 lg.length cl3, Str ((sayReq bs).2.1)]] := hs26.pick [1, 2, 3, 5] rfl (by decide)
           refine rt (bR (tR ?_))
           refine fret (v := .tuple #[.agg #[I ((sayReq bs).1), .slice Aw3 wt.length cw3, .slice Al3 lg.length cl3, Str ((sayReq bs).2.1)], .slice Ay3 (((sayReq bs).2.2).length) cy3, .bool true]) (resC hs27 3 rfl rfl ag29 rfl (.tmp (.tmp .nil))) rfl ?_
           have e41 : talkSay sx wt lg to bs = (((sayReq bs).1, wt, lg, (sayReq bs).2.1), (sayReq bs).2.2, true) := by exact talkSay_2 (by assumption) (by assumption) (by assumption)
           have e42 : (sayReq bs).1 = (talkSay sx wt lg to bs).1.1 := by rw [e41]
           have e43 : wt = (talkSay sx wt lg to bs).1.2.1 := by rw [e41]
           have e44 : wt.length = ((talkSay sx wt lg to bs).1.2.1).length := by exact congrArg List.length e43
           have e45 : lg = (talkSay sx wt lg to bs).1.2.2.1 := by rw [e41]
           have e46 : lg.length = ((talkSay sx wt lg to bs).1.2.2.1).length := by exact congrArg List.length e45
           have e47 : (sayReq bs).2.1 = (talkSay sx wt lg to bs).1.2.2.2 := by rw [e41]
           have e48 : (sayReq bs).2.2 = (talkSay sx wt lg to bs).2.1 := by rw [e41]
           have e49 : ((sayReq bs).2.2).length = ((talkSay sx wt lg to bs).2.1).length := by exact congrArg List.length e48
           have e50 : true = (talkSay sx wt lg to bs).2.2 := by rw [e41]
           exact ⟨Aw3, cw3, Al3, cl3, Ay3, cy3, (tup3 (aggv (lc (congrArg (Value.int .i64) e42) (lc (slv rfl e44 rfl) (lc (slv rfl e46 rfl) (lc (congrArg (Str) e47) rfl))))) (slv rfl e49 rfl) (congrArg (Value.bool) e50)), ((hs27.pick [0, 1, 2] rfl (by decide)).cast (lc (own_eq (g := I) rfl e44 rfl e43) (lc (own_eqf (g := gLogin) rfl e46 rfl e45) (lc (own_eq (g := I) rfl e49 rfl e48) rfl))))⟩
         · refine sk (bN (nN (sq (rg (qt rfl (bdv (v := .agg #[I 0, ns, ns, Str []]) [] rfl (fun _ => by kernel_rfl)) (bsk hs8 sl22 [] [] trivial rfl (fun b8 w21 (hs28 : SH w w21 [] [.blk b1 29 [I sx, .slice Awt wt.length cwt, .slice Alg lg.length clg, Str to], .blk b2 29 [I 0, ns, ns, Str []], oI b8 ([] : List Int) 0 3]) => ?_)))))))
           refine stg (vs := [I 0, ns, ns, Str []]) hs28 1 rfl rfl rfl rfl rfl rfl rfl ag29 trivial (fun w22 (hs29 : SH w w22 [] [.blk b1 29 [I sx, .slice Awt wt.length cwt, .slice Alg lg.length clg, Str to], oI b8 ([] : List Int) 0 3, .blk b2 29 [I 0, ns, ns, Str []]]) => ?_)
           refine qt rfl (asg (v := sb b8 (([] : List Int).length) 0) rfl) (qt rfl (asg (v := .bool false) rfl) (nl (nN (rt (fret (v := .tuple #[.agg #[I 0, ns, ns, Str []], sb b8 (([] : List Int).length) 0, .bool false]) (resC hs29 2 rfl rfl ag29 rfl (.tmp (.tmp .nil))) rfl ?_)))))
           have hs30 : SH w w22 [] [.blk b1 29 [I sx, .slice Awt wt.length cwt, .slice Alg lg.length clg, Str to], oI b8 ([] : List Int) 0 3, .blk b2 29 [I 0, ns, ns, Str []], .own none (([] : List Int).length) 0 3 1 (([] : List Int).map I)] := SH.nils (by intro i hi; simp at hi; subst hi; exact nilItem) hs29
           have hs31 : SH w w22 [] [.blk b1 29 [I sx, .slice Awt wt.length cwt, .slice Alg lg.length clg, Str to], oI b8 ([] : List Int) 0 3, .blk b2 29 [I 0, ns, ns, Str []], .own none (([] : List Int).length) 0 3 1 (([] : List Int).map I), .own none (([] : List (List UInt8 × List UInt8)).length) 0 51 2 (([] : List (List UInt8 × List UInt8)).flatMap gLogin)] := SH.nils (by intro i hi; simp at hi; subst hi; exact nilItemF) hs30
           have e51 : talkSay sx wt lg to bs = ((0, ([] : List Int), ([] : List (List UInt8 × List UInt8)), []), ([] : List Int), false) := by exact talkSay_no (.inr (.inr (by have htp := talkOk_parts (by assumption : talkOk sx wt lg to = true); have hmw := methOk_len htp.2.1; omega)))
           have e52 : 0 = (talkSay sx wt lg to bs).1.1 := by rw [e51]
           have e53 : ([] : List Int) = (talkSay sx wt lg to bs).1.2.1 := by rw [e51]
           have e54 : ([] : List Int).length = ((talkSay sx wt lg to bs).1.2.1).length := by exact congrArg List.length e53
           have e55 : ([] : List (List UInt8 × List UInt8)) = (talkSay sx wt lg to bs).1.2.2.1 := by rw [e51]
           have e56 : ([] : List (List UInt8 × List UInt8)).length = ((talkSay sx wt lg to bs).1.2.2.1).length := by exact congrArg List.length e55
           have e57 : [] = (talkSay sx wt lg to bs).1.2.2.2 := by rw [e51]
           have e58 : ([] : List Int) = (talkSay sx wt lg to bs).2.1 := by rw [e51]
           have e59 : ([] : List Int).length = ((talkSay sx wt lg to bs).2.1).length := by exact congrArg List.length e58
           have e60 : false = (talkSay sx wt lg to bs).2.2 := by rw [e51]
           exact ⟨none, 0, none, 0, (some ⟨b8, 0, none⟩), 0, (tup3 (aggv (lc (congrArg (Value.int .i64) e52) (lc (slv rfl e54 rfl) (lc (slv rfl e56 rfl) (lc (congrArg (Str) e57) rfl))))) (slv rfl e59 rfl) (congrArg (Value.bool) e60)), ((hs31.pick [3, 4, 1] rfl (by decide)).cast (lc (own_eq (g := I) rfl e54 rfl e53) (lc (own_eqf (g := gLogin) rfl e56 rfl e55) (lc (own_eq (g := I) rfl e59 rfl e58) rfl))))⟩
theorem szLoginS {Axs : Option Addr} {cxs : Nat} (xs : List (List UInt8 × List UInt8)) (z : Int) (w : World) (hxs : Sl w [] 2 Axs xs.length cxs (xs.flatMap gLogin)) (hxs_e : ∀ u ∈ xs, u.1.length ≤ 9223372036854775807 ∧ u.2.length ≤ 9223372036854775807) (hz : 0 ≤ z ∧ z ≤ 1099511627776) : Does Tryz.prog 39 [.slice Axs xs.length cxs, I z] w (fun v w' => ∃ r : Int, v = .int .i64 r ∧ (r < 0 ∨ ((xs.length : Nat) : Int) ≤ z) ∧ (-1 ≤ r ∧ r ≤ z) ∧ SH w w' [] []) := by
 refine fn_enter (N := 27) Tryz.func39 rfl (by kernel_rfl) rfl rfl rfl ?_
 have hs0 : SH w w [] [] := SH.refl w []
 have hxs_m : xs.length ≤ 9223372036854775807 := Nat.le_trans hxs.cap hxs.capMax
 refine sq (rg (qt rfl (asg (v := I 0) rfl) (nl (nN (sq (rg (qt rfl (mv (v := I z) rfl) ?_)))))))
 refine qt rfl (mv (v := .slice Axs xs.length cxs) rfl) (qt rfl (lnA (n := xs.length) sl23 rfl) (qt rfl (sub (a := z) (b := ((xs.length : Nat) : Int)) rfl rfl (by (exact ⟨by omega, by omega⟩))) (qt rfl (asg (v := I (z - ((xs.length : Nat) : Int))) rfl) (nl (nN (sq (sq ?_)))))))
 refine rg (qt rfl (mv (v := I (z - ((xs.length : Nat) : Int))) rfl) (qt rfl (lss (k := .i64) (a := z - ((xs.length : Nat) : Int)) (b := 0) rfl rfl) (nl (nN ?_))))
 refine cdd (p := (z - ((xs.length : Nat) : Int)) < 0) rfl (fun h1 => ?_) (fun h1 => ?_)
 · refine sq (rg (qt rfl (asg (v := I (-1)) rfl) (nl (nN (rt (tR ?_))))))
   refine fret (v := I (-1)) (.tmp .nil) rfl ?_
   exact ⟨(-1), rfl, (by omega), (by omega), hs0⟩
 · refine sk (nN (sq (sq (rg (qt rfl (asg (v := I 0) rfl) (nl (nN ?_)))))))
   refine bl (lp (σ := Nat × Int) (fun ⟨k, u⟩ f w' => Has f [(0, .slice Axs xs.length cxs), (1, I u), (5, I ((k : Nat) : Int))] ∧ (k ≤ xs.length) ∧ (0 ≤ u ∧ u ≤ 1099511627776 ∧ u ≤ z) ∧ SH w w' [] []) (fun ⟨k, u⟩ => xs.length - k) (0, z - ((xs.length : Nat) : Int)) ⟨⟨rfl, rfl, rfl, trivial⟩, (by simp), (by omega), hs0⟩ ?_)
   rintro ⟨k, u⟩ f w1 ⟨hf, hk, hu, hs1⟩
   obtain ⟨g1, rfl⟩ := has_upd hf
   clear hf
   refine sq (sq (rg (qt rfl (mv (v := I ((k : Nat) : Int)) rfl) (qt rfl (mv (v := .slice Axs xs.length cxs) rfl) (qt rfl (lnA (n := xs.length) sl23 rfl) (qt rfl (lss (k := .i64) (a := ((k : Nat) : Int)) (b := ((xs.length : Nat) : Int)) rfl rfl) (nl ?_)))))))
   refine nN ?_
   refine cdd (p := ((k : Nat) : Int) < ((xs.length : Nat) : Int)) rfl (fun h2 => ?_) (fun h2 => ?_)
   · refine sk (nN (sq (bl (sq (rg (qt rfl (mv (v := .slice Axs xs.length cxs) rfl) (qt rfl (mv (v := I ((k : Nat) : Int)) rfl) ?_)))))))
     refine ixwf (g := gLogin) (zs := xs) (fun _ => rfl) login0 k sl23 rfl rfl hxs (by (first | omega | (simp; done) | (simp; omega))) (by (first | omega | (simp; done) | (simp; omega))) trivial rfl (fun a1 ha1 => ?_)
     refine qt rfl (ldag (us := [Str ((xs.getD k login0).1), Str ((xs.getD k login0).2)]) hs1 ha1 (fun _ h => h) rfl rfl ag63) (qt rfl (mv (v := I u) rfl) (cl trivial rfl (szLogin (lu := (xs.getD k login0).1) (lw := (xs.getD k login0).2) (z := u) (w := _) (hlu_n := (by (have hre := hxs_e _ (getD_mem' (d := login0) (show k < xs.length by omega)); first | omega | (simp; done) | (simp; omega)))) (hlw_n := (by (have hre := hxs_e _ (getD_mem' (d := login0) (show k < xs.length by omega)); first | omega | (simp; done) | (simp; omega)))) (hz := (by (first | omega | assumption | (simp; done) | (simp; omega))))) ?_))
     rintro _ w2 ⟨r1, rfl, p1, p2, hs2'⟩
     have hs2 := hs1.call0 hs2'
     clear hs2'
     refine qt rfl (asg (v := I r1) rfl) (nl (nN (sq (rg (qt rfl (mv (v := I r1) rfl) (qt rfl (lss (k := .i64) (a := r1) (b := 0) rfl rfl) (nl ?_)))))))
     refine nN ?_
     refine cdd (p := r1 < 0) rfl (fun h3 => ?_) (fun h3 => ?_)
     · refine sq (rg (qt rfl (asg (v := I (-1)) rfl) (nl (nN ?_))))
       refine rt (bR (tR (tR (bR (tR ?_)))))
       refine fret (v := I (-1)) (.tmp .nil) rfl ?_
       exact ⟨(-1), rfl, (by omega), (by omega), hs2⟩
     · refine sk (bN (nN (rg (qt rfl (mv (v := I ((k : Nat) : Int)) rfl) (qt rfl (add (a := ((k : Nat) : Int)) (b := 1) rfl rfl (by (exact ⟨by omega, by omega⟩))) (qt rfl (asg (v := I (((k : Nat) : Int) + 1)) rfl) (nl ?_)))))))
       refine nN ?_
       refine ⟨(k + 1, r1), ⟨⟨rfl, rfl, rfl, trivial⟩, (by omega), (by omega), hs2⟩, ?_⟩
       show xs.length - (k + 1) < xs.length - k
       omega
   · refine ex (tE (tE (bE ?_)))
     refine nN (sq (rg (qt rfl (mv (v := I u) rfl) (qt rfl (asg (v := I u) rfl) (nl (nN (rt ?_)))))))
     refine fret (v := I u) (.tmp .nil) rfl ?_
     exact ⟨u, rfl, (by omega), (by omega), hs1⟩
theorem szTalk (sx : Int) {Awt : Option Addr} {cwt : Nat} (wt : List Int) {Alg : Option Addr} {clg : Nat} (lg : List (List UInt8 × List UInt8)) (to : List UInt8) (z : Int) (w : World) (hwt : Sl w [] 1 Awt wt.length cwt (wt.map I)) (hlg : Sl w [] 2 Alg lg.length clg (lg.flatMap gLogin)) (hlg_e : ∀ u ∈ lg, u.1.length ≤ 9223372036854775807 ∧ u.2.length ≤ 9223372036854775807) (hto_n : to.length ≤ 9223372036854775807) (hz : 0 ≤ z ∧ z ≤ 1099511627776) : Does Tryz.prog 11 [.agg #[I sx, .slice Awt wt.length cwt, .slice Alg lg.length clg, Str to], I z] w (fun v w' => ∃ r : Int, v = .int .i64 r ∧ (-1 ≤ r ∧ r ≤ z) ∧ (r < 0 ∨ ((wt.length : Int) ≤ z ∧ (lg.length : Int) ≤ z ∧ (to.length : Int) ≤ z)) ∧ SH w w' [] []) := by
 refine fn_enter (N := 25) Tryz.func11 rfl (by kernel_rfl) rfl rfl rfl ?_
 have hs0 : SH w w [] [] := SH.refl w []
 have hwt_m : wt.length ≤ 9223372036854775807 := Nat.le_trans hwt.cap hwt.capMax
 have hlg_m : lg.length ≤ 9223372036854775807 := Nat.le_trans hlg.cap hlg.capMax
 refine sq (rg (bx (v := .agg #[I sx, .slice Awt wt.length cwt, .slice Alg lg.length clg, Str to]) (cs := [I sx, .slice Awt wt.length cwt, .slice Alg lg.length clg, Str to]) hs0 rfl rfl trivial rfl (fun b1 w1 (hs1 : SH w w1 [] [.blk b1 25 [I sx, .slice Awt wt.length cwt, .slice Alg lg.length clg, Str to]]) => ?_)))
 refine qt rfl (asg (v := I 0) rfl) (nl (nN (sq (rg (qt rfl (fa 1 fo25_1 rfl) (qt rfl (ld (v := .slice Awt wt.length cwt) hs1 0 rfl rfl rfl one22) (qt rfl (mv (v := I z) rfl) ?_)))))))
 refine cl trivial rfl (szIntS (Axs := Awt) (cxs := cwt) (xs := wt) (z := z) (w := _) (hxs := (hwt.up0 hs1)) (hz := (by (first | omega | assumption | (simp; done) | (simp; omega))))) ?_
 rintro _ w2 ⟨rfl, hs2'⟩
 have hs2 := hs1.call0 hs2'
 clear hs2'
 refine qt rfl (asg (v := I (szI wt.length z)) rfl) (nl (nN (sq (sq (rg (qt rfl (mv (v := I (szI wt.length z)) rfl) (qt rfl (lss (k := .i64) (a := szI wt.length z) (b := 0) rfl rfl) ?_)))))))
 refine nl (nN ?_)
 refine cdd (p := (szI wt.length z) < 0) rfl (fun h1 => ?_) (fun h1 => ?_)
 · refine sq (rg (qt rfl (asg (v := I (-1)) rfl) (nl (nN (rt (tR ?_))))))
   refine fret (v := I (-1)) (.tmp .nil) rfl ?_
   exact ⟨(-1), rfl, (by have hsz1 := szI_bd (n := wt.length) (z := z) (by omega); omega), (by have hsz1 := szI_bd (n := wt.length) (z := z) (by omega); omega), (hs2.pick [] rfl (by decide))⟩
 · refine sk (nN (sq (rg (qt rfl (fa 2 fo25_2 rfl) (qt rfl (ld (v := .slice Alg lg.length clg) hs2 0 rfl rfl rfl one23) (qt rfl (mv (v := I (szI wt.length z)) rfl) (cl trivial rfl (szLoginS (Axs := Alg) (cxs := clg) (xs := lg) (z := szI wt.length z) (w := _) (hxs := (hlg.up0 hs2)) (hxs_e := hlg_e) (hz := (by (have hsz1 := szI_bd (n := wt.length) (z := z) (by omega); first | omega | assumption | (simp; done) | (simp; omega))))) ?_)))))))
   rintro _ w3 ⟨r1, rfl, p1, p2, hs3'⟩
   have hs3 := hs2.call0 hs3'
   clear hs3'
   refine qt rfl (asg (v := I r1) rfl) (nl (nN (sq (sq (rg (qt rfl (mv (v := I r1) rfl) (qt rfl (lss (k := .i64) (a := r1) (b := 0) rfl rfl) ?_)))))))
   refine nl (nN ?_)
   refine cdd (p := r1 < 0) rfl (fun h2 => ?_) (fun h2 => ?_)
   · refine sq (rg (qt rfl (asg (v := I (-1)) rfl) (nl (nN (rt (tR ?_))))))
     refine fret (v := I (-1)) (.tmp .nil) rfl ?_
     exact ⟨(-1), rfl, (by have hsz1 := szI_bd (n := wt.length) (z := z) (by omega); omega), (by have hsz1 := szI_bd (n := wt.length) (z := z) (by omega); omega), (hs3.pick [] rfl (by decide))⟩
   · refine sk (nN (sq (rg (qt rfl (mv (v := I r1) rfl) (qt rfl (fa 3 fo25_3 rfl) (qt rfl (ld (v := Str to) hs3 0 rfl rfl rfl one9) (qt rfl (lnS (l := to) st9 rfl) ?_)))))))
     refine qt rfl (sub (a := r1) (b := ((to.length : Nat) : Int)) rfl rfl (by (have hsz1 := szI_bd (n := wt.length) (z := z) (by omega); exact ⟨by omega, by omega⟩))) (qt rfl (asg (v := I (r1 - ((to.length : Nat) : Int))) rfl) (nl (nN (sq (sq (rg (qt rfl (mv (v := I (r1 - ((to.length : Nat) : Int))) rfl) ?_)))))))
     refine qt rfl (lss (k := .i64) (a := r1 - ((to.length : Nat) : Int)) (b := 0) rfl rfl) (nl (nN ?_))
     refine cdd (p := (r1 - ((to.length : Nat) : Int)) < 0) rfl (fun h3 => ?_) (fun h3 => ?_)
     · refine sq (rg (qt rfl (asg (v := I (-1)) rfl) (nl (nN (rt (tR ?_))))))
       refine fret (v := I (-1)) (.tmp .nil) rfl ?_
       exact ⟨(-1), rfl, (by have hsz1 := szI_bd (n := wt.length) (z := z) (by omega); omega), (by have hsz1 := szI_bd (n := wt.length) (z := z) (by omega); omega), (hs3.pick [] rfl (by decide))⟩
     · refine sk (nN (sq (rg (qt rfl (mv (v := I (r1 - ((to.length : Nat) : Int))) rfl) (qt rfl (asg (v := I (r1 - ((to.length : Nat) : Int))) rfl) (nl (nN ?_)))))))
       refine rt (fret (v := I (r1 - ((to.length : Nat) : Int))) (.tmp .nil) rfl ?_)
       exact ⟨r1 - ((to.length : Nat) : Int), rfl, (by have hsz1 := szI_bd (n := wt.length) (z := z) (by omega); omega), (by have hsz1 := szI_bd (n := wt.length) (z := z) (by omega); (have hsz2 := szI_nn (n := wt.length) (z := z) (by omega); omega)), (hs3.pick [] rfl (by decide))⟩
theorem toLoginS {Axs : Option Addr} {cxs : Nat} (xs : List (List UInt8 × List UInt8)) (w : World) (hxs : Sl w [] 2 Axs xs.length cxs (xs.flatMap gLogin)) (hxs_e : ∀ u ∈ xs, u.1.length ≤ 9223372036854775807 ∧ u.2.length ≤ 9223372036854775807) (hxs_n : xs.length ≤ 1099511627776) : Does Tryz.prog 45 [.slice Axs xs.length cxs] w (fun v w' => ∃ Ar : Option Addr, ∃ cr : Nat, v = .slice Ar xs.length cr ∧ SH w w' [] [.own Ar xs.length cr 51 2 (xs.flatMap gLogin)]) := by
 refine fn_enter (N := 23) Tryz.func45 rfl (by kernel_rfl) rfl rfl rfl ?_
 have hs0 : SH w w [] [] := SH.refl w []
 have hxs_m : xs.length ≤ 9223372036854775807 := Nat.le_trans hxs.cap hxs.capMax
 refine sq (rg (qt rfl (asg (v := ns) rfl) (nl (nN (sq (rg (qt rfl (mv (v := .slice Axs xs.length cxs) rfl) ?_)))))))
 refine qt rfl (lnA (n := xs.length) sl23 rfl) (mkf (g := gLogin) (zz := login0) (n := xs.length) (fun _ => rfl) (by decide) hs0 sl27 rfl rfl rfl (by omega) (by unfold maxLen; omega) trivial rfl (fun b1 w1 (hs1 : SH w w1 [] [.own (some ⟨b1, 0, none⟩) ((List.replicate xs.length (login0 : List UInt8 × List UInt8)).length) xs.length 51 2 ((List.replicate xs.length (login0 : List UInt8 × List UInt8)).flatMap gLogin)]) => ?_))
 refine qt rfl (asg (v := sb b1 ((List.replicate xs.length (login0 : List UInt8 × List UInt8)).length) xs.length) rfl) (nl (nN (sq (sq (rg (qt rfl (asg (v := I 0) rfl) (nl ?_)))))))
 refine nN (bl ?_)
 have e1 : List.replicate xs.length (login0 : List UInt8 × List UInt8) = xs.take 0 ++ List.replicate (xs.length - 0) login0 := by simp
 have e2 : (List.replicate xs.length (login0 : List UInt8 × List UInt8)).length = xs.length := by (simp; done)
 refine lp (σ := (Option Addr) × Nat × Nat) (fun ⟨Ag3, cg3, k⟩ f w' => Has f [(0, .slice Axs xs.length cxs), (3, .slice Ag3 xs.length cg3), (4, I ((k : Nat) : Int))] ∧ (k ≤ xs.length) ∧ SH w w' [] [.own Ag3 xs.length cg3 51 2 ((xs.take k ++ List.replicate (xs.length - k) login0).flatMap gLogin)]) (fun ⟨Ag3, cg3, k⟩ => xs.length - k) ((some ⟨b1, 0, none⟩), xs.length, 0) ⟨⟨rfl, (show (.slice (some ⟨b1, 0, none⟩) ((List.replicate xs.length (login0 : List UInt8 × List UInt8)).length) xs.length : Value) = .slice (some ⟨b1, 0, none⟩) xs.length xs.length from slv rfl e2 rfl), rfl, trivial⟩, (by simp), (hs1.cast (lc (own_eqf (g := gLogin) rfl e2 rfl e1) rfl))⟩ ?_
 rintro ⟨Ag3, cg3, k⟩ f w2 ⟨hf, hk, hs2⟩
 obtain ⟨g1, rfl⟩ := has_upd hf
 clear hf
 refine sq (sq (rg (qt rfl (mv (v := I ((k : Nat) : Int)) rfl) (qt rfl (mv (v := .slice Axs xs.length cxs) rfl) (qt rfl (lnA (n := xs.length) sl23 rfl) (qt rfl (lss (k := .i64) (a := ((k : Nat) : Int)) (b := ((xs.length : Nat) : Int)) rfl rfl) (nl ?_)))))))
 refine nN ?_
 refine cdd (p := ((k : Nat) : Int) < ((xs.length : Nat) : Int)) rfl (fun h1 => ?_) (fun h1 => ?_)
 · refine sk (nN (sq (bl (rg (qt rfl (mv (v := .slice Ag3 xs.length cg3) rfl) (qt rfl (mv (v := I ((k : Nat) : Int)) rfl) (qt rfl (mv (v := .slice Axs xs.length cxs) rfl) ?_)))))))
   refine qt rfl (mv (v := I ((k : Nat) : Int)) rfl) (ixwf (g := gLogin) (zs := xs) (fun _ => rfl) login0 k sl23 rfl rfl hxs (by omega) (by omega) trivial rfl (fun a1 ha1 => ?_))
   refine qt rfl (ldag (us := [Str ((xs.getD k login0).1), Str ((xs.getD k login0).2)]) hs2 ha1 (fun _ h => h) rfl rfl ag63) (cl trivial rfl (toLogin (lu := (xs.getD k login0).1) (lw := (xs.getD k login0).2) (w := _)) ?_)
   rintro _ w3 ⟨rfl, hs3'⟩
   have hs3 := hs2.call0 hs3'
   clear hs3'
   obtain ⟨b2, rfl⟩ := own_form hs3 0 rfl (by omega)
   refine qt rfl (ixo k sl27 rfl rfl (by omega)) (stof (g := gLogin) (ys := xs.take k ++ List.replicate (xs.length - k) login0) (o := k) (u := ((((xs.getD k login0).1), ((xs.getD k login0).2)) : List UInt8 × List UInt8)) (fun _ => rfl) hs3 0 rfl rfl rfl rfl (by omega) (by (simp; omega)) rfl ag51 trivial (fun w4 (hs4 : SH w w4 [] [.own (some ⟨b2, 0, none⟩) xs.length cg3 51 2 (((xs.take k ++ List.replicate (xs.length - k) login0).set k ((((xs.getD k login0).1), ((xs.getD k login0).2)) : List UInt8 × List UInt8)).flatMap gLogin)]) => ?_))
   refine nl (bN (nN (rg (qt rfl (mv (v := I ((k : Nat) : Int)) rfl) (qt rfl (add (a := ((k : Nat) : Int)) (b := 1) rfl rfl (by exact ⟨by omega, by omega⟩)) (qt rfl (asg (v := I (((k : Nat) : Int) + 1)) rfl) (nl ?_)))))))
   refine nN ?_
   have e3 : (xs.take k ++ List.replicate (xs.length - k) login0).set k ((((xs.getD k login0).1), ((xs.getD k login0).2)) : List UInt8 × List UInt8) = xs.take (k + 1) ++ List.replicate (xs.length - (k + 1)) login0 := by exact copy_setG (by omega)
   refine ⟨((some ⟨b2, 0, none⟩), cg3, k + 1), ⟨⟨rfl, rfl, rfl, trivial⟩, (by omega), (hs4.cast (lc (own_eqf (g := gLogin) rfl rfl rfl e3) rfl))⟩, ?_⟩
   show xs.length - (k + 1) < xs.length - k
   omega
 · refine ex (tE (tE (bE ?_)))
   refine nN (sq (rg (qt rfl (mv (v := .slice Ag3 xs.length cg3) rfl) (qt rfl (asg (v := .slice Ag3 xs.length cg3) rfl) (nl (nN (rt ?_)))))))
   refine fret (v := .slice Ag3 xs.length cg3) (.tmp .nil) rfl ?_
   have e4 : xs.take k ++ List.replicate (xs.length - k) login0 = xs := by have : k = xs.length := (by omega); subst this; simp
   exact ⟨Ag3, cg3, rfl, (hs2.cast (lc (own_eqf (g := gLogin) rfl rfl rfl e4) rfl))⟩
theorem toTalk (sx : Int) {Awt : Option Addr} {cwt : Nat} (wt : List Int) {Alg : Option Addr} {clg : Nat} (lg : List (List UInt8 × List UInt8)) (to : List UInt8) (w : World) (hwt : Sl w [] 1 Awt wt.length cwt (wt.map I)) (hwt_n : wt.length ≤ 1099511627776) (hlg : Sl w [] 2 Alg lg.length clg (lg.flatMap gLogin)) (hlg_e : ∀ u ∈ lg, u.1.length ≤ 9223372036854775807 ∧ u.2.length ≤ 9223372036854775807) (hlg_n : lg.length ≤ 1099511627776) : Does Tryz.prog 13 [.agg #[I sx, .slice Awt wt.length cwt, .slice Alg lg.length clg, Str to]] w (fun v w' => ∃ Awr : Option Addr, ∃ cwr : Nat, ∃ Alr : Option Addr, ∃ clr : Nat, v = .agg #[.int .i64 sx, .slice Awr wt.length cwr, .slice Alr lg.length clr, Str to] ∧ SH w w' [] [.own Awr wt.length cwr 3 1 (wt.map I), .own Alr lg.length clr 51 2 (lg.flatMap gLogin)]) := by
 refine fn_enter (N := 19) Tryz.func13 rfl (by kernel_rfl) rfl rfl rfl ?_
 have hs0 : SH w w [] [] := SH.refl w []
 have hwt_m : wt.length ≤ 9223372036854775807 := Nat.le_trans hwt.cap hwt.capMax
 have hlg_m : lg.length ≤ 9223372036854775807 := Nat.le_trans hlg.cap hlg.capMax
 refine sq (rg (bx (v := .agg #[I sx, .slice Awt wt.length cwt, .slice Alg lg.length clg, Str to]) (cs := [I sx, .slice Awt wt.length cwt, .slice Alg lg.length clg, Str to]) hs0 rfl rfl trivial rfl (fun b1 w1 (hs1 : SH w w1 [] [.blk b1 25 [I sx, .slice Awt wt.length cwt, .slice Alg lg.length clg, Str to]]) => ?_)))
 refine al (v := .agg #[I 0, ns, ns, Str []]) (cs := [I 0, ns, ns, Str []]) hs1 tz29 rfl trivial rfl (fun b2 w2 (hs2 : SH w w2 [] [.blk b1 25 [I sx, .slice Awt wt.length cwt, .slice Alg lg.length clg, Str to], .blk b2 29 [I 0, ns, ns, Str []]]) => ?_)
 refine nl (nN (sq (rg (al (v := .agg #[I 0, ns, ns, Str []]) (cs := [I 0, ns, ns, Str []]) hs2 tz29 rfl trivial rfl (fun b3 w3 (hs3 : SH w w3 [] [.blk b1 25 [I sx, .slice Awt wt.length cwt, .slice Alg lg.length clg, Str to], .blk b2 29 [I 0, ns, ns, Str []], .blk b3 29 [I 0, ns, ns, Str []]]) => ?_)))))
 refine nl (nN (sq (rg (qt rfl (fa 0 fo25_0 rfl) (qt rfl (ld (v := I sx) hs3 0 rfl rfl rfl one3) (qt rfl (fa 0 fo29_0 rfl) (st (v := I sx) hs3 2 rfl rfl rfl rfl rfl one3 trivial (fun w4 (hs4 : SH w w4 [] [.blk b1 25 [I sx, .slice Awt wt.length cwt, .slice Alg lg.length clg, Str to], .blk b2 29 [I 0, ns, ns, Str []], .blk b3 29 [I sx, ns, ns, Str []]]) => ?_))))))))
 refine nl (nN (sq (rg (qt rfl (fa 1 fo25_1 rfl) (qt rfl (ld (v := .slice Awt wt.length cwt) hs4 0 rfl rfl rfl one22) (cl trivial rfl (toIntS (Axs := Awt) (cxs := cwt) (xs := wt) (w := _) (hxs := (hwt.up0 hs4)) (hxs_n := (by omega))) ?_))))))
 rintro _ w5 ⟨A1, c1, rfl, hs5'⟩
 have hs5 := hs4.call0 hs5'
 clear hs5'
 refine qt rfl (fa 1 fo29_1 rfl) (st (v := .slice A1 wt.length c1) hs5 2 rfl rfl rfl rfl rfl one22 trivial (fun w6 (hs6 : SH w w6 [] [.blk b1 25 [I sx, .slice Awt wt.length cwt, .slice Alg lg.length clg, Str to], .blk b2 29 [I 0, ns, ns, Str []], .own A1 wt.length c1 3 1 (wt.map I), .blk b3 29 [I sx, .slice A1 wt.length c1, ns, Str []]]) => ?_))
 refine nl (nN (sq (rg (qt rfl (fa 2 fo25_2 rfl) (qt rfl (ld (v := .slice Alg lg.length clg) hs6 0 rfl rfl rfl one23) (cl trivial rfl (toLoginS (Axs := Alg) (cxs := clg) (xs := lg) (w := _) (hxs := (hlg.up0 hs6)) (hxs_e := hlg_e) (hxs_n := (by omega))) ?_))))))
 rintro _ w7 ⟨A2, c2, rfl, hs7'⟩
 have hs7 := hs6.call0 hs7'
 clear hs7'
 refine qt rfl (fa 2 fo29_2 rfl) (st (v := .slice A2 lg.length c2) hs7 3 rfl rfl rfl rfl rfl one27 trivial (fun w8 (hs8 : SH w w8 [] [.blk b1 25 [I sx, .slice Awt wt.length cwt, .slice Alg lg.length clg, Str to], .blk b2 29 [I 0, ns, ns, Str []], .own A1 wt.length c1 3 1 (wt.map I), .own A2 lg.length c2 51 2 (lg.flatMap gLogin), .blk b3 29 [I sx, .slice A1 wt.length c1, .slice A2 lg.length c2, Str []]]) => ?_))
 refine nl (nN (sq (rg (qt rfl (fa 3 fo25_3 rfl) (qt rfl (ld (v := Str to) hs8 0 rfl rfl rfl one9) (qt rfl (fa 3 fo29_3 rfl) (st (v := Str to) hs8 4 rfl rfl rfl rfl rfl one9 trivial (fun w9 (hs9 : SH w w9 [] [.blk b1 25 [I sx, .slice Awt wt.length cwt, .slice Alg lg.length clg, Str to], .blk b2 29 [I 0, ns, ns, Str []], .own A1 wt.length c1 3 1 (wt.map I), .own A2 lg.length c2 51 2 (lg.flatMap gLogin), .blk b3 29 [I sx, .slice A1 wt.length c1, .slice A2 lg.length c2, Str to]]) => ?_))))))))
 refine nl (nN (sq (rg (qt rfl (ldg (vs := [I sx, .slice A1 wt.length c1, .slice A2 lg.length c2, Str to]) hs9 4 rfl rfl rfl rfl ag29) (stg (vs := [I sx, .slice A1 wt.length c1, .slice A2 lg.length c2, Str to]) hs9 1 rfl rfl rfl rfl rfl rfl rfl ag29 trivial (fun w10 (hs10 : SH w w10 [] [.blk b1 25 [I sx, .slice Awt wt.length cwt, .slice Alg lg.length clg, Str to], .own A1 wt.length c1 3 1 (wt.map I), .own A2 lg.length c2 51 2 (lg.flatMap gLogin), .blk b3 29 [I sx, .slice A1 wt.length c1, .slice A2 lg.length c2, Str to], .blk b2 29 [I sx, .slice A1 wt.length c1, .slice A2 lg.length c2, Str to]]) => ?_))))))
 refine nl (nN ?_)
 have hs11 : SH w w10 [] [.own A1 wt.length c1 3 1 (wt.map I), .own A2 lg.length c2 51 2 (lg.flatMap gLogin), .blk b2 29 [I sx, .slice A1 wt.length c1, .slice A2 lg.length c2, Str to]] := hs10.pick [1, 2, 4] rfl (by decide)
 refine rt (fret (v := .agg #[I sx, .slice A1 wt.length c1, .slice A2 lg.length c2, Str to]) (resC hs11 2 rfl rfl ag29 rfl .nil) rfl ?_)
 exact ⟨A1, c1, A2, c2, rfl, (hs11.pick [0, 1] rfl (by decide))⟩
theorem eqLoginS {Axs : Option Addr} {cxs : Nat} (xs : List (List UInt8 × List UInt8)) {Abs : Option Addr} {cbs : Nat} (bs : List (List UInt8 × List UInt8)) (w : World) (hxs : Sl w [] 2 Axs xs.length cxs (xs.flatMap gLogin)) (hxs_e : ∀ u ∈ xs, u.1.length ≤ 9223372036854775807 ∧ u.2.length ≤ 9223372036854775807) (hbs : Sl w [] 2 Abs bs.length cbs (bs.flatMap gLogin)) (hbs_e : ∀ u ∈ bs, u.1.length ≤ 9223372036854775807 ∧ u.2.length ≤ 9223372036854775807) : Does Tryz.prog 51 [.slice Axs xs.length cxs, .slice Abs bs.length cbs] w (fun v w' => v = .bool (decide (xs = bs)) ∧ SH w w' [] []) := by
 refine fn_enter (N := 27) Tryz.func51 rfl (by kernel_rfl) rfl rfl rfl ?_
 have hs0 : SH w w [] [] := SH.refl w []
 have hxs_m : xs.length ≤ 9223372036854775807 := Nat.le_trans hxs.cap hxs.capMax
 have hbs_m : bs.length ≤ 9223372036854775807 := Nat.le_trans hbs.cap hbs.capMax
 refine sq (rg (qt rfl (asg (v := .bool false) rfl) (nl (nN (sq (sq (rg ?_)))))))
 refine qt rfl (mv (v := .slice Axs xs.length cxs) rfl) (qt rfl (lnA (n := xs.length) sl27 rfl) (qt rfl (mv (v := .slice Abs bs.length cbs) rfl) (qt rfl (lnA (n := bs.length) sl27 rfl) (qt rfl (nei (k := .i64) (a := ((xs.length : Nat) : Int)) (b := ((bs.length : Nat) : Int)) rfl rfl) (nl (nN ?_))))))
 refine cdd (p := ((xs.length : Nat) : Int) ≠ ((bs.length : Nat) : Int)) rfl (fun h1 => ?_) (fun h1 => ?_)
 · refine sq (rg (qt rfl (asg (v := .bool false) rfl) (nl (nN (rt (tR ?_))))))
   refine fret (v := .bool false) (.tmp .nil) rfl ?_
   have e1 : false = (decide (xs = bs)) := by simp; intro h; subst h; exact h1 rfl
   exact ⟨(congrArg (Value.bool) e1), hs0⟩
 · refine sk (nN (sq (sq (rg (qt rfl (asg (v := I 0) rfl) (nl (nN ?_)))))))
   refine bl (lp (σ := Nat) (fun (k : Nat) f w' => Has f [(0, .slice Axs xs.length cxs), (1, .slice Abs bs.length cbs), (5, I ((k : Nat) : Int))] ∧ (xs.length = bs.length) ∧ (k ≤ xs.length) ∧ (xs.take k = bs.take k) ∧ SH w w' [] []) (fun k => xs.length - k) 0 ⟨⟨rfl, rfl, rfl, trivial⟩, (by omega), (by simp), (by simp), hs0⟩ ?_)
   rintro k f w1 ⟨hf, hl, hk, ha, hs1⟩
   obtain ⟨g1, rfl⟩ := has_upd hf
   clear hf
   refine sq (sq (rg (qt rfl (mv (v := I ((k : Nat) : Int)) rfl) (qt rfl (mv (v := .slice Axs xs.length cxs) rfl) (qt rfl (lnA (n := xs.length) sl27 rfl) (qt rfl (lss (k := .i64) (a := ((k : Nat) : Int)) (b := ((xs.length : Nat) : Int)) rfl rfl) (nl ?_)))))))
   refine nN ?_
   refine cdd (p := ((k : Nat) : Int) < ((xs.length : Nat) : Int)) rfl (fun h2 => ?_) (fun h2 => ?_)
   · refine sk (nN (sq (bl (sq (rq (fun w' => SH w w' [] []) mixed (by kernel_rfl) hs1.drew (qq trivial rfl rfl (fun wq hsq => mv (v := .slice Axs xs.length cxs) rfl) (qq trivial rfl rfl (fun wq hsq => mv (v := I ((k : Nat) : Int)) rfl) ?_)))))))
     refine ixqf (g := gLogin) (zs := xs) (fun _ => rfl) login0 k sl27 rfl rfl hxs (by omega) (by omega) trivial rfl (fun a1 ha1 => ?_)
     refine qq trivial rfl rfl (fun wq hsq => ldag (us := [Str ((xs.getD k login0).1), Str ((xs.getD k login0).2)]) hsq ha1 (fun _ h => h) rfl rfl ag51) (qq trivial rfl rfl (fun wq hsq => mv (v := .slice Abs bs.length cbs) rfl) (qq trivial rfl rfl (fun wq hsq => mv (v := I ((k : Nat) : Int)) rfl) (ixqf (g := gLogin) (zs := bs) (fun _ => rfl) login0 k sl27 rfl rfl hbs (by omega) (by omega) trivial rfl (fun a2 ha2 => ?_))))
     refine qq trivial rfl rfl (fun wq hsq => ldag (us := [Str ((bs.getD k login0).1), Str ((bs.getD k login0).2)]) hsq ha2 (fun _ h => h) rfl rfl ag51) (qc (.bool (decide (((xs.getD k login0).1) = ((bs.getD k login0).1) ∧ ((xs.getD k login0).2) = ((bs.getD k login0).2)))) trivial rfl (fun wq hsq => (eqLogin (u1 := (xs.getD k login0).1) (p1 := (xs.getD k login0).2) (u2 := (bs.getD k login0).1) (p2 := (bs.getD k login0).2) (w := _)).mono (fun v w' h => ⟨h.1, by simpa using hsq.call0 h.2⟩)) (qq trivial rfl rfl (fun wq hsq => nd (p := ((xs.getD k login0).1) = ((bs.getD k login0).1) ∧ ((xs.getD k login0).2) = ((bs.getD k login0).2)) rfl) (qn (fun w2 hs2 => ?_))))
     refine nN ?_
     refine cdd (p := ¬ (((xs.getD k login0).1) = ((bs.getD k login0).1) ∧ ((xs.getD k login0).2) = ((bs.getD k login0).2))) rfl (fun h3 => ?_) (fun h3 => ?_)
     · refine sq (rg (qt rfl (asg (v := .bool false) rfl) (nl (nN ?_))))
       refine rt (bR (tR (tR (bR (tR ?_)))))
       refine fret (v := .bool false) (.tmp .nil) rfl ?_
       have e2 : false = (decide (xs = bs)) := by simp; intro h; subst h; exact h3 ⟨rfl, rfl⟩
       exact ⟨(congrArg (Value.bool) e2), hs2⟩
     · refine sk (bN (nN (rg (qt rfl (mv (v := I ((k : Nat) : Int)) rfl) (qt rfl (add (a := ((k : Nat) : Int)) (b := 1) rfl rfl (by exact ⟨by omega, by omega⟩)) (qt rfl (asg (v := I (((k : Nat) : Int) + 1)) rfl) (nl ?_)))))))
       refine nN ?_
       refine ⟨(k + 1), ⟨⟨rfl, rfl, rfl, trivial⟩, (hl), (by omega), (take_succ_eq (d := login0) (by omega) (by omega) ha (lg_ext (by exact Decidable.not_not.1 (by assumption)))), hs2⟩, ?_⟩
       omega
   · refine ex (tE (tE (bE ?_)))
     refine nN (sq (rg (qt rfl (asg (v := .bool true) rfl) (nl (nN (rt (fret (v := .bool true) (.tmp .nil) rfl ?_)))))))
     have e3 : true = (decide (xs = bs)) := by simp; exact take_all_eq hl (by omega) ha
     exact ⟨(congrArg (Value.bool) e3), hs1⟩
theorem eqTalk (sa : Int) {Awa : Option Addr} {cwa : Nat} (wa : List Int) {Ala : Option Addr} {cla : Nat} (la : List (List UInt8 × List UInt8)) (ta : List UInt8) (sb : Int) {Awb : Option Addr} {cwb : Nat} (wb : List Int) {Alb : Option Addr} {clb : Nat} (lb : List (List UInt8 × List UInt8)) (tb : List UInt8) (w : World) (hwa : Sl w [] 1 Awa wa.length cwa (wa.map I)) (hla : Sl w [] 2 Ala la.length cla (la.flatMap gLogin)) (hla_e : ∀ u ∈ la, u.1.length ≤ 9223372036854775807 ∧ u.2.length ≤ 9223372036854775807) (hwb : Sl w [] 1 Awb wb.length cwb (wb.map I)) (hlb : Sl w [] 2 Alb lb.length clb (lb.flatMap gLogin)) (hlb_e : ∀ u ∈ lb, u.1.length ≤ 9223372036854775807 ∧ u.2.length ≤ 9223372036854775807) : Does Tryz.prog 16 [.agg #[I sa, .slice Awa wa.length cwa, .slice Ala la.length cla, Str ta], .agg #[I sb, .slice Awb wb.length cwb, .slice Alb lb.length clb, Str tb]] w (fun v w' => v = .bool (decide (sa = sb ∧ wa = wb ∧ la = lb ∧ ta = tb)) ∧ SH w w' [] []) := by
 refine fn_enter (N := 27) Tryz.func16 rfl (by kernel_rfl) rfl rfl rfl ?_
 have hs0 : SH w w [] [] := SH.refl w []
 have hwa_m : wa.length ≤ 9223372036854775807 := Nat.le_trans hwa.cap hwa.capMax
 have hla_m : la.length ≤ 9223372036854775807 := Nat.le_trans hla.cap hla.capMax
 have hwb_m : wb.length ≤ 9223372036854775807 := Nat.le_trans hwb.cap hwb.capMax
 have hlb_m : lb.length ≤ 9223372036854775807 := Nat.le_trans hlb.cap hlb.capMax
 refine sq (rg (bx (v := .agg #[I sa, .slice Awa wa.length cwa, .slice Ala la.length cla, Str ta]) (cs := [I sa, .slice Awa wa.length cwa, .slice Ala la.length cla, Str ta]) hs0 rfl rfl trivial rfl (fun b1 w1 (hs1 : SH w w1 [] [.blk b1 29 [I sa, .slice Awa wa.length cwa, .slice Ala la.length cla, Str ta]]) => ?_)))
 refine bx (v := .agg #[I sb, .slice Awb wb.length cwb, .slice Alb lb.length clb, Str tb]) (cs := [I sb, .slice Awb wb.length cwb, .slice Alb lb.length clb, Str tb]) hs1 rfl rfl trivial rfl (fun b2 w2 (hs2 : SH w w2 [] [.blk b1 29 [I sa, .slice Awa wa.length cwa, .slice Ala la.length cla, Str ta], .blk b2 29 [I sb, .slice Awb wb.length cwb, .slice Alb lb.length clb, Str tb]]) => ?_)
 refine qt rfl (asg (v := .bool false) rfl) (nl (nN (sq (sq (rg (qt rfl (fa 0 fo29_0 rfl) (qt rfl (ld (v := I sa) hs2 0 rfl rfl rfl one3) ?_)))))))
 refine qt rfl (fa 0 fo29_0 rfl) (qt rfl (ld (v := I sb) hs2 1 rfl rfl rfl one3) (qt rfl (nei (k := .i64) (a := sa) (b := sb) rfl rfl) (nl (nN ?_))))
 refine cdd (p := sa ≠ sb) rfl (fun h1 => ?_) (fun h1 => ?_)
 · refine sq (rg (qt rfl (asg (v := .bool false) rfl) (nl (nN (rt (tR ?_))))))
   refine fret (v := .bool false) (.tmp .nil) rfl ?_
   have e1 : false = (decide (sa = sb ∧ wa = wb ∧ la = lb ∧ ta = tb)) := by simp [h1] <;> simp_all
   exact ⟨(congrArg (Value.bool) e1), (hs2.pick [] rfl (by decide))⟩
 · refine sk (nN (sq (sq (rg (qt rfl (fa 1 fo29_1 rfl) (qt rfl (ld (v := .slice Awa wa.length cwa) hs2 0 rfl rfl rfl one22) (qt rfl (fa 1 fo29_1 rfl) ?_)))))))
   refine qt rfl (ld (v := .slice Awb wb.length cwb) hs2 1 rfl rfl rfl one22) (cl trivial rfl (eqIntS (Axs := Awa) (cxs := cwa) (xs := wa) (Abs := Awb) (cbs := cwb) (bs := wb) (w := _) (hxs := (hwa.up0 hs2)) (hbs := (hwb.up0 hs2))) ?_)
   rintro _ w3 ⟨rfl, hs3'⟩
   have hs3 := hs2.call0 hs3'
   clear hs3'
   refine qt rfl (nd (p := wa = wb) rfl) (nl (nN ?_))
   refine cdd (p := ¬ (wa = wb)) rfl (fun h2 => ?_) (fun h2 => ?_)
   · refine sq (rg (qt rfl (asg (v := .bool false) rfl) (nl (nN (rt (tR ?_))))))
     refine fret (v := .bool false) (.tmp .nil) rfl ?_
     have e2 : false = (decide (sa = sb ∧ wa = wb ∧ la = lb ∧ ta = tb)) := by simp [h1, h2] <;> simp_all
     exact ⟨(congrArg (Value.bool) e2), (hs3.pick [] rfl (by decide))⟩
   · refine sk (nN (sq (sq (rg (qt rfl (fa 2 fo29_2 rfl) (qt rfl (ld (v := .slice Ala la.length cla) hs3 0 rfl rfl rfl one27) (qt rfl (fa 2 fo29_2 rfl) ?_)))))))
     refine qt rfl (ld (v := .slice Alb lb.length clb) hs3 1 rfl rfl rfl one27) (cl trivial rfl (eqLoginS (Axs := Ala) (cxs := cla) (xs := la) (Abs := Alb) (cbs := clb) (bs := lb) (w := _) (hxs := (hla.up0 hs3)) (hxs_e := hla_e) (hbs := (hlb.up0 hs3)) (hbs_e := hlb_e)) ?_)
     rintro _ w4 ⟨rfl, hs4'⟩
     have hs4 := hs3.call0 hs4'
     clear hs4'
     refine qt rfl (nd (p := la = lb) rfl) (nl (nN ?_))
     refine cdd (p := ¬ (la = lb)) rfl (fun h3 => ?_) (fun h3 => ?_)
     · refine sq (rg (qt rfl (asg (v := .bool false) rfl) (nl (nN (rt (tR ?_))))))
       refine fret (v := .bool false) (.tmp .nil) rfl ?_
       have e3 : false = (decide (sa = sb ∧ wa = wb ∧ la = lb ∧ ta = tb)) := by simp [h1, h2, h3] <;> simp_all
       exact ⟨(congrArg (Value.bool) e3), (hs4.pick [] rfl (by decide))⟩
     · refine sk (nN (sq (sq (rg (qt rfl (fa 3 fo29_3 rfl) (qt rfl (ld (v := Str ta) hs4 0 rfl rfl rfl one9) (qt rfl (fa 3 fo29_3 rfl) ?_)))))))
       refine qt rfl (ld (v := Str tb) hs4 1 rfl rfl rfl one9) (qt rfl (nes (l := ta) (m := tb) rfl rfl) (nl (nN ?_)))
       refine cdd (p := ta ≠ tb) rfl (fun h4 => ?_) (fun h4 => ?_)
       · refine sq (rg (qt rfl (asg (v := .bool false) rfl) (nl (nN (rt (tR ?_))))))
         refine fret (v := .bool false) (.tmp .nil) rfl ?_
         have e4 : false = (decide (sa = sb ∧ wa = wb ∧ la = lb ∧ ta = tb)) := by simp [h1, h2, h3, h4] <;> simp_all
         exact ⟨(congrArg (Value.bool) e4), (hs4.pick [] rfl (by decide))⟩
       · refine sk (nN (sq (rg (qt rfl (asg (v := .bool true) rfl) (nl (nN (rt ?_)))))))
         refine fret (v := .bool true) (.tmp .nil) rfl ?_
         have e5 : true = (decide (sa = sb ∧ wa = wb ∧ la = lb ∧ ta = tb)) := by simp [h1, h2, h3, h4] <;> simp_all
         exact ⟨(congrArg (Value.bool) e5), (hs4.pick [] rfl (by decide))⟩
theorem markLoginS {Axs : Option Addr} {cxs : Nat} (xs : List (List UInt8 × List UInt8)) (k0 : Int) (w : World) (hxs : OwnR w Axs xs.length cxs 51 2 (xs.flatMap gLogin)) (hxs_n : xs.length ≤ 1099511627776) (hk0 : 0 ≤ k0 ∧ k0 ≤ 4294967296) : Does Tryz.prog 52 [.slice Axs xs.length cxs, I k0] w (fun v w' => v = .int .i64 (k0 + 2 * ((xs.length : Nat) : Int)) ∧ SH w w' (ownM Axs cxs ++ []) [.own Axs xs.length cxs 51 2 ((markLg k0 xs.length).flatMap gLogin)]) := by
 refine fn_enter (N := 29) Tryz.func52 rfl (by kernel_rfl) rfl rfl rfl ?_
 have hs0 : SH w w (ownM Axs cxs ++ []) [.own Axs xs.length cxs 51 2 (xs.flatMap gLogin)] := entry1o hxs
 have hxs_m : xs.length ≤ 9223372036854775807 := Nat.le_trans hxs.2.1 hxs.2.2.1
 refine sq (rg (qt rfl (asg (v := I 0) rfl) (nl (nN (sq (sq (rg ?_)))))))
 refine qt rfl (asg (v := I 0) rfl) (nl (nN (bl ?_)))
 have e1 : xs = markLg k0 0 ++ xs.drop 0 := by simp [markLg]
 refine lp (σ := (Option Addr) × Nat × Nat) (fun ⟨Ag0, cg0, k⟩ f w' => Has f [(0, .slice Ag0 xs.length cg0), (1, I (k0 + 2 * ((k : Nat) : Int))), (5, I ((k : Nat) : Int))] ∧ (k ≤ xs.length) ∧ (Ag0 = Axs) ∧ (cg0 = cxs) ∧ SH w w' (ownM Axs cxs ++ []) [.own Ag0 xs.length cg0 51 2 ((markLg k0 k ++ xs.drop k).flatMap gLogin)]) (fun ⟨Ag0, cg0, k⟩ => xs.length - k) (Axs, cxs, 0) ⟨⟨rfl, (show (I k0 : Value) = I (k0 + 2 * ((0 : Nat) : Int)) from congrArg (Value.int .i64) (by simp)), rfl, trivial⟩, (by simp), (rfl), (rfl), (hs0.cast (lc (own_eqf (g := gLogin) rfl rfl rfl e1) rfl))⟩ ?_
 rintro ⟨Ag0, cg0, k⟩ f w1 ⟨hf, hk, hA, hC, hs1⟩
 obtain ⟨g1, rfl⟩ := has_upd hf
 clear hf
 refine sq (sq (rg (qt rfl (mv (v := I ((k : Nat) : Int)) rfl) (qt rfl (mv (v := .slice Ag0 xs.length cg0) rfl) (qt rfl (lnA (n := xs.length) sl27 rfl) (qt rfl (lss (k := .i64) (a := ((k : Nat) : Int)) (b := ((xs.length : Nat) : Int)) rfl rfl) (nl ?_)))))))
 refine nN ?_
 refine cdd (p := ((k : Nat) : Int) < ((xs.length : Nat) : Int)) rfl (fun h1 => ?_) (fun h1 => ?_)
 · refine sk (nN (sq (bl (sq (rg (qt rfl (mv (v := .slice Ag0 xs.length cg0) rfl) (qt rfl (mv (v := I ((k : Nat) : Int)) rfl) ?_)))))))
   refine qt rfl (mv (v := I (k0 + 2 * ((k : Nat) : Int))) rfl) (cl trivial rfl (markText (k := k0 + 2 * ((k : Nat) : Int)) (w := _) (hk := (by omega))) ?_)
   rintro _ w2 ⟨rfl, hs2'⟩
   have hs2 := hs1.call0 hs2'
   clear hs2'
   obtain ⟨b1, rfl⟩ := own_form hs2 0 rfl (by omega)
   refine qt rfl (ixo k sl27 rfl rfl (by omega)) (qt rfl (fa 0 fo51_0 rfl) (stoff (g := gLogin) (ys := markLg k0 k ++ xs.drop k) (o := k) (off := 0) (u := ((markT (k0 + 2 * ((k : Nat) : Int)), ((markLg k0 k ++ xs.drop k).getD k login0).2) : List UInt8 × List UInt8)) (v := Str (markT (k0 + 2 * ((k : Nat) : Int)))) login0 (fun _ => rfl) hs2 0 rfl rfl rfl (by omega) (by (simp; omega)) rfl rfl rfl one9 trivial (fun w3 (hs3 : SH w w3 (ownM Axs cxs ++ []) [.own (some ⟨b1, 0, none⟩) xs.length cg0 51 2 (((markLg k0 k ++ xs.drop k).set k ((markT (k0 + 2 * ((k : Nat) : Int)), ((markLg k0 k ++ xs.drop k).getD k login0).2) : List UInt8 × List UInt8)).flatMap gLogin)]) => ?_)))
   refine nl (nN (sq (rg (qt rfl (mv (v := I (k0 + 2 * ((k : Nat) : Int))) rfl) (qt rfl (add (a := k0 + 2 * ((k : Nat) : Int)) (b := 1) rfl rfl (by exact ⟨by omega, by omega⟩)) (qt rfl (asg (v := I ((k0 + 2 * ((k : Nat) : Int)) + 1)) rfl) (nl ?_)))))))
   refine nN (sq (rg (qt rfl (mv (v := sb b1 xs.length cg0) rfl) (qt rfl (mv (v := I ((k : Nat) : Int)) rfl) (qt rfl (mv (v := I ((k0 + 2 * ((k : Nat) : Int)) + 1)) rfl) (cl trivial rfl (markText (k := (k0 + 2 * ((k : Nat) : Int)) + 1) (w := _) (hk := (by omega))) ?_))))))
   rintro _ w4 ⟨rfl, hs4'⟩
   have hs4 := hs3.call0 hs4'
   clear hs4'
   refine qt rfl (ixo k sl27 rfl rfl (by omega)) (qt rfl (fa 1 fo51_1 rfl) (stoff (g := gLogin) (ys := (markLg k0 k ++ xs.drop k).set k ((markT (k0 + 2 * ((k : Nat) : Int)), ((markLg k0 k ++ xs.drop k).getD k login0).2) : List UInt8 × List UInt8)) (o := k) (off := 1) (u := (((((markLg k0 k ++ xs.drop k).set k ((markT (k0 + 2 * ((k : Nat) : Int)), ((markLg k0 k ++ xs.drop k).getD k login0).2) : List UInt8 × List UInt8)).getD k login0).1, markT ((k0 + 2 * ((k : Nat) : Int)) + 1)) : List UInt8 × List UInt8)) (v := Str (markT ((k0 + 2 * ((k : Nat) : Int)) + 1))) login0 (fun _ => rfl) hs4 0 rfl rfl rfl (by omega) (by (simp; omega)) rfl rfl rfl one9 trivial (fun w5 (hs5 : SH w w5 (ownM Axs cxs ++ []) [.own (some ⟨b1, 0, none⟩) xs.length cg0 51 2 ((((markLg k0 k ++ xs.drop k).set k ((markT (k0 + 2 * ((k : Nat) : Int)), ((markLg k0 k ++ xs.drop k).getD k login0).2) : List UInt8 × List UInt8)).set k (((((markLg k0 k ++ xs.drop k).set k ((markT (k0 + 2 * ((k : Nat) : Int)), ((markLg k0 k ++ xs.drop k).getD k login0).2) : List UInt8 × List UInt8)).getD k login0).1, markT ((k0 + 2 * ((k : Nat) : Int)) + 1)) : List UInt8 × List UInt8)).flatMap gLogin)]) => ?_)))
   refine nl (nN (rg (qt rfl (mv (v := I ((k0 + 2 * ((k : Nat) : Int)) + 1)) rfl) (qt rfl (add (a := (k0 + 2 * ((k : Nat) : Int)) + 1) (b := 1) rfl rfl (by exact ⟨by omega, by omega⟩)) (qt rfl (asg (v := I (((k0 + 2 * ((k : Nat) : Int)) + 1) + 1)) rfl) (nl (bN ?_)))))))
   refine nN (rg (qt rfl (mv (v := I ((k : Nat) : Int)) rfl) (qt rfl (add (a := ((k : Nat) : Int)) (b := 1) rfl rfl (by exact ⟨by omega, by omega⟩)) (qt rfl (asg (v := I (((k : Nat) : Int) + 1)) rfl) (nl (nN ?_))))))
   have e2 : ((markLg k0 k ++ xs.drop k).set k ((markT (k0 + 2 * ((k : Nat) : Int)), ((markLg k0 k ++ xs.drop k).getD k login0).2) : List UInt8 × List UInt8)).set k (((((markLg k0 k ++ xs.drop k).set k ((markT (k0 + 2 * ((k : Nat) : Int)), ((markLg k0 k ++ xs.drop k).getD k login0).2) : List UInt8 × List UInt8)).getD k login0).1, markT ((k0 + 2 * ((k : Nat) : Int)) + 1)) : List UInt8 × List UInt8) = markLg k0 (k + 1) ++ xs.drop (k + 1) := by (have hl : k < (markLg k0 k ++ xs.drop k).length := (by rw [List.length_append, markLg_len, List.length_drop]; omega)); simp only [getD_set_self, List.length_set, hl, List.set_set]; exact markLg_set (by omega)
   refine ⟨((some ⟨b1, 0, none⟩), cg0, k + 1), ⟨⟨rfl, (show (I (((k0 + 2 * ((k : Nat) : Int)) + 1) + 1) : Value) = I (k0 + 2 * (((k + 1) : Nat) : Int)) from congrArg (Value.int .i64) (by omega)), rfl, trivial⟩, (by omega), (hA), (hC), (hs5.cast (lc (own_eqf (g := gLogin) rfl rfl rfl e2) rfl))⟩, ?_⟩
   show xs.length - (k + 1) < xs.length - k
   omega
 · refine ex (tE (tE (bE ?_)))
   refine nN (sq (rg (qt rfl (mv (v := I (k0 + 2 * ((k : Nat) : Int))) rfl) (qt rfl (asg (v := I (k0 + 2 * ((k : Nat) : Int))) rfl) (nl (nN (rt ?_)))))))
   refine fret (v := I (k0 + 2 * ((k : Nat) : Int))) (.tmp .nil) rfl ?_
   have e3 : k0 + 2 * ((k : Nat) : Int) = k0 + 2 * ((xs.length : Nat) : Int) := by have : k = xs.length := (by omega); subst this; rfl
   have e4 : Ag0 = Axs := by assumption
   have e5 : cg0 = cxs := by assumption
   have e6 : markLg k0 k ++ xs.drop k = markLg k0 xs.length := by have : k = xs.length := (by omega); subst this; simp
   exact ⟨(congrArg (Value.int .i64) e3), (hs1.cast (lc (own_eqf (g := gLogin) e4 rfl e5 e6) rfl))⟩
theorem heldLoginS {Axs : Option Addr} {cxs : Nat} (xs : List (List UInt8 × List UInt8)) (k0 : Int) (w : World) (hxs : Sl w [] 2 Axs xs.length cxs (xs.flatMap gLogin)) (hxs_e : ∀ u ∈ xs, u.1.length ≤ 9223372036854775807 ∧ u.2.length ≤ 9223372036854775807) (hxs_n : xs.length ≤ 1099511627776) (hk0 : 0 ≤ k0 ∧ k0 ≤ 4398046511104) : Does Tryz.prog 53 [.slice Axs xs.length cxs, I k0] w (fun v w' => v = .int .i64 (heldLg xs k0) ∧ SH w w' [] []) := by
 refine fn_enter (N := 33) Tryz.func53 rfl (by kernel_rfl) rfl rfl rfl ?_
 have hs0 : SH w w [] [] := SH.refl w []
 have hxs_m : xs.length ≤ 9223372036854775807 := Nat.le_trans hxs.cap hxs.capMax
 refine sq (rg (qt rfl (asg (v := I 0) rfl) (nl (nN (sq (sq (rg ?_)))))))
 refine qt rfl (asg (v := I 0) rfl) (nl (nN (bl (lp (σ := Nat) (fun (k : Nat) f w' => Has f [(0, .slice Axs xs.length cxs), (1, I (k0 + 2 * ((k : Nat) : Int))), (5, I ((k : Nat) : Int))] ∧ (k ≤ xs.length) ∧ (xs.take k = markLg k0 k) ∧ SH w w' [] []) (fun k => xs.length - k) 0 ⟨⟨rfl, (show (I k0 : Value) = I (k0 + 2 * ((0 : Nat) : Int)) from congrArg (Value.int .i64) (by simp)), rfl, trivial⟩, (by simp), (by simp [markLg]), hs0⟩ ?_))))
 rintro k f w1 ⟨hf, hk, hm, hs1⟩
 obtain ⟨g1, rfl⟩ := has_upd hf
 clear hf
 refine sq (sq (rg (qt rfl (mv (v := I ((k : Nat) : Int)) rfl) (qt rfl (mv (v := .slice Axs xs.length cxs) rfl) (qt rfl (lnA (n := xs.length) sl27 rfl) (qt rfl (lss (k := .i64) (a := ((k : Nat) : Int)) (b := ((xs.length : Nat) : Int)) rfl rfl) (nl ?_)))))))
 refine nN ?_
 refine cdd (p := ((k : Nat) : Int) < ((xs.length : Nat) : Int)) rfl (fun h1 => ?_) (fun h1 => ?_)
 · refine sk (nN (sq (bl (sq (sq (rq (fun w' => SH w w' [] []) mixed (by kernel_rfl) hs1.drew (qq trivial rfl rfl (fun wq hsq => mv (v := .slice Axs xs.length cxs) rfl) ?_)))))))
   refine qq trivial rfl rfl (fun wq hsq => mv (v := I ((k : Nat) : Int)) rfl) (ixqf (g := gLogin) (zs := xs) (fun _ => rfl) login0 k sl27 rfl rfl hxs (by omega) (by omega) trivial rfl (fun a1 ha1 => ?_))
   refine qq trivial rfl rfl (fun wq hsq => fap 0 fo51_0 rfl) (qq trivial rfl rfl (fun wq hsq => ldf (v := Str ((xs.getD k login0).1)) 0 hsq ha1 (fun _ h => h) rfl rfl one9) (qq trivial rfl rfl (fun wq hsq => mv (v := I (k0 + 2 * ((k : Nat) : Int))) rfl) (qc (Str (markT (k0 + 2 * ((k : Nat) : Int)))) trivial rfl (fun wq hsq => (markText (k := k0 + 2 * ((k : Nat) : Int)) (w := _) (hk := (by omega))).mono (fun v w' h => ⟨h.1, by simpa using hsq.call0 h.2⟩)) (qq trivial rfl rfl (fun wq hsq => nes (l := (xs.getD k login0).1) (m := markT (k0 + 2 * ((k : Nat) : Int))) rfl rfl) (qn (fun w2 hs2 => ?_))))))
   refine nN ?_
   refine cdd (p := (xs.getD k login0).1 ≠ markT (k0 + 2 * ((k : Nat) : Int))) rfl (fun h2 => ?_) (fun h2 => ?_)
   · refine sq (rg (qt rfl (asg (v := I (-1)) rfl) (nl (nN ?_))))
     refine rt (tR (bR (tR (tR (bR (tR ?_))))))
     refine fret (v := I (-1)) (.tmp .nil) rfl ?_
     have e1 : (-1) = heldLg xs k0 := by exact heldLg_no (k := k) (by omega) (fun hh => absurd hh.1 (by assumption))
     exact ⟨(congrArg (Value.int .i64) e1), hs2⟩
   · refine sk (nN (sq (rg (qt rfl (mv (v := I (k0 + 2 * ((k : Nat) : Int))) rfl) (qt rfl (add (a := k0 + 2 * ((k : Nat) : Int)) (b := 1) rfl rfl (by exact ⟨by omega, by omega⟩)) (qt rfl (asg (v := I ((k0 + 2 * ((k : Nat) : Int)) + 1)) rfl) (nl ?_)))))))
     refine nN (sq (sq (rq (fun w' => SH w w' [] []) mixed (by kernel_rfl) hs2.drew (qq trivial rfl rfl (fun wq hsq => mv (v := .slice Axs xs.length cxs) rfl) (qq trivial rfl rfl (fun wq hsq => mv (v := I ((k : Nat) : Int)) rfl) (ixqf (g := gLogin) (zs := xs) (fun _ => rfl) login0 k sl27 rfl rfl hxs (by omega) (by omega) trivial rfl (fun a2 ha2 => ?_)))))))
     refine qq trivial rfl rfl (fun wq hsq => fap 1 fo51_1 rfl) (qq trivial rfl rfl (fun wq hsq => ldf (v := Str ((xs.getD k login0).2)) 1 hsq ha2 (fun _ h => h) rfl rfl one9) (qq trivial rfl rfl (fun wq hsq => mv (v := I ((k0 + 2 * ((k : Nat) : Int)) + 1)) rfl) (qc (Str (markT ((k0 + 2 * ((k : Nat) : Int)) + 1))) trivial rfl (fun wq hsq => (markText (k := (k0 + 2 * ((k : Nat) : Int)) + 1) (w := _) (hk := (by omega))).mono (fun v w' h => ⟨h.1, by simpa using hsq.call0 h.2⟩)) (qq trivial rfl rfl (fun wq hsq => nes (l := (xs.getD k login0).2) (m := markT ((k0 + 2 * ((k : Nat) : Int)) + 1)) rfl rfl) (qn (fun w3 hs3 => ?_))))))
     refine nN ?_
     refine cdd (p := (xs.getD k login0).2 ≠ markT ((k0 + 2 * ((k : Nat) : Int)) + 1)) rfl (fun h3 => ?_) (fun h3 => ?_)
     · refine sq (rg (qt rfl (asg (v := I (-1)) rfl) (nl (nN ?_))))
       refine rt (tR (bR (tR (tR (bR (tR ?_))))))
       refine fret (v := I (-1)) (.tmp .nil) rfl ?_
       have e2 : (-1) = heldLg xs k0 := by exact heldLg_no (k := k) (by omega) (fun hh => absurd hh.2 (by assumption))
       exact ⟨(congrArg (Value.int .i64) e2), hs3⟩
     · refine sk (nN (rg (qt rfl (mv (v := I ((k0 + 2 * ((k : Nat) : Int)) + 1)) rfl) (qt rfl (add (a := (k0 + 2 * ((k : Nat) : Int)) + 1) (b := 1) rfl rfl (by exact ⟨by omega, by omega⟩)) (qt rfl (asg (v := I (((k0 + 2 * ((k : Nat) : Int)) + 1) + 1)) rfl) (nl (bN ?_)))))))
       refine nN (rg (qt rfl (mv (v := I ((k : Nat) : Int)) rfl) (qt rfl (add (a := ((k : Nat) : Int)) (b := 1) rfl rfl (by exact ⟨by omega, by omega⟩)) (qt rfl (asg (v := I (((k : Nat) : Int) + 1)) rfl) (nl (nN ?_))))))
       refine ⟨(k + 1), ⟨⟨rfl, (show (I (((k0 + 2 * ((k : Nat) : Int)) + 1) + 1) : Value) = I (k0 + 2 * (((k + 1) : Nat) : Int)) from congrArg (Value.int .i64) (by omega)), rfl, trivial⟩, (by omega), (markLg_take (by omega) hm (Decidable.not_not.1 (by assumption)) (Decidable.not_not.1 (by assumption))), hs3⟩, ?_⟩
       omega
 · refine ex (tE (tE (bE ?_)))
   refine nN (sq (rg (qt rfl (mv (v := I (k0 + 2 * ((k : Nat) : Int))) rfl) (qt rfl (asg (v := I (k0 + 2 * ((k : Nat) : Int))) rfl) (nl (nN (rt ?_)))))))
   refine fret (v := I (k0 + 2 * ((k : Nat) : Int))) (.tmp .nil) rfl ?_
   have e3 : k0 + 2 * ((k : Nat) : Int) = heldLg xs k0 := by (have : k = xs.length := (by omega); subst this; exact heldLg_yes (by simpa using hm))
   exact ⟨(congrArg (Value.int .i64) e3), hs1⟩
theorem markTalk (sx : Int) {Awt : Option Addr} {cwt : Nat} (wt : List Int) {Alg : Option Addr} {clg : Nat} (lg : List (List UInt8 × List UInt8)) (to : List UInt8) (k0 : Int) (w : World) (hwt : OwnR w Awt wt.length cwt 3 1 (wt.map I)) (hwt_n : wt.length ≤ 2147483648) (hlg : OwnR w Alg lg.length clg 51 2 (lg.flatMap gLogin)) (hlg_n : lg.length ≤ 2147483648) (hk0 : 0 ≤ k0 ∧ k0 ≤ 1073741824) (hx_wt_lg : ∀ k, (It.own Awt wt.length cwt 3 1 (wt.map I)).has k → ¬ (It.own Alg lg.length clg 51 2 (lg.flatMap gLogin)).has k) : Does Tryz.prog 18 [.agg #[I sx, .slice Awt wt.length cwt, .slice Alg lg.length clg, Str to], I k0] w (fun v w' => v = .int .i64 (k0 + ((wt.length : Nat) : Int) + 2 * ((lg.length : Nat) : Int)) ∧ SH w w' (ownM Awt cwt ++ (ownM Alg clg ++ [])) [.own Awt wt.length cwt 3 1 ((marks k0 wt.length).map I), .own Alg lg.length clg 51 2 ((markLg (k0 + ((wt.length : Nat) : Int)) lg.length).flatMap gLogin)]) := by
 refine fn_enter (N := 14) Tryz.func18 rfl (by kernel_rfl) rfl rfl rfl ?_
 have hs0 : SH w w (ownM Awt cwt ++ (ownM Alg clg ++ [])) [.own Awt wt.length cwt 3 1 (wt.map I), .own Alg lg.length clg 51 2 (lg.flatMap gLogin)] := SH.entryK [.own Awt wt.length cwt 3 1 (wt.map I), .own Alg lg.length clg 51 2 (lg.flatMap gLogin)] (fa_cons hwt (fa_cons hlg fa_nil)) (.cons (fa_cons hx_wt_lg fa_nil) (.cons fa_nil .nil))
 have hwt_m : wt.length ≤ 9223372036854775807 := Nat.le_trans hwt.2.1 hwt.2.2.1
 have hlg_m : lg.length ≤ 9223372036854775807 := Nat.le_trans hlg.2.1 hlg.2.2.1
 refine sq (rg (bx (v := .agg #[I sx, .slice Awt wt.length cwt, .slice Alg lg.length clg, Str to]) (cs := [I sx, .slice Awt wt.length cwt, .slice Alg lg.length clg, Str to]) hs0 rfl rfl trivial rfl (fun b1 w1 (hs1 : SH w w1 (ownM Awt cwt ++ (ownM Alg clg ++ [])) [.own Awt wt.length cwt 3 1 (wt.map I), .own Alg lg.length clg 51 2 (lg.flatMap gLogin), .blk b1 29 [I sx, .slice Awt wt.length cwt, .slice Alg lg.length clg, Str to]]) => ?_)))
 refine qt rfl (asg (v := I 0) rfl) (nl (nN (sq (rg (qt rfl (fa 1 fo29_1 rfl) (qt rfl (ld (v := .slice Awt wt.length cwt) hs1 2 rfl rfl rfl one22) (qt rfl (mv (v := I k0) rfl) ?_)))))))
 refine cl trivial rfl (markIntS (Axs := Awt) (cxs := cwt) (xs := wt) (k0 := k0) (w := _) (hxs := (own_ok hs1 0 rfl)) (hxs_n := (by omega)) (hk0 := (by omega))) ?_
 rintro _ w2 ⟨rfl, hs2'⟩
 have hs2 : SH w w2 (ownM Awt cwt ++ (ownM Alg clg ++ [])) [.own Alg lg.length clg 51 2 (lg.flatMap gLogin), .blk b1 29 [I sx, .slice Awt wt.length cwt, .slice Alg lg.length clg, Str to], .own Awt wt.length cwt 3 1 ((marks k0 wt.length).map I)] := SH.callK (K := [.own Awt wt.length cwt 3 1 (wt.map I)]) (R := [.own Alg lg.length clg 51 2 (lg.flatMap gLogin), .blk b1 29 [I sx, .slice Awt wt.length cwt, .slice Alg lg.length clg, Str to]]) hs1 hs2' rfl
 clear hs2'
 have e1 : wt.length = (marks k0 wt.length).length := by (simp; done)
 have hs3 : SH w w2 (ownM Awt cwt ++ (ownM Alg clg ++ [])) [.own Alg lg.length clg 51 2 (lg.flatMap gLogin), .blk b1 29 [I sx, .slice Awt wt.length cwt, .slice Alg lg.length clg, Str to], .own Awt ((marks k0 wt.length).length) cwt 3 1 ((marks k0 wt.length).map I)] := (hs2.cast (lc rfl (lc rfl (lc (own_eq (g := I) rfl e1 rfl rfl) rfl))))
 clear hs2
 refine qt rfl (asg (v := I (k0 + ((wt.length : Nat) : Int))) rfl) (nl (nN (sq (rg (qt rfl (fa 2 fo29_2 rfl) (qt rfl (ld (v := .slice Alg lg.length clg) hs3 1 rfl rfl rfl one27) (qt rfl (mv (v := I (k0 + ((wt.length : Nat) : Int))) rfl) ?_)))))))
 refine cl trivial rfl (markLoginS (Axs := Alg) (cxs := clg) (xs := lg) (k0 := k0 + ((wt.length : Nat) : Int)) (w := _) (hxs := (own_ok hs3 0 rfl)) (hxs_n := (by omega)) (hk0 := (by omega))) ?_
 rintro _ w3 ⟨rfl, hs4'⟩
 have hs4 : SH w w3 (ownM Awt cwt ++ (ownM Alg clg ++ [])) [.blk b1 29 [I sx, .slice Awt wt.length cwt, .slice Alg lg.length clg, Str to], .own Awt ((marks k0 wt.length).length) cwt 3 1 ((marks k0 wt.length).map I), .own Alg lg.length clg 51 2 ((markLg (k0 + ((wt.length : Nat) : Int)) lg.length).flatMap gLogin)] := SH.callK (K := [.own Alg lg.length clg 51 2 (lg.flatMap gLogin)]) (R := [.blk b1 29 [I sx, .slice Awt wt.length cwt, .slice Alg lg.length clg, Str to], .own Awt ((marks k0 wt.length).length) cwt 3 1 ((marks k0 wt.length).map I)]) hs3 hs4' rfl
 clear hs4'
 have e2 : lg.length = (markLg (k0 + ((wt.length : Nat) : Int)) lg.length).length := by (simp; done)
 have hs5 : SH w w3 (ownM Awt cwt ++ (ownM Alg clg ++ [])) [.blk b1 29 [I sx, .slice Awt wt.length cwt, .slice Alg lg.length clg, Str to], .own Awt ((marks k0 wt.length).length) cwt 3 1 ((marks k0 wt.length).map I), .own Alg ((markLg (k0 + ((wt.length : Nat) : Int)) lg.length).length) clg 51 2 ((markLg (k0 + ((wt.length : Nat) : Int)) lg.length).flatMap gLogin)] := (hs4.cast (lc rfl (lc rfl (lc (own_eqf (g := gLogin) rfl e2 rfl rfl) rfl))))
 clear hs4
 refine qt rfl (asg (v := I ((k0 + ((wt.length : Nat) : Int)) + 2 * ((lg.length : Nat) : Int))) rfl) (nl (nN (sq (rg (qt rfl (mv (v := I ((k0 + ((wt.length : Nat) : Int)) + 2 * ((lg.length : Nat) : Int))) rfl) (qt rfl (asg (v := I ((k0 + ((wt.length : Nat) : Int)) + 2 * ((lg.length : Nat) : Int))) rfl) (nl ?_)))))))
 refine nN (rt (fret (v := I ((k0 + ((wt.length : Nat) : Int)) + 2 * ((lg.length : Nat) : Int))) (.tmp .nil) rfl ?_))
 have e3 : (k0 + ((wt.length : Nat) : Int)) + 2 * ((lg.length : Nat) : Int) = k0 + ((wt.length : Nat) : Int) + 2 * ((lg.length : Nat) : Int) := by rfl
 have e4 : (marks k0 wt.length).length = wt.length := by (simp; done)
 have e5 : (markLg (k0 + ((wt.length : Nat) : Int)) lg.length).length = lg.length := by (simp; done)
 exact ⟨(congrArg (Value.int .i64) e3), ((hs5.pick [1, 2] rfl (by decide)).cast (lc (own_eq (g := I) rfl e4 rfl rfl) (lc (own_eqf (g := gLogin) rfl e5 rfl rfl) rfl)))⟩
theorem heldTalk (sx : Int) {Awt : Option Addr} {cwt : Nat} (wt : List Int) {Alg : Option Addr} {clg : Nat} (lg : List (List UInt8 × List UInt8)) (to : List UInt8) (k0 : Int) (w : World) (hwt : Sl w [] 1 Awt wt.length cwt (wt.map I)) (hwt_n : wt.length ≤ 1099511627776) (hlg : Sl w [] 2 Alg lg.length clg (lg.flatMap gLogin)) (hlg_e : ∀ u ∈ lg, u.1.length ≤ 9223372036854775807 ∧ u.2.length ≤ 9223372036854775807) (hlg_n : lg.length ≤ 1099511627776) (hk0 : 0 ≤ k0 ∧ k0 ≤ 4294967296) : Does Tryz.prog 20 [.agg #[I sx, .slice Awt wt.length cwt, .slice Alg lg.length clg, Str to], I k0] w (fun v w' => v = .int .i64 (heldTk wt lg k0) ∧ SH w w' [] []) := by
 refine fn_enter (N := 18) Tryz.func20 rfl (by kernel_rfl) rfl rfl rfl ?_
 have hs0 : SH w w [] [] := SH.refl w []
 have hwt_m : wt.length ≤ 9223372036854775807 := Nat.le_trans hwt.cap hwt.capMax
 have hlg_m : lg.length ≤ 9223372036854775807 := Nat.le_trans hlg.cap hlg.capMax
 refine sq (rg (bx (v := .agg #[I sx, .slice Awt wt.length cwt, .slice Alg lg.length clg, Str to]) (cs := [I sx, .slice Awt wt.length cwt, .slice Alg lg.length clg, Str to]) hs0 rfl rfl trivial rfl (fun b1 w1 (hs1 : SH w w1 [] [.blk b1 29 [I sx, .slice Awt wt.length cwt, .slice Alg lg.length clg, Str to]]) => ?_)))
 refine qt rfl (asg (v := I 0) rfl) (nl (nN (sq (rg (qt rfl (fa 1 fo29_1 rfl) (qt rfl (ld (v := .slice Awt wt.length cwt) hs1 0 rfl rfl rfl one22) (qt rfl (mv (v := I k0) rfl) ?_)))))))
 refine cl trivial rfl (heldIntS (Axs := Awt) (cxs := cwt) (xs := wt) (k0 := k0) (w := _) (hxs := (hwt.up0 hs1)) (hxs_n := (by (first | omega | (simp; done) | (simp; omega)))) (hk0 := (by (first | omega | assumption | (simp; done) | (simp; omega))))) ?_
 rintro _ w2 ⟨rfl, hs2'⟩
 have hs2 := hs1.call0 hs2'
 clear hs2'
 refine qt rfl (asg (v := I (heldI wt k0)) rfl) (nl (nN (sq (sq (rg (qt rfl (mv (v := I (heldI wt k0)) rfl) (qt rfl (lss (k := .i64) (a := heldI wt k0) (b := 0) rfl rfl) ?_)))))))
 refine nl (nN ?_)
 refine cdd (p := (heldI wt k0) < 0) rfl (fun h1 => ?_) (fun h1 => ?_)
 · refine sq (rg (qt rfl (asg (v := I (-1)) rfl) (nl (nN (rt (tR ?_))))))
   refine fret (v := I (-1)) (.tmp .nil) rfl ?_
   have e1 : (-1) = heldTk wt lg k0 := by simp [heldTk, h1]
   exact ⟨(congrArg (Value.int .i64) e1), (hs2.pick [] rfl (by decide))⟩
 · refine sk (nN (sq (rg (qt rfl (fa 2 fo29_2 rfl) (qt rfl (ld (v := .slice Alg lg.length clg) hs2 0 rfl rfl rfl one27) (qt rfl (mv (v := I (heldI wt k0)) rfl) (cl trivial rfl (heldLoginS (Axs := Alg) (cxs := clg) (xs := lg) (k0 := heldI wt k0) (w := _) (hxs := (hlg.up0 hs2)) (hxs_e := hlg_e) (hxs_n := (by (first | omega | (simp; done) | (simp; omega)))) (hk0 := (by (have hhi := heldI_hi wt k0 (by omega); have hlo := heldI_lo wt k0 (by omega); first | omega | assumption | (simp; done) | (simp; omega))))) ?_)))))))
   rintro _ w3 ⟨rfl, hs3'⟩
   have hs3 := hs2.call0 hs3'
   clear hs3'
   refine qt rfl (asg (v := I (heldLg lg (heldI wt k0))) rfl) (nl (nN (sq (sq (rg (qt rfl (mv (v := I (heldLg lg (heldI wt k0))) rfl) (qt rfl (lss (k := .i64) (a := heldLg lg (heldI wt k0)) (b := 0) rfl rfl) ?_)))))))
   refine nl (nN ?_)
   refine cdd (p := (heldLg lg (heldI wt k0)) < 0) rfl (fun h2 => ?_) (fun h2 => ?_)
   · refine sq (rg (qt rfl (asg (v := I (-1)) rfl) (nl (nN (rt (tR ?_))))))
     refine fret (v := I (-1)) (.tmp .nil) rfl ?_
     have e2 : (-1) = heldTk wt lg k0 := by simp [heldTk, h1, h2]
     exact ⟨(congrArg (Value.int .i64) e2), (hs3.pick [] rfl (by decide))⟩
   · refine sk (nN (sq (rg (qt rfl (mv (v := I (heldLg lg (heldI wt k0))) rfl) (qt rfl (asg (v := I (heldLg lg (heldI wt k0))) rfl) (nl (nN ?_)))))))
     refine rt (fret (v := I (heldLg lg (heldI wt k0))) (.tmp .nil) rfl ?_)
     have e3 : heldLg lg (heldI wt k0) = heldTk wt lg k0 := by simp [heldTk, h1, h2]
     exact ⟨(congrArg (Value.int .i64) e3), (hs3.pick [] rfl (by decide))⟩

end Go.Proofs.YtjehmnojfpedjaaGreatDoor
