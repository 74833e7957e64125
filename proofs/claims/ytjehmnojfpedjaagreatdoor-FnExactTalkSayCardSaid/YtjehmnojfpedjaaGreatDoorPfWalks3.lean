/-
  Part of the proofs over this seat: what each function of the program computes, function by function (the text is written by a program of this hand-in's own).
  Conditions: each theorem states its own.
-/
import Derived.Test.YtjehmnojfpedjaaGreatDoorPfWalks2
namespace Go.Proofs.YtjehmnojfpedjaaGreatDoor
open Go.PF
set_option maxRecDepth 100000
set_option linter.unusedSimpArgs false
set_option linter.unusedVariables false

theorem iAddressFrom (s : List UInt8) (w : World) (hs_n : s.length ≤ 1099511627776) (hGp : VarP Tryz.prog w [] "internal/strconv.uint64pow10" isPow) (hEr : VarP Tryz.prog w [] "strconv.ErrRange" isIfc) (hEs : VarP Tryz.prog w [] "strconv.ErrSyntax" isIfc) : Does Tryz.prog 81 [Str s] w (fun v w' => ∃ Aqr : Option Addr, ∃ cqr : Nat, v = .tuple #[.agg #[.int .i64 ((addrFrom s).1.1), .slice Aqr ((addrFrom s).1.2.1).length cqr, Str ((addrFrom s).1.2.2.1), .int .i64 ((addrFrom s).1.2.2.2)], .bool ((addrFrom s).2)] ∧ SH w w' [] [.own Aqr (((addrFrom s).1.2.1).length) cqr 3 1 (((addrFrom s).1.2.1).map I)]) := by
 refine fn_enter (N := 43) Tryz.func81 rfl (by kernel_rfl) rfl rfl rfl ?_
 have hs0 : SH w w [] [] := SH.refl w []
 refine sq (rg (al (v := .agg #[I 0, ns, Str [], I 0]) (cs := [I 0, ns, Str [], I 0]) hs0 tz43 rfl trivial rfl (fun b1 w1 (hs1 : SH w w1 [] [.blk b1 43 [I 0, ns, Str [], I 0]]) => ?_)))
 refine qt rfl (asg (v := .bool false) rfl) (nl (nN (sq (rg (qt rfl (mv (v := Str s) rfl) (cl trivial rfl (stCut (l := s) (c := 58) (w := _) (hl_n := (by (first | omega | (simp; done) | (simp; omega))))) ?_))))))
 rintro _ w2 ⟨rfl, hs2'⟩
 have hs2 := hs1.call0 hs2'
 clear hs2'
 refine qt rfl (mv (v := .tuple #[Str (cutA s 58), Str (cutZ s 58), .bool (decide (0 ≤ idxB s 58))]) rfl) (qt rfl (xt 0 (v := Str (cutA s 58)) rfl rfl) (qt rfl (xt 1 (v := Str (cutZ s 58)) rfl rfl) (qt rfl (xt 2 (v := .bool (decide (0 ≤ idxB s 58))) rfl rfl) (qt rfl (asg (v := Str (cutA s 58)) rfl) (qt rfl (asg (v := Str (cutZ s 58)) rfl) (qt rfl (asg (v := .bool (decide (0 ≤ idxB s 58))) rfl) (nl ?_)))))))
 refine nN (sq (rg (qt rfl (mv (v := Str (cutZ s 58)) rfl) (cl trivial rfl (iDecimal (s := cutZ s 58) (w := _) (hs_n := (by (have hcA := cutA_len s 58; have hcZ := cutZ_len s 58; first | omega | (simp; done) | (simp; omega)))) (hGp := (hGp.up0 hs2)) (hEr := (hEr.up0 hs2)) (hEs := (hEs.up0 hs2))) ?_))))
 rintro _ w3 ⟨rfl, hs3'⟩
 have hs3 := hs2.call0 hs3'
 clear hs3'
 refine qt rfl (mv (v := .tuple #[I ((decI (cutZ s 58)).1), .bool ((decI (cutZ s 58)).2)]) rfl) (qt rfl (xt 0 (v := I ((decI (cutZ s 58)).1)) rfl rfl) (qt rfl (xt 1 (v := .bool ((decI (cutZ s 58)).2)) rfl rfl) (qt rfl (asg (v := I ((decI (cutZ s 58)).1)) rfl) (qt rfl (asg (v := .bool ((decI (cutZ s 58)).2)) rfl) (nl (nN (sq ?_)))))))
 refine sq (rg (qt rfl (mv (v := .bool ((decI (cutZ s 58)).2)) rfl) (qt rfl (nt (b := (decI (cutZ s 58)).2) rfl) (nl (nN ?_)))))
 refine cd (b := !((decI (cutZ s 58)).2)) rfl (fun h1 => ?_) (fun h1 => ?_)
 · have h2 : ((decI (cutZ s 58)).2) = false := by simpa using h1
   refine sq (rg (qt rfl (bdv (v := .agg #[I 0, ns, Str [], I 0]) [] rfl (fun _ => by kernel_rfl)) (stg (vs := [I 0, ns, Str [], I 0]) hs3 0 rfl rfl rfl rfl rfl rfl rfl ag43 trivial (fun w4 (hs4 : SH w w4 [] [.blk b1 43 [I 0, ns, Str [], I 0]]) => ?_))))
   refine qt rfl (asg (v := .bool false) rfl) (nl (nN (rt (tR ?_))))
   refine fret (v := .tuple #[.agg #[I 0, ns, Str [], I 0], .bool false]) (resC hs4 0 rfl rfl ag43 rfl (.tmp .nil)) rfl ?_
   have hs5 : SH w w4 [] [.blk b1 43 [I 0, ns, Str [], I 0], .own none (([] : List Int).length) 0 3 1 (([] : List Int).map I)] := SH.nils (by intro i hi; simp at hi; subst hi; exact nilItem) hs4
   have e1 : addrFrom s = ((0, ([] : List Int), [], 0), false) := by (rw [addr_impl]; simp [addrOf, aOk, h2])
   have e2 : 0 = (addrFrom s).1.1 := by rw [e1]
   have e3 : ([] : List Int) = (addrFrom s).1.2.1 := by rw [e1]
   have e4 : ([] : List Int).length = ((addrFrom s).1.2.1).length := by exact congrArg List.length e3
   have e5 : [] = (addrFrom s).1.2.2.1 := by rw [e1]
   have e6 : 0 = (addrFrom s).1.2.2.2 := by rw [e1]
   have e7 : false = (addrFrom s).2 := by rw [e1]
   exact ⟨none, 0, (tup2 (aggv (lc (congrArg (Value.int .i64) e2) (lc (slv rfl e4 rfl) (lc (congrArg (Str) e5) (lc (congrArg (Value.int .i64) e6) rfl))))) (congrArg (Value.bool) e7)), ((hs5.pick [1] rfl (by decide)).cast (lc (own_eq (g := I) rfl e4 rfl e3) rfl))⟩
 · have h3 : ((decI (cutZ s 58)).2) = true := by simpa using h1
   refine sk (nN (sq (rg (qt rfl (mv (v := Str (cutA s 58)) rfl) (qt rfl (mv (v := I ((decI (cutZ s 58)).1)) rfl) (qt rfl (bdv (v := .agg #[I 3, ns, Str (cutA s 58), I ((decI (cutZ s 58)).1)]) [(0, I 3), (2, Str (cutA s 58)), (3, I ((decI (cutZ s 58)).1))] rfl (fun _ => by kernel_rfl)) (al (v := .agg #[I 0, ns, Str [], I 0]) (cs := [I 0, ns, Str [], I 0]) hs3 tz43 rfl trivial rfl (fun b2 w5 (hs6 : SH w w5 [] [.blk b1 43 [I 0, ns, Str [], I 0], .blk b2 43 [I 0, ns, Str [], I 0]]) => ?_))))))))
   refine stg (vs := [I 3, ns, Str (cutA s 58), I ((decI (cutZ s 58)).1)]) hs6 1 rfl rfl rfl rfl rfl rfl rfl ag43 trivial (fun w6 (hs7 : SH w w6 [] [.blk b1 43 [I 0, ns, Str [], I 0], .blk b2 43 [I 3, ns, Str (cutA s 58), I ((decI (cutZ s 58)).1)]]) => ?_)
   refine nl (nN (sq (sq (rg (qt rfl (mv (v := Str (cutA s 58)) rfl) (cl trivial rfl (iQuadFrom (s := cutA s 58) (w := _) (hs_n := (by (have hcA := cutA_len s 58; have hcZ := cutZ_len s 58; first | omega | (simp; done) | (simp; omega)))) (hGp := (hGp.up0 hs7)) (hEr := (hEr.up0 hs7)) (hEs := (hEs.up0 hs7))) ?_))))))
   rintro _ w7 ⟨A1, c1, rfl, hs8'⟩
   have hs8 := hs7.call0 hs8'
   clear hs8'
   refine qt rfl (mv (v := .tuple #[.slice A1 (((quadFrom (cutA s 58)).1).length) c1, .bool ((quadFrom (cutA s 58)).2)]) rfl) (qt rfl (xt 0 (v := .slice A1 (((quadFrom (cutA s 58)).1).length) c1) rfl rfl) (qt rfl (xt 1 (v := .bool ((quadFrom (cutA s 58)).2)) rfl rfl) (qt rfl (asg (v := .slice A1 (((quadFrom (cutA s 58)).1).length) c1) rfl) (qt rfl (asg (v := .bool ((quadFrom (cutA s 58)).2)) rfl) (nl (nN (sq ?_)))))))
   refine rg (qt rfl (mv (v := .bool ((quadFrom (cutA s 58)).2)) rfl) (nl (nN ?_)))
   refine cd (b := (quadFrom (cutA s 58)).2) rfl (fun h4 => ?_) (fun h4 => ?_)
   · refine rg (qt rfl (mv (v := .slice A1 (((quadFrom (cutA s 58)).1).length) c1) rfl) (qt rfl (mv (v := I ((decI (cutZ s 58)).1)) rfl) (qt rfl (bdv (v := .agg #[I 1, .slice A1 (((quadFrom (cutA s 58)).1).length) c1, Str [], I ((decI (cutZ s 58)).1)]) [(0, I 1), (1, .slice A1 (((quadFrom (cutA s 58)).1).length) c1), (3, I ((decI (cutZ s 58)).1))] rfl (fun _ => by kernel_rfl)) (stg (vs := [I 1, .slice A1 (((quadFrom (cutA s 58)).1).length) c1, Str [], I ((decI (cutZ s 58)).1)]) hs8 1 rfl rfl rfl rfl rfl rfl rfl ag43 trivial (fun w8 (hs9 : SH w w8 [] [.blk b1 43 [I 0, ns, Str [], I 0], .own A1 (((quadFrom (cutA s 58)).1).length) c1 3 1 (((quadFrom (cutA s 58)).1).map I), .blk b2 43 [I 1, .slice A1 (((quadFrom (cutA s 58)).1).length) c1, Str [], I ((decI (cutZ s 58)).1)]]) => ?_)))))
     refine nl (nN (sq (sq (rg (qt rfl (ldg (vs := [I 1, .slice A1 (((quadFrom (cutA s 58)).1).length) c1, Str [], I ((decI (cutZ s 58)).1)]) hs9 2 rfl rfl rfl rfl ag43) (cl trivial rfl (iAddressValid (ak := 1) (Aaq := A1) (caq := c1) (aq := (quadFrom (cutA s 58)).1) (an := []) (apt := (decI (cutZ s 58)).1) (w := _) (haq := (hs9.sl0 1 rfl)) (han_n := (by (first | omega | (simp; done) | (simp; omega))))) ?_))))))
     rintro _ w9 ⟨rfl, hs10'⟩
     have hs10 := hs9.call0 hs10'
     clear hs10'
     refine qt rfl (nt (b := addrOk 1 ((quadFrom (cutA s 58)).1) [] ((decI (cutZ s 58)).1)) rfl) (nl (nN ?_))
     refine cd (b := !(addrOk 1 ((quadFrom (cutA s 58)).1) [] ((decI (cutZ s 58)).1))) rfl (fun h5 => ?_) (fun h5 => ?_)
     · have h6 : (addrOk 1 ((quadFrom (cutA s 58)).1) [] ((decI (cutZ s 58)).1)) = false := by simpa using h5
       refine sq (rg (qt rfl (bdv (v := .agg #[I 0, ns, Str [], I 0]) [] rfl (fun _ => by kernel_rfl)) (stg (vs := [I 0, ns, Str [], I 0]) hs10 0 rfl rfl rfl rfl rfl rfl rfl ag43 trivial (fun w10 (hs11 : SH w w10 [] [.own A1 (((quadFrom (cutA s 58)).1).length) c1 3 1 (((quadFrom (cutA s 58)).1).map I), .blk b2 43 [I 1, .slice A1 (((quadFrom (cutA s 58)).1).length) c1, Str [], I ((decI (cutZ s 58)).1)], .blk b1 43 [I 0, ns, Str [], I 0]]) => ?_))))
       refine qt rfl (asg (v := .bool false) rfl) (nl (nN (rt (tR ?_))))
       refine fret (v := .tuple #[.agg #[I 0, ns, Str [], I 0], .bool false]) (resC hs11 2 rfl rfl ag43 rfl (.tmp .nil)) rfl ?_
       have hs12 : SH w w10 [] [.own A1 (((quadFrom (cutA s 58)).1).length) c1 3 1 (((quadFrom (cutA s 58)).1).map I), .blk b2 43 [I 1, .slice A1 (((quadFrom (cutA s 58)).1).length) c1, Str [], I ((decI (cutZ s 58)).1)], .blk b1 43 [I 0, ns, Str [], I 0], .own none (([] : List Int).length) 0 3 1 (([] : List Int).map I)] := SH.nils (by intro i hi; simp at hi; subst hi; exact nilItem) hs11
       have e8 : addrFrom s = ((0, ([] : List Int), [], 0), false) := by (rw [addr_impl]; simp [addrOf, aOk, h3, h4, h6])
       have e9 : 0 = (addrFrom s).1.1 := by rw [e8]
       have e10 : ([] : List Int) = (addrFrom s).1.2.1 := by rw [e8]
       have e11 : ([] : List Int).length = ((addrFrom s).1.2.1).length := by exact congrArg List.length e10
       have e12 : [] = (addrFrom s).1.2.2.1 := by rw [e8]
       have e13 : 0 = (addrFrom s).1.2.2.2 := by rw [e8]
       have e14 : false = (addrFrom s).2 := by rw [e8]
       exact ⟨none, 0, (tup2 (aggv (lc (congrArg (Value.int .i64) e9) (lc (slv rfl e11 rfl) (lc (congrArg (Str) e12) (lc (congrArg (Value.int .i64) e13) rfl))))) (congrArg (Value.bool) e14)), ((hs12.pick [3] rfl (by decide)).cast (lc (own_eq (g := I) rfl e11 rfl e10) rfl))⟩
     · have h7 : (addrOk 1 ((quadFrom (cutA s 58)).1) [] ((decI (cutZ s 58)).1)) = true := by simpa using h5
       refine sk (nN (sq (rg (qt rfl (ldg (vs := [I 1, .slice A1 (((quadFrom (cutA s 58)).1).length) c1, Str [], I ((decI (cutZ s 58)).1)]) hs10 2 rfl rfl rfl rfl ag43) (stg (vs := [I 1, .slice A1 (((quadFrom (cutA s 58)).1).length) c1, Str [], I ((decI (cutZ s 58)).1)]) hs10 0 rfl rfl rfl rfl rfl rfl rfl ag43 trivial (fun w11 (hs13 : SH w w11 [] [.own A1 (((quadFrom (cutA s 58)).1).length) c1 3 1 (((quadFrom (cutA s 58)).1).map I), .blk b2 43 [I 1, .slice A1 (((quadFrom (cutA s 58)).1).length) c1, Str [], I ((decI (cutZ s 58)).1)], .blk b1 43 [I 1, .slice A1 (((quadFrom (cutA s 58)).1).length) c1, Str [], I ((decI (cutZ s 58)).1)]]) => ?_))))))
       refine qt rfl (asg (v := .bool true) rfl) (nl (nN (rt (fret (v := .tuple #[.agg #[I 1, .slice A1 (((quadFrom (cutA s 58)).1).length) c1, Str [], I ((decI (cutZ s 58)).1)], .bool true]) (resC hs13 2 rfl rfl ag43 rfl (.tmp .nil)) rfl ?_))))
       have e15 : addrFrom s = ((1, (quadFrom (cutA s 58)).1, [], (decI (cutZ s 58)).1), true) := by (rw [addr_impl]; simp [addrOf, aOk, h3, h4, h7])
       have e16 : 1 = (addrFrom s).1.1 := by rw [e15]
       have e17 : (quadFrom (cutA s 58)).1 = (addrFrom s).1.2.1 := by rw [e15]
       have e18 : ((quadFrom (cutA s 58)).1).length = ((addrFrom s).1.2.1).length := by exact congrArg List.length e17
       have e19 : [] = (addrFrom s).1.2.2.1 := by rw [e15]
       have e20 : (decI (cutZ s 58)).1 = (addrFrom s).1.2.2.2 := by rw [e15]
       have e21 : true = (addrFrom s).2 := by rw [e15]
       exact ⟨A1, c1, (tup2 (aggv (lc (congrArg (Value.int .i64) e16) (lc (slv rfl e18 rfl) (lc (congrArg (Str) e19) (lc (congrArg (Value.int .i64) e20) rfl))))) (congrArg (Value.bool) e21)), ((hs13.pick [0] rfl (by decide)).cast (lc (own_eq (g := I) rfl e18 rfl e17) rfl))⟩
   · refine sk (nN (sq (sq (rg (qt rfl (ldg (vs := [I 3, ns, Str (cutA s 58), I ((decI (cutZ s 58)).1)]) hs8 1 rfl rfl rfl rfl ag43) (cl trivial rfl (iAddressValid (ak := 3) (Aaq := none) (caq := 0) (aq := ([] : List Int)) (an := cutA s 58) (apt := (decI (cutZ s 58)).1) (w := _) (haq := Sl.nil) (han_n := (by (have hcA := cutA_len s 58; have hcZ := cutZ_len s 58; first | omega | (simp; done) | (simp; omega))))) ?_))))))
     rintro _ w12 ⟨rfl, hs14'⟩
     have hs14 := hs8.call0 hs14'
     clear hs14'
     refine qt rfl (nt (b := addrOk 3 ([] : List Int) (cutA s 58) ((decI (cutZ s 58)).1)) rfl) (nl (nN ?_))
     refine cd (b := !(addrOk 3 ([] : List Int) (cutA s 58) ((decI (cutZ s 58)).1))) rfl (fun h8 => ?_) (fun h8 => ?_)
     · have h9 : (addrOk 3 ([] : List Int) (cutA s 58) ((decI (cutZ s 58)).1)) = false := by simpa using h8
       refine sq (rg (qt rfl (bdv (v := .agg #[I 0, ns, Str [], I 0]) [] rfl (fun _ => by kernel_rfl)) (stg (vs := [I 0, ns, Str [], I 0]) hs14 0 rfl rfl rfl rfl rfl rfl rfl ag43 trivial (fun w13 (hs15 : SH w w13 [] [.blk b2 43 [I 3, ns, Str (cutA s 58), I ((decI (cutZ s 58)).1)], .own A1 (((quadFrom (cutA s 58)).1).length) c1 3 1 (((quadFrom (cutA s 58)).1).map I), .blk b1 43 [I 0, ns, Str [], I 0]]) => ?_))))
       refine qt rfl (asg (v := .bool false) rfl) (nl (nN (rt (tR ?_))))
       refine fret (v := .tuple #[.agg #[I 0, ns, Str [], I 0], .bool false]) (resC hs15 2 rfl rfl ag43 rfl (.tmp .nil)) rfl ?_
       have hs16 : SH w w13 [] [.blk b2 43 [I 3, ns, Str (cutA s 58), I ((decI (cutZ s 58)).1)], .own A1 (((quadFrom (cutA s 58)).1).length) c1 3 1 (((quadFrom (cutA s 58)).1).map I), .blk b1 43 [I 0, ns, Str [], I 0], .own none (([] : List Int).length) 0 3 1 (([] : List Int).map I)] := SH.nils (by intro i hi; simp at hi; subst hi; exact nilItem) hs15
       have e22 : addrFrom s = ((0, ([] : List Int), [], 0), false) := by (rw [addr_impl]; simp [addrOf, aOk, h3, h4, h9])
       have e23 : 0 = (addrFrom s).1.1 := by rw [e22]
       have e24 : ([] : List Int) = (addrFrom s).1.2.1 := by rw [e22]
       have e25 : ([] : List Int).length = ((addrFrom s).1.2.1).length := by exact congrArg List.length e24
       have e26 : [] = (addrFrom s).1.2.2.1 := by rw [e22]
       have e27 : 0 = (addrFrom s).1.2.2.2 := by rw [e22]
       have e28 : false = (addrFrom s).2 := by rw [e22]
       exact ⟨none, 0, (tup2 (aggv (lc (congrArg (Value.int .i64) e23) (lc (slv rfl e25 rfl) (lc (congrArg (Str) e26) (lc (congrArg (Value.int .i64) e27) rfl))))) (congrArg (Value.bool) e28)), ((hs16.pick [3] rfl (by decide)).cast (lc (own_eq (g := I) rfl e25 rfl e24) rfl))⟩
     · have h10 : (addrOk 3 ([] : List Int) (cutA s 58) ((decI (cutZ s 58)).1)) = true := by simpa using h8
       refine sk (nN (sq (rg (qt rfl (ldg (vs := [I 3, ns, Str (cutA s 58), I ((decI (cutZ s 58)).1)]) hs14 1 rfl rfl rfl rfl ag43) (stg (vs := [I 3, ns, Str (cutA s 58), I ((decI (cutZ s 58)).1)]) hs14 0 rfl rfl rfl rfl rfl rfl rfl ag43 trivial (fun w14 (hs17 : SH w w14 [] [.blk b2 43 [I 3, ns, Str (cutA s 58), I ((decI (cutZ s 58)).1)], .own A1 (((quadFrom (cutA s 58)).1).length) c1 3 1 (((quadFrom (cutA s 58)).1).map I), .blk b1 43 [I 3, ns, Str (cutA s 58), I ((decI (cutZ s 58)).1)]]) => ?_))))))
       refine qt rfl (asg (v := .bool true) rfl) (nl (nN (rt (fret (v := .tuple #[.agg #[I 3, ns, Str (cutA s 58), I ((decI (cutZ s 58)).1)], .bool true]) (resC hs17 2 rfl rfl ag43 rfl (.tmp .nil)) rfl ?_))))
       have hs18 : SH w w14 [] [.blk b2 43 [I 3, ns, Str (cutA s 58), I ((decI (cutZ s 58)).1)], .own A1 (((quadFrom (cutA s 58)).1).length) c1 3 1 (((quadFrom (cutA s 58)).1).map I), .blk b1 43 [I 3, ns, Str (cutA s 58), I ((decI (cutZ s 58)).1)], .own none (([] : List Int).length) 0 3 1 (([] : List Int).map I)] := SH.nils (by intro i hi; simp at hi; subst hi; exact nilItem) hs17
       have e29 : addrFrom s = ((3, ([] : List Int), cutA s 58, (decI (cutZ s 58)).1), true) := by (rw [addr_impl]; simp [addrOf, aOk, h3, h4, h10])
       have e30 : 3 = (addrFrom s).1.1 := by rw [e29]
       have e31 : ([] : List Int) = (addrFrom s).1.2.1 := by rw [e29]
       have e32 : ([] : List Int).length = ((addrFrom s).1.2.1).length := by exact congrArg List.length e31
       have e33 : cutA s 58 = (addrFrom s).1.2.2.1 := by rw [e29]
       have e34 : (decI (cutZ s 58)).1 = (addrFrom s).1.2.2.2 := by rw [e29]
       have e35 : true = (addrFrom s).2 := by rw [e29]
       exact ⟨none, 0, (tup2 (aggv (lc (congrArg (Value.int .i64) e30) (lc (slv rfl e32 rfl) (lc (congrArg (Str) e33) (lc (congrArg (Value.int .i64) e34) rfl))))) (congrArg (Value.bool) e35)), ((hs18.pick [3] rfl (by decide)).cast (lc (own_eq (g := I) rfl e32 rfl e31) rfl))⟩
theorem sL2Number (s : List UInt8) (w : World) (hs_n : s.length ≤ 1099511627776) : Does Tryz.prog 143 [Str s] w (fun v w' => v = .int .i64 (numD s) ∧ SH w w' [] []) := by
 refine fn_enter (N := 34) Tryz.func143 rfl (by kernel_rfl) rfl rfl rfl ?_
 have hs0 : SH w w [] [] := SH.refl w []
 refine sq (rg (qt rfl (asg (v := I 0) rfl) (nl (nN (sq (sq (rg ?_)))))))
 refine qt rfl (mv (v := Str s) rfl) (qt rfl (lnS (l := s) st9 rfl) (cl trivial rfl (sIn (x := ((s.length : Nat) : Int)) (lo := 1) (hi := 5) (w := _)) ?_))
 rintro _ w1 ⟨rfl, hs1'⟩
 have hs1 := hs0.call0 hs1'
 clear hs1'
 refine qt rfl (nd (p := 1 ≤ ((s.length : Nat) : Int) ∧ ((s.length : Nat) : Int) ≤ 5) rfl) (nl (nN ?_))
 refine cdd (p := ¬ (1 ≤ ((s.length : Nat) : Int) ∧ ((s.length : Nat) : Int) ≤ 5)) rfl (fun h1 => ?_) (fun h1 => ?_)
 · refine sq (rg (qt rfl (asg (v := I (-1)) rfl) (nl (nN (rt (tR ?_))))))
   refine fret (v := I (-1)) (.tmp .nil) rfl ?_
   have e1 : (-1) = numD s := by exact Eq.symm (numD_no1 (by omega))
   exact ⟨(congrArg (Value.int .i64) e1), hs1⟩
 · refine sk (nN (sq (rg (qt rfl (asg (v := I 0) rfl) (nl (nN (sq ?_)))))))
   refine sq (rg (qt rfl (asg (v := I 0) rfl) (nl (nN (bl (lp (σ := Nat) (fun (k : Nat) f w' => Has f [(0, Str s), (3, I (numF (s.take k))), (4, I ((k : Nat) : Int))] ∧ (k ≤ s.length) ∧ ((s.take k).all digB = true) ∧ SH w w' [] []) (fun k => s.length - k) 0 ⟨⟨rfl, (show (I 0 : Value) = I (numF (s.take 0)) from congrArg (Value.int .i64) (by rfl)), rfl, trivial⟩, (by simp), (by simp), hs1⟩ ?_))))))
   rintro k f w2 ⟨hf, hk, ha, hs2⟩
   obtain ⟨g1, rfl⟩ := has_upd hf
   clear hf
   refine sq (sq (rg (qt rfl (mv (v := I ((k : Nat) : Int)) rfl) (qt rfl (mv (v := Str s) rfl) (qt rfl (lnS (l := s) st9 rfl) (qt rfl (lss (k := .i64) (a := ((k : Nat) : Int)) (b := ((s.length : Nat) : Int)) rfl rfl) (nl ?_)))))))
   refine nN ?_
   refine cdd (p := ((k : Nat) : Int) < ((s.length : Nat) : Int)) rfl (fun h2 => ?_) (fun h2 => ?_)
   · refine sk (nN (sq (bl (sq (sq (rg (qt rfl (mv (v := Str s) rfl) ?_)))))))
     refine qt rfl (mv (v := I ((k : Nat) : Int)) rfl) (qt rfl (ixs (l := s) k st9 rfl rfl (by (first | omega | (simp; done) | (simp; omega)))) (qt rfl (lss (k := .u8) (a := (((s.getD k 0).toNat : Nat) : Int)) (b := 48) rfl rfl) (qt rfl (mv (v := .bool (decide ((((s.getD k 0).toNat : Nat) : Int) < 48))) rfl) ?_)))
     refine spd (p := (((s.getD k 0).toNat : Nat) : Int) < 48) 19 rfl (fun h3 => ?_) (fun h3 => ?_)
     · refine gk true rfl rfl rfl rfl rfl (gk true rfl rfl rfl rfl rfl (gk true rfl rfl rfl rfl rfl (gk true rfl rfl rfl rfl rfl (qt rfl (pt (v := .bool true) rfl rfl) (nl (nN (cdt rfl ?_)))))))
       refine sq (rg (qt rfl (asg (v := I (-1)) rfl) (nl (nN ?_))))
       refine rt (tR (bR (tR (tR (bR (tR ?_))))))
       refine fret (v := I (-1)) (.tmp .nil) rfl ?_
       have e2 : (-1) = numD s := by exact Eq.symm (numD_no2 (k := k) (by omega) (by omega))
       exact ⟨(congrArg (Value.int .i64) e2), hs2⟩
     · refine q ⟨_, rfl, rfl⟩ rfl rfl (mv (v := Str s) rfl) (q ⟨_, rfl, rfl⟩ rfl rfl (mv (v := I ((k : Nat) : Int)) rfl) (q ⟨_, rfl, rfl⟩ rfl rfl (ixs (l := s) k st9 rfl rfl (by (first | omega | (simp; done) | (simp; omega)))) (q ⟨_, rfl, rfl⟩ rfl rfl (gtr (k := .u8) (a := (((s.getD k 0).toNat : Nat) : Int)) (b := 57) rfl rfl) (qt rfl (pf (v := .bool (decide ((57 : Int) < (((s.getD k 0).toNat : Nat) : Int)))) rfl rfl) (nl (nN ?_))))))
       refine cdd (p := (57 : Int) < (((s.getD k 0).toNat : Nat) : Int)) rfl (fun h4 => ?_) (fun h4 => ?_)
       · refine sq (rg (qt rfl (asg (v := I (-1)) rfl) (nl (nN ?_))))
         refine rt (tR (bR (tR (tR (bR (tR ?_))))))
         refine fret (v := I (-1)) (.tmp .nil) rfl ?_
         have e3 : (-1) = numD s := by exact Eq.symm (numD_no2 (k := k) (by omega) (by omega))
         exact ⟨(congrArg (Value.int .i64) e3), hs2⟩
       · refine sk (nN (rg (qt rfl (mv (v := I (numF (s.take k))) rfl) (qt rfl (mul (a := 10) (b := numF (s.take k)) rfl rfl (by (have hnb := numF_bd2 (k := k) ha (by omega); have hub := u8_bd (s.getD k 0); exact ⟨by omega, by omega⟩))) (qt rfl (mv (v := Str s) rfl) (qt rfl (mv (v := I ((k : Nat) : Int)) rfl) (qt rfl (ixs (l := s) k st9 rfl rfl (by (first | omega | (simp; done) | (simp; omega)))) ?_)))))))
         refine qt rfl (subU (a := (((s.getD k 0).toNat : Nat) : Int)) (b := 48) rfl rfl (by omega) (by omega)) (qt rfl (cvI (a := (((s.getD k 0).toNat : Nat) : Int) - 48) (s := .u8) ti5 ti3 rfl (by (exact ⟨by omega, by omega⟩))) (qt rfl (add (a := 10 * (numF (s.take k))) (b := (((s.getD k 0).toNat : Nat) : Int) - 48) rfl rfl (by (have hnb := numF_bd2 (k := k) ha (by omega); have hub := u8_bd (s.getD k 0); exact ⟨by omega, by omega⟩))) (qt rfl (asg (v := I ((10 * (numF (s.take k))) + ((((s.getD k 0).toNat : Nat) : Int) - 48))) rfl) (nl (bN (nN (rg ?_)))))))
         refine qt rfl (mv (v := I ((k : Nat) : Int)) rfl) (qt rfl (add (a := ((k : Nat) : Int)) (b := 1) rfl rfl (by (exact ⟨by omega, by omega⟩))) (qt rfl (asg (v := I (((k : Nat) : Int) + 1)) rfl) (nl (nN ?_))))
         refine ⟨(k + 1), ⟨⟨rfl, (show (I ((10 * (numF (s.take k))) + ((((s.getD k 0).toNat : Nat) : Int) - 48)) : Value) = I (numF (s.take (k + 1))) from congrArg (Value.int .i64) (by rw [numF_take (by omega)])), rfl, trivial⟩, (by omega), (all_step (d := 0) (by omega) ha (by simp only [digB, decide_eq_true_eq]; omega)), hs2⟩, ?_⟩
         omega
   · refine ex (tE (tE (bE ?_)))
     refine nN (sq (rg (qt rfl (mv (v := I (numF (s.take k))) rfl) (qt rfl (asg (v := I (numF (s.take k))) rfl) (nl (nN (rt ?_)))))))
     refine fret (v := I (numF (s.take k))) (.tmp .nil) rfl ?_
     have e4 : numF (s.take k) = numD s := by exact numD_yes (by omega) (by omega) ha
     exact ⟨(congrArg (Value.int .i64) e4), hs2⟩
theorem sQuadText {Aqs : Option Addr} {cqs : Nat} (qs : List Int) (w : World) (hqs : Sl w [] 1 Aqs qs.length cqs (qs.map I)) : Does Tryz.prog 185 [.slice Aqs qs.length cqs] w (fun v w' => v = Str (quadQ qs) ∧ SH w w' [] []) := by
 refine fn_enter (N := 8) Tryz.func185 rfl (by kernel_rfl) rfl rfl rfl ?_
 have hs0 : SH w w [] [] := SH.refl w []
 have hqs_m : qs.length ≤ 9223372036854775807 := Nat.le_trans hqs.cap hqs.capMax
 refine sq (rg (qt rfl (asg (v := Str []) rfl) (nl (nN (sq (sq (rg ?_)))))))
 refine qt rfl (mv (v := .slice Aqs qs.length cqs) rfl) (cl trivial rfl (sQuadValid (Aqs := Aqs) (cqs := cqs) (qs := qs) (w := _) (hqs := (hqs.up0 hs0))) ?_)
 rintro _ w1 ⟨rfl, hs1'⟩
 have hs1 := hs0.call0 hs1'
 clear hs1'
 refine qt rfl (nt (b := quadOk qs) rfl) (nl (nN ?_))
 refine cd (b := !(quadOk qs)) rfl (fun h1 => ?_) (fun h1 => ?_)
 · have h2 : (quadOk qs) = false := by simpa using h1
   refine sq (rg (qt rfl (asg (v := Str []) rfl) (nl (nN (rt (tR ?_))))))
   refine fret (v := Str []) (.tmp .nil) rfl ?_
   have e1 : [] = quadQ qs := by simp [quadQ, h2]
   exact ⟨(congrArg (Str) e1), hs1⟩
 · have h3 : (quadOk qs) = true := by simpa using h1
   refine sk (nN (sq (rg (qt rfl (mv (v := .slice Aqs qs.length cqs) rfl) (cl trivial rfl (sL2Quad (Aqs := Aqs) (cqs := cqs) (qs := qs) (w := _) (hqs := (hqs.up0 hs1)) (hq := (by omega))) ?_)))))
   rintro _ w2 ⟨rfl, hs2'⟩
   have hs2 := hs1.call0 hs2'
   clear hs2'
   refine qt rfl (asg (v := Str (quadT qs)) rfl) (nl (nN (rt (fret (v := Str (quadT qs)) (.tmp .nil) rfl ?_))))
   have e2 : quadT qs = quadQ qs := by simp [quadQ, h3]
   exact ⟨(congrArg (Str) e2), hs2⟩
theorem sQuadFrom (s : List UInt8) (w : World) (hs_n : s.length ≤ 1099511627776) : Does Tryz.prog 169 [Str s] w (fun v w' => ∃ Ar : Option Addr, ∃ cr : Nat, v = .tuple #[.slice Ar ((quadFrom s).1).length cr, .bool ((quadFrom s).2)] ∧ SH w w' [] [.own Ar (((quadFrom s).1).length) cr 3 1 (((quadFrom s).1).map I)]) := by
 refine fn_enter (N := 34) Tryz.func169 rfl (by kernel_rfl) rfl rfl rfl ?_
 have hs0 : SH w w [] [] := SH.refl w []
 refine sq (rg (qt rfl (asg (v := ns) rfl) (qt rfl (asg (v := .bool false) rfl) (nl (nN (sq (rg ?_)))))))
 refine qt rfl (mv (v := Str s) rfl) (cl trivial rfl (l2Cut (l := s) (c := (46 : UInt8)) (w := _) (hl_n := (by (first | omega | (simp; done) | (simp; omega))))) ?_)
 rintro _ w1 ⟨A1, c1, rfl, hs1'⟩
 have hs1 := hs0.call0 hs1'
 clear hs1'
 refine qt rfl (asg (v := .slice A1 ((splitB (46 : UInt8) s).length) c1) rfl) (nl (nN (sq (rg (bsk hs1 sl22 [] [] trivial rfl (fun b1 w2 (hs2 : SH w w2 [] [.own A1 ((splitB (46 : UInt8) s).length) c1 9 1 ((splitB (46 : UInt8) s).map Str), oI b1 ([] : List Int) 0 3]) => ?_))))))
 refine qt rfl (asg (v := sb b1 (([] : List Int).length) 0) rfl) (nl (nN (sq (sq (rg (qt rfl (asg (v := I 0) rfl) (nl ?_)))))))
 refine nN (bl ?_)
 have e1 : ([] : List Int) = (quadD s).take 0 := by simp
 have e2 : ([] : List Int).length = ((quadD s).take 0).length := by rw [e1]
 refine lp (σ := (Option Addr) × Nat × Nat) (fun ⟨Ag5, cg5, k⟩ f w' => Has f [(0, Str s), (4, .slice A1 ((splitB (46 : UInt8) s).length) c1), (5, .slice Ag5 (((quadD s).take k).length) cg5), (6, I ((k : Nat) : Int))] ∧ (k ≤ (splitB 46 s).length) ∧ SH w w' [] [.own A1 ((splitB (46 : UInt8) s).length) c1 9 1 ((splitB (46 : UInt8) s).map Str), .own Ag5 (((quadD s).take k).length) cg5 3 1 (((quadD s).take k).map I)]) (fun ⟨Ag5, cg5, k⟩ => (splitB 46 s).length - k) ((some ⟨b1, 0, none⟩), 0, 0) ⟨⟨rfl, rfl, (show (.slice (some ⟨b1, 0, none⟩) (([] : List Int).length) 0 : Value) = .slice (some ⟨b1, 0, none⟩) (((quadD s).take 0).length) 0 from slv rfl e2 rfl), rfl, trivial⟩, (by simp), (hs2.cast (lc rfl (lc (own_eq (g := I) rfl e2 rfl e1) rfl)))⟩ ?_
 rintro ⟨Ag5, cg5, k⟩ f w3 ⟨hf, hk, hs3⟩
 obtain ⟨g1, rfl⟩ := has_upd hf
 clear hf
 refine sq (sq (rg (qt rfl (mv (v := I ((k : Nat) : Int)) rfl) (qt rfl (mv (v := .slice A1 ((splitB (46 : UInt8) s).length) c1) rfl) (qt rfl (lnA (n := (splitB (46 : UInt8) s).length) sl147 rfl) (qt rfl (lss (k := .i64) (a := ((k : Nat) : Int)) (b := (((splitB (46 : UInt8) s).length : Nat) : Int)) rfl rfl) (nl ?_)))))))
 refine nN ?_
 refine cdd (p := ((k : Nat) : Int) < (((splitB (46 : UInt8) s).length : Nat) : Int)) rfl (fun h1 => ?_) (fun h1 => ?_)
 · refine sk (nN (sq (bl (rg (qt rfl (mv (v := .slice Ag5 (((quadD s).take k).length) cg5) rfl) (qt rfl (mv (v := .slice A1 ((splitB (46 : UInt8) s).length) c1) rfl) (qt rfl (mv (v := I ((k : Nat) : Int)) rfl) ?_)))))))
   refine ixw1 k sl147 rfl rfl (hs3.sl0 0 rfl) (by (first | omega | (simp; done) | (simp; omega))) (getm Str [] (by (first | omega | (simp; done) | (simp; omega)))) trivial rfl (fun a1 ha1 => ?_)
   refine qt rfl (lda (v := Str ((splitB (46 : UInt8) s).getD k [])) (SH.refl w3 []) ha1 (fun _ h => h) rfl rfl one9) (cl trivial rfl (sL2Number (s := (splitB (46 : UInt8) s).getD k []) (w := _) (hs_n := (by (have hsl := splitB_len 46 s; have hsb := splitB_getD 46 s k; have hcl := List.count_le_length (a := (46 : UInt8)) (l := s); first | omega | (simp; done) | (simp; omega))))) ?_)
   rintro _ w4 ⟨rfl, hs4'⟩
   have hs4 := hs3.call0 hs4'
   clear hs4'
   refine bsk hs4 sl22 [I (numD ((splitB (46 : UInt8) s).getD k []))] [I (numD ((splitB (46 : UInt8) s).getD k []))] trivial rfl (fun b2 w5 (hs5 : SH w w5 [] [.own A1 ((splitB (46 : UInt8) s).length) c1 9 1 ((splitB (46 : UInt8) s).map Str), .own Ag5 (((quadD s).take k).length) cg5 3 1 (((quadD s).take k).map I), oI b2 ([numD ((splitB (46 : UInt8) s).getD k [])] : List Int) 1 3]) => ?_)
   refine apm (g := I) (ys := (quadD s).take k) (zs := ([numD ((splitB (46 : UInt8) s).getD k [])] : List Int)) hs5 1 rfl sl22 rfl rfl rfl (hs5.sl0 2 rfl) (fun _ => rfl) (by unfold maxLen; (have hsl := splitB_len 46 s; have hsb := splitB_getD 46 s k; have hcl := List.count_le_length (a := (46 : UInt8)) (l := s); first | omega | (simp; done) | (simp; omega))) (by (have hsl := splitB_len 46 s; have hsb := splitB_getD 46 s k; have hcl := List.count_le_length (a := (46 : UInt8)) (l := s); first | omega | (simp; done) | (simp; omega))) trivial rfl (fun A2 c2 w6 (hs6 : SH w w6 [] [.own A1 ((splitB (46 : UInt8) s).length) c1 9 1 ((splitB (46 : UInt8) s).map Str), oI b2 ([numD ((splitB (46 : UInt8) s).getD k [])] : List Int) 1 3, .own A2 ((((quadD s).take k) ++ ([numD ((splitB (46 : UInt8) s).getD k [])] : List Int)).length) c2 3 1 ((((quadD s).take k) ++ ([numD ((splitB (46 : UInt8) s).getD k [])] : List Int)).map I)]) => ?_)
   refine qt rfl (asg (v := .slice A2 ((((quadD s).take k) ++ ([numD ((splitB (46 : UInt8) s).getD k [])] : List Int)).length) c2) rfl) (nl (bN (nN (rg (qt rfl (mv (v := I ((k : Nat) : Int)) rfl) (qt rfl (add (a := ((k : Nat) : Int)) (b := 1) rfl rfl (by (have hsl := splitB_len 46 s; have hsb := splitB_getD 46 s k; have hcl := List.count_le_length (a := (46 : UInt8)) (l := s); exact ⟨by omega, by omega⟩))) (qt rfl (asg (v := I (((k : Nat) : Int) + 1)) rfl) ?_)))))))
   refine nl (nN ?_)
   have e3 : ((quadD s).take k) ++ ([numD ((splitB (46 : UInt8) s).getD k [])] : List Int) = (quadD s).take (k + 1) := by exact quadD_app (by omega)
   have e4 : (((quadD s).take k) ++ ([numD ((splitB (46 : UInt8) s).getD k [])] : List Int)).length = ((quadD s).take (k + 1)).length := by rw [e3]
   refine ⟨(A2, c2, k + 1), ⟨⟨rfl, rfl, (show (.slice A2 ((((quadD s).take k) ++ ([numD ((splitB (46 : UInt8) s).getD k [])] : List Int)).length) c2 : Value) = .slice A2 (((quadD s).take (k + 1)).length) c2 from slv rfl e4 rfl), rfl, trivial⟩, (by omega), ((hs6.pick [0, 2] rfl (by decide)).cast (lc rfl (lc (own_eq (g := I) rfl e4 rfl e3) rfl)))⟩, ?_⟩
   show (splitB 46 s).length - (k + 1) < (splitB 46 s).length - k
   omega
 · refine ex (tE (tE (bE ?_)))
   refine nN (sq (sq (rg (qt rfl (mv (v := .slice Ag5 (((quadD s).take k).length) cg5) rfl) (cl trivial rfl (sQuadText (Aqs := Ag5) (cqs := cg5) (qs := (quadD s).take k) (w := _) (hqs := (hs3.sl0 1 rfl))) ?_)))))
   rintro _ w7 ⟨rfl, hs7'⟩
   have hs7 := hs3.call0 hs7'
   clear hs7'
   refine qt rfl (mv (v := Str s) rfl) (qt rfl (nes (l := quadQ ((quadD s).take k)) (m := s) rfl rfl) (qt rfl (mv (v := .bool (decide (quadQ ((quadD s).take k) ≠ s))) rfl) ?_))
   refine spd (p := quadQ ((quadD s).take k) ≠ s) 28 rfl (fun h2 => ?_) (fun h2 => ?_)
   · refine gk true rfl rfl rfl rfl rfl (gk true rfl rfl rfl rfl rfl (qt rfl (pt (v := .bool true) rfl rfl) (nl (nN (cdt rfl (sq (rg ?_)))))))
     refine bsk hs7 sl22 [] [] trivial rfl (fun b3 w8 (hs8 : SH w w8 [] [.own A1 ((splitB (46 : UInt8) s).length) c1 9 1 ((splitB (46 : UInt8) s).map Str), .own Ag5 (((quadD s).take k).length) cg5 3 1 (((quadD s).take k).map I), oI b3 ([] : List Int) 0 3]) => ?_)
     refine qt rfl (asg (v := sb b3 (([] : List Int).length) 0) rfl) (qt rfl (asg (v := .bool false) rfl) (nl (nN (rt (tR ?_)))))
     refine fret (v := .tuple #[sb b3 (([] : List Int).length) 0, .bool false]) (.tmp (.tmp .nil)) rfl ?_
     have e5 : quadFrom s = (([] : List Int), false) := by ((try rw [quadD_all (k := k) (by omega)] at *); exact quad_s2 (fun hq => absurd hq.1 (by assumption)))
     have e6 : ([] : List Int) = (quadFrom s).1 := by rw [e5]
     have e7 : ([] : List Int).length = ((quadFrom s).1).length := by exact congrArg List.length e6
     have e8 : false = (quadFrom s).2 := by rw [e5]
     exact ⟨(some ⟨b3, 0, none⟩), 0, (tup2 (slv rfl e7 rfl) (congrArg (Value.bool) e8)), ((hs8.pick [2] rfl (by decide)).cast (lc (own_eq (g := I) rfl e7 rfl e6) rfl))⟩
   · refine q ⟨_, rfl, rfl⟩ rfl rfl (mv (v := Str s) rfl) (q ⟨_, rfl, rfl⟩ rfl rfl (eqs (l := s) (m := []) rfl rfl) (qt rfl (pf (v := .bool (decide (s = []))) rfl rfl) (nl (nN ?_))))
     refine cdd (p := s = []) rfl (fun h3 => ?_) (fun h3 => ?_)
     · refine sq (rg (bsk hs7 sl22 [] [] trivial rfl (fun b4 w9 (hs9 : SH w w9 [] [.own A1 ((splitB (46 : UInt8) s).length) c1 9 1 ((splitB (46 : UInt8) s).map Str), .own Ag5 (((quadD s).take k).length) cg5 3 1 (((quadD s).take k).map I), oI b4 ([] : List Int) 0 3]) => ?_)))
       refine qt rfl (asg (v := sb b4 (([] : List Int).length) 0) rfl) (qt rfl (asg (v := .bool false) rfl) (nl (nN (rt (tR ?_)))))
       refine fret (v := .tuple #[sb b4 (([] : List Int).length) 0, .bool false]) (.tmp (.tmp .nil)) rfl ?_
       have e9 : quadFrom s = (([] : List Int), false) := by ((try rw [quadD_all (k := k) (by omega)] at *); exact quad_s2 (fun hq => absurd (by assumption) hq.2))
       have e10 : ([] : List Int) = (quadFrom s).1 := by rw [e9]
       have e11 : ([] : List Int).length = ((quadFrom s).1).length := by exact congrArg List.length e10
       have e12 : false = (quadFrom s).2 := by rw [e9]
       exact ⟨(some ⟨b4, 0, none⟩), 0, (tup2 (slv rfl e11 rfl) (congrArg (Value.bool) e12)), ((hs9.pick [2] rfl (by decide)).cast (lc (own_eq (g := I) rfl e11 rfl e10) rfl))⟩
     · refine sk (nN (sq (rg (qt rfl (mv (v := .slice Ag5 (((quadD s).take k).length) cg5) rfl) (qt rfl (asg (v := .slice Ag5 (((quadD s).take k).length) cg5) rfl) (qt rfl (asg (v := .bool true) rfl) (nl ?_)))))))
       refine nN (rt (fret (v := .tuple #[.slice Ag5 (((quadD s).take k).length) cg5, .bool true]) (.tmp (.tmp .nil)) rfl ?_))
       have e13 : quadFrom s = ((quadD s).take k, true) := by ((try rw [quadD_all (k := k) (by omega)] at *); exact quad_s1 (by assumption) (by assumption))
       have e14 : (quadD s).take k = (quadFrom s).1 := by rw [e13]
       have e15 : ((quadD s).take k).length = ((quadFrom s).1).length := by exact congrArg List.length e14
       have e16 : true = (quadFrom s).2 := by rw [e13]
       exact ⟨Ag5, cg5, (tup2 (slv rfl e15 rfl) (congrArg (Value.bool) e16)), ((hs7.pick [1] rfl (by decide)).cast (lc (own_eq (g := I) rfl e15 rfl e14) rfl))⟩
theorem sL3Of (s : List UInt8) (n : Int) (w : World) (hs_n : s.length ≤ 1099511627776) : Does Tryz.prog 142 [Str s, I n] w (fun v w' => ∃ Aqr : Option Addr, ∃ cqr : Nat, v = .agg #[.int .i64 ((addrOf s n).1), .slice Aqr ((addrOf s n).2.1).length cqr, Str ((addrOf s n).2.2.1), .int .i64 ((addrOf s n).2.2.2)] ∧ SH w w' [] [.own Aqr (((addrOf s n).2.1).length) cqr 3 1 (((addrOf s n).2.1).map I)]) := by
 refine fn_enter (N := 20) Tryz.func142 rfl (by kernel_rfl) rfl rfl rfl ?_
 have hs0 : SH w w [] [] := SH.refl w []
 refine sq (rg (al (v := .agg #[I 0, ns, Str [], I 0]) (cs := [I 0, ns, Str [], I 0]) hs0 tz43 rfl trivial rfl (fun b1 w1 (hs1 : SH w w1 [] [.blk b1 43 [I 0, ns, Str [], I 0]]) => ?_)))
 refine nl (nN (sq (rg (qt rfl (mv (v := Str s) rfl) (cl trivial rfl (sQuadFrom (s := s) (w := _) (hs_n := (by omega))) ?_)))))
 rintro _ w2 ⟨A1, c1, rfl, hs2'⟩
 have hs2 := hs1.call0 hs2'
 clear hs2'
 refine qt rfl (mv (v := .tuple #[.slice A1 (((quadFrom s).1).length) c1, .bool ((quadFrom s).2)]) rfl) (qt rfl (xt 0 (v := .slice A1 (((quadFrom s).1).length) c1) rfl rfl) (qt rfl (xt 1 (v := .bool ((quadFrom s).2)) rfl rfl) (qt rfl (asg (v := .slice A1 (((quadFrom s).1).length) c1) rfl) (qt rfl (asg (v := .bool ((quadFrom s).2)) rfl) (nl (nN (sq ?_)))))))
 refine sq (rg (qt rfl (mv (v := .bool ((quadFrom s).2)) rfl) (nl (nN ?_))))
 refine cd (b := (quadFrom s).2) rfl (fun h1 => ?_) (fun h1 => ?_)
 · refine sq (rg (qt rfl (mv (v := .slice A1 (((quadFrom s).1).length) c1) rfl) (qt rfl (mv (v := I n) rfl) (qt rfl (bdv (v := .agg #[I 1, .slice A1 (((quadFrom s).1).length) c1, Str [], I n]) [(0, I 1), (1, .slice A1 (((quadFrom s).1).length) c1), (3, I n)] rfl (fun _ => by kernel_rfl)) (stg (vs := [I 1, .slice A1 (((quadFrom s).1).length) c1, Str [], I n]) hs2 0 rfl rfl rfl rfl rfl rfl rfl ag43 trivial (fun w3 (hs3 : SH w w3 [] [.own A1 (((quadFrom s).1).length) c1 3 1 (((quadFrom s).1).map I), .blk b1 43 [I 1, .slice A1 (((quadFrom s).1).length) c1, Str [], I n]]) => ?_))))))
   refine nl (nN (rt (tR ?_)))
   refine fret (v := .agg #[I 1, .slice A1 (((quadFrom s).1).length) c1, Str [], I n]) (resC hs3 1 rfl rfl ag43 rfl .nil) rfl ?_
   have e1 : 1 = (addrOf s n).1 := by simp [addrOf, h1]
   have e2 : (quadFrom s).1 = (addrOf s n).2.1 := by simp [addrOf, h1]
   have e3 : ((quadFrom s).1).length = ((addrOf s n).2.1).length := by exact congrArg List.length e2
   have e4 : [] = (addrOf s n).2.2.1 := by simp [addrOf, h1]
   have e5 : n = (addrOf s n).2.2.2 := by simp [addrOf, h1]
   exact ⟨A1, c1, (aggv (lc (congrArg (Value.int .i64) e1) (lc (slv rfl e3 rfl) (lc (congrArg (Str) e4) (lc (congrArg (Value.int .i64) e5) rfl))))), ((hs3.pick [0] rfl (by decide)).cast (lc (own_eq (g := I) rfl e3 rfl e2) rfl))⟩
 · refine sk (nN (sq (rg (bsk hs2 sl22 [] [] trivial rfl (fun b2 w4 (hs4 : SH w w4 [] [.blk b1 43 [I 0, ns, Str [], I 0], .own A1 (((quadFrom s).1).length) c1 3 1 (((quadFrom s).1).map I), oI b2 ([] : List Int) 0 3]) => ?_)))))
   refine qt rfl (mv (v := Str s) rfl) (qt rfl (mv (v := I n) rfl) (qt rfl (bdv (v := .agg #[I 3, sb b2 (([] : List Int).length) 0, Str s, I n]) [(0, I 3), (1, sb b2 (([] : List Int).length) 0), (2, Str s), (3, I n)] rfl (fun _ => by kernel_rfl)) (stg (vs := [I 3, sb b2 (([] : List Int).length) 0, Str s, I n]) hs4 0 rfl rfl rfl rfl rfl rfl rfl ag43 trivial (fun w5 (hs5 : SH w w5 [] [.own A1 (((quadFrom s).1).length) c1 3 1 (((quadFrom s).1).map I), oI b2 ([] : List Int) 0 3, .blk b1 43 [I 3, sb b2 (([] : List Int).length) 0, Str s, I n]]) => ?_))))
   refine nl (nN (rt (fret (v := .agg #[I 3, sb b2 (([] : List Int).length) 0, Str s, I n]) (resC hs5 2 rfl rfl ag43 rfl .nil) rfl ?_)))
   have e6 : 3 = (addrOf s n).1 := by simp [addrOf, h1]
   have e7 : ([] : List Int) = (addrOf s n).2.1 := by simp [addrOf, h1]
   have e8 : ([] : List Int).length = ((addrOf s n).2.1).length := by exact congrArg List.length e7
   have e9 : s = (addrOf s n).2.2.1 := by simp [addrOf, h1]
   have e10 : n = (addrOf s n).2.2.2 := by simp [addrOf, h1]
   exact ⟨(some ⟨b2, 0, none⟩), 0, (aggv (lc (congrArg (Value.int .i64) e6) (lc (slv rfl e8 rfl) (lc (congrArg (Str) e9) (lc (congrArg (Value.int .i64) e10) rfl))))), ((hs5.pick [1] rfl (by decide)).cast (lc (own_eq (g := I) rfl e8 rfl e7) rfl))⟩
set_option maxHeartbeats 8000000 in
theorem sAddressFrom (s : List UInt8) (w : World) (hs_n : s.length ≤ 1099511627776) : Does Tryz.prog 90 [Str s] w (fun v w' => ∃ Aqr : Option Addr, ∃ cqr : Nat, v = .tuple #[.agg #[.int .i64 ((addrFrom s).1.1), .slice Aqr ((addrFrom s).1.2.1).length cqr, Str ((addrFrom s).1.2.2.1), .int .i64 ((addrFrom s).1.2.2.2)], .bool ((addrFrom s).2)] ∧ SH w w' [] [.own Aqr (((addrFrom s).1.2.1).length) cqr 3 1 (((addrFrom s).1.2.1).map I)]) := by
 refine fn_enter (N := 31) Tryz.func90 rfl (by kernel_rfl) rfl rfl rfl ?_
 have hs0 : SH w w [] [] := SH.refl w []
 refine sq (rg (al (v := .agg #[I 0, ns, Str [], I 0]) (cs := [I 0, ns, Str [], I 0]) hs0 tz43 rfl trivial rfl (fun b1 w1 (hs1 : SH w w1 [] [.blk b1 43 [I 0, ns, Str [], I 0]]) => ?_)))
 refine qt rfl (asg (v := .bool false) rfl) (nl (nN (sq (rg (qt rfl (mv (v := Str s) rfl) (cl trivial rfl (l2Cut (l := s) (c := (58 : UInt8)) (w := _) (hl_n := (by (first | omega | (simp; done) | (simp; omega))))) ?_))))))
 rintro _ w2 ⟨A1, c1, rfl, hs2'⟩
 have hs2 := hs1.call0 hs2'
 clear hs2'
 refine qt rfl (asg (v := .slice A1 ((splitB (58 : UInt8) s).length) c1) rfl) (nl (nN (sq (sq (rg (qt rfl (mv (v := .slice A1 ((splitB (58 : UInt8) s).length) c1) rfl) (qt rfl (lnA (n := (splitB (58 : UInt8) s).length) sl147 rfl) ?_)))))))
 refine qt rfl (nei (k := .i64) (a := (((splitB (58 : UInt8) s).length : Nat) : Int)) (b := 2) rfl rfl) (nl (nN ?_))
 refine cdd (p := (((splitB (58 : UInt8) s).length : Nat) : Int) ≠ 2) rfl (fun h1 => ?_) (fun h1 => ?_)
 · refine sq (rg (qt rfl (bdv (v := .agg #[I 0, ns, Str [], I 0]) [] rfl (fun _ => by kernel_rfl)) (stg (vs := [I 0, ns, Str [], I 0]) hs2 0 rfl rfl rfl rfl rfl rfl rfl ag43 trivial (fun w3 (hs3 : SH w w3 [] [.own A1 ((splitB (58 : UInt8) s).length) c1 9 1 ((splitB (58 : UInt8) s).map Str), .blk b1 43 [I 0, ns, Str [], I 0]]) => ?_))))
   refine qt rfl (asg (v := .bool false) rfl) (nl (nN (rt (tR ?_))))
   refine fret (v := .tuple #[.agg #[I 0, ns, Str [], I 0], .bool false]) (resC hs3 1 rfl rfl ag43 rfl (.tmp .nil)) rfl ?_
   have hs4 : SH w w3 [] [.own A1 ((splitB (58 : UInt8) s).length) c1 9 1 ((splitB (58 : UInt8) s).map Str), .blk b1 43 [I 0, ns, Str [], I 0], .own none (([] : List Int).length) 0 3 1 (([] : List Int).map I)] := SH.nils (by intro i hi; simp at hi; subst hi; exact nilItem) hs3
   have e1 : addrFrom s = ((0, ([] : List Int), [], 0), false) := by exact addr_s0 (by assumption)
   have e2 : 0 = (addrFrom s).1.1 := by rw [e1]
   have e3 : ([] : List Int) = (addrFrom s).1.2.1 := by rw [e1]
   have e4 : ([] : List Int).length = ((addrFrom s).1.2.1).length := by exact congrArg List.length e3
   have e5 : [] = (addrFrom s).1.2.2.1 := by rw [e1]
   have e6 : 0 = (addrFrom s).1.2.2.2 := by rw [e1]
   have e7 : false = (addrFrom s).2 := by rw [e1]
   exact ⟨none, 0, (tup2 (aggv (lc (congrArg (Value.int .i64) e2) (lc (slv rfl e4 rfl) (lc (congrArg (Str) e5) (lc (congrArg (Value.int .i64) e6) rfl))))) (congrArg (Value.bool) e7)), ((hs4.pick [2] rfl (by decide)).cast (lc (own_eq (g := I) rfl e4 rfl e3) rfl))⟩
 · refine sk (nN (sq ?_))
   obtain ⟨b2, rfl⟩ := own_form hs2 1 rfl (by omega)
   refine raJ (fun w' => ∃ L, SH w w' [] L ∧ (.blk b1 43 [I 0, ns, Str [], I 0]) ∈ L ∧ True) (fun f w' => ∃ (b8' : Nat) (Aq7' : Option Addr) (cq7' : Nat), Has f [(0, Str s), (2, pB b1), (5, pB b8')] ∧ SH w w' [] [.blk b1 43 [I 0, ns, Str [], I 0], .own (some ⟨b2, 0, none⟩) ((splitB (58 : UInt8) s).length) c1 9 1 ((splitB (58 : UInt8) s).map Str), .own Aq7' (((addrOf ((splitB (58 : UInt8) s).getD 0 []) (numD ((splitB (58 : UInt8) s).getD 1 []))).2.1).length) cq7' 3 1 (((addrOf ((splitB (58 : UInt8) s).getD 0 []) (numD ((splitB (58 : UInt8) s).getD 1 []))).2.1).map I), .blk b8' 43 [I ((addrOf ((splitB (58 : UInt8) s).getD 0 []) (numD ((splitB (58 : UInt8) s).getD 1 []))).1), .slice Aq7' (((addrOf ((splitB (58 : UInt8) s).getD 0 []) (numD ((splitB (58 : UInt8) s).getD 1 []))).2.1).length) cq7', Str ((addrOf ((splitB (58 : UInt8) s).getD 0 []) (numD ((splitB (58 : UInt8) s).getD 1 []))).2.2.1), I ((addrOf ((splitB (58 : UInt8) s).getD 0 []) (numD ((splitB (58 : UInt8) s).getD 1 []))).2.2.2)]]) mixed ?_ ?_
   · refine dag (fuel' := 1) (listed' := lbits 10 511) (fun f w' => ∃ (b8' : Nat) (Aq7' : Option Addr) (cq7' : Nat), Has f [(0, Str s), (2, pB b1), (5, pB b8'), (19, .agg #[I ((addrOf ((splitB (58 : UInt8) s).getD 0 []) (numD ((splitB (58 : UInt8) s).getD 1 []))).1), .slice Aq7' (((addrOf ((splitB (58 : UInt8) s).getD 0 []) (numD ((splitB (58 : UInt8) s).getD 1 []))).2.1).length) cq7', Str ((addrOf ((splitB (58 : UInt8) s).getD 0 []) (numD ((splitB (58 : UInt8) s).getD 1 []))).2.2.1), I ((addrOf ((splitB (58 : UInt8) s).getD 0 []) (numD ((splitB (58 : UInt8) s).getD 1 []))).2.2.2)])] ∧ SH w w' [] [.blk b1 43 [I 0, ns, Str [], I 0], .own (some ⟨b2, 0, none⟩) ((splitB (58 : UInt8) s).length) c1 9 1 ((splitB (58 : UInt8) s).map Str), .own Aq7' (((addrOf ((splitB (58 : UInt8) s).getD 0 []) (numD ((splitB (58 : UInt8) s).getD 1 []))).2.1).length) cq7' 3 1 (((addrOf ((splitB (58 : UInt8) s).getD 0 []) (numD ((splitB (58 : UInt8) s).getD 1 []))).2.1).map I), .blk b8' 43 [I 0, ns, Str [], I 0]]) ?_ (fun D_4_0 => ?_)
     · rintro f w4 ⟨b8', Aq7', cq7', hf, hs5⟩
       obtain ⟨g1, rfl⟩ := has_upd hf
       clear hf
       refine aaL [9] (fa_one ?_)
       refine one_ rfl (stg (vs := [I ((addrOf ((splitB (58 : UInt8) s).getD 0 []) (numD ((splitB (58 : UInt8) s).getD 1 []))).1), .slice Aq7' (((addrOf ((splitB (58 : UInt8) s).getD 0 []) (numD ((splitB (58 : UInt8) s).getD 1 []))).2.1).length) cq7', Str ((addrOf ((splitB (58 : UInt8) s).getD 0 []) (numD ((splitB (58 : UInt8) s).getD 1 []))).2.2.1), I ((addrOf ((splitB (58 : UInt8) s).getD 0 []) (numD ((splitB (58 : UInt8) s).getD 1 []))).2.2.2)]) hs5 3 rfl rfl rfl rfl rfl rfl rfl ag43 trivial (fun w5 hs6 => ?_))
       refine nl (kq ⟨_, hs6, memi 0 rfl, trivial⟩ ?_)
       refine ad (by kernel_rfl) ?_
       exact ⟨b8', Aq7', cq7', ⟨rfl, rfl, rfl, trivial⟩, hs6⟩
     refine dag (fuel' := 2) (listed' := lbits 10 255) (fun f w' => ∃ (Aq7' : Option Addr) (cq7' : Nat), Has f [(0, Str s), (2, pB b1), (19, .agg #[I ((addrOf ((splitB (58 : UInt8) s).getD 0 []) (numD ((splitB (58 : UInt8) s).getD 1 []))).1), .slice Aq7' (((addrOf ((splitB (58 : UInt8) s).getD 0 []) (numD ((splitB (58 : UInt8) s).getD 1 []))).2.1).length) cq7', Str ((addrOf ((splitB (58 : UInt8) s).getD 0 []) (numD ((splitB (58 : UInt8) s).getD 1 []))).2.2.1), I ((addrOf ((splitB (58 : UInt8) s).getD 0 []) (numD ((splitB (58 : UInt8) s).getD 1 []))).2.2.2)])] ∧ SH w w' [] [.blk b1 43 [I 0, ns, Str [], I 0], .own (some ⟨b2, 0, none⟩) ((splitB (58 : UInt8) s).length) c1 9 1 ((splitB (58 : UInt8) s).map Str), .own Aq7' (((addrOf ((splitB (58 : UInt8) s).getD 0 []) (numD ((splitB (58 : UInt8) s).getD 1 []))).2.1).length) cq7' 3 1 (((addrOf ((splitB (58 : UInt8) s).getD 0 []) (numD ((splitB (58 : UInt8) s).getD 1 []))).2.1).map I)]) ?_ (fun D_4_1 => ?_)
     · rintro f w6 ⟨Aq7', cq7', hf, hs7⟩
       obtain ⟨g2, rfl⟩ := has_upd hf
       clear hf
       refine aaL [8] (fa_one ?_)
       refine one_ rfl (al (v := .agg #[I 0, ns, Str [], I 0]) (cs := [I 0, ns, Str [], I 0]) hs7 tz43 rfl trivial rfl (fun b8' w7 hs8 => ?_))
       exact nl (kq ⟨_, hs8, memi 0 rfl, trivial⟩ (alc D_4_0 ⟨b8', Aq7', cq7', ⟨rfl, rfl, rfl, rfl, trivial⟩, hs8⟩))
     refine dag (fuel' := 2) (listed' := lbits 10 383) (fun f w' => ∃ (b8' : Nat), Has f [(0, Str s), (2, pB b1), (5, pB b8'), (14, Str ((splitB (58 : UInt8) s).getD 0 [])), (18, I (numD ((splitB (58 : UInt8) s).getD 1 [])))] ∧ SH w w' [] [.blk b1 43 [I 0, ns, Str [], I 0], .own (some ⟨b2, 0, none⟩) ((splitB (58 : UInt8) s).length) c1 9 1 ((splitB (58 : UInt8) s).map Str), .blk b8' 43 [I 0, ns, Str [], I 0]]) ?_ (fun D_4_2 => ?_)
     · rintro f w8 ⟨b8', hf, hs9⟩
       obtain ⟨g3, rfl⟩ := has_upd hf
       clear hf
       refine aaL [7] (fa_one ?_)
       refine one_ rfl (cl trivial rfl (sL3Of (s := (splitB (58 : UInt8) s).getD 0 []) (n := numD ((splitB (58 : UInt8) s).getD 1 [])) (w := _) (hs_n := (by (have hs0 := splitB_getD 58 s 0; have hs1 := splitB_getD 58 s 1; have hs2 := addrOf_len ((splitB 58 s).getD 0 []) (numD ((splitB 58 s).getD 1 [])); first | omega | (simp; done) | (simp; omega))))) ?_)
       rintro _ w9 ⟨Aq7', cq7', rfl, hs10'⟩
       have hs10 := hs9.call0 hs10'
       clear hs10'
       exact nl (kq ⟨_, hs10, memi 0 rfl, trivial⟩ (alc D_4_0 ⟨b8', Aq7', cq7', ⟨rfl, rfl, rfl, rfl, trivial⟩, (hs10.pick [0, 1, 3, 2] rfl (by decide))⟩))
     refine dag (fuel' := 3) (listed' := lbits 10 127) (fun f w' => Has f [(0, Str s), (2, pB b1), (14, Str ((splitB (58 : UInt8) s).getD 0 [])), (18, I (numD ((splitB (58 : UInt8) s).getD 1 [])))] ∧ SH w w' [] [.blk b1 43 [I 0, ns, Str [], I 0], .own (some ⟨b2, 0, none⟩) ((splitB (58 : UInt8) s).length) c1 9 1 ((splitB (58 : UInt8) s).map Str)]) ?_ (fun D_4_3 => ?_)
     · rintro f w10 ⟨hf, hs11⟩
       obtain ⟨g4, rfl⟩ := has_upd hf
       clear hf
       refine aaL [7, 8] (fa_cons ?_ (fa_one ?_))
       · refine one_ rfl (cl trivial rfl (sL3Of (s := (splitB (58 : UInt8) s).getD 0 []) (n := numD ((splitB (58 : UInt8) s).getD 1 [])) (w := _) (hs_n := (by (have hs0 := splitB_getD 58 s 0; have hs1 := splitB_getD 58 s 1; have hs2 := addrOf_len ((splitB 58 s).getD 0 []) (numD ((splitB 58 s).getD 1 [])); first | omega | (simp; done) | (simp; omega))))) ?_)
         rintro _ w11 ⟨Aq7', cq7', rfl, hs12'⟩
         have hs12 := hs11.call0 hs12'
         clear hs12'
         exact nl (kq ⟨_, hs12, memi 0 rfl, trivial⟩ (alc D_4_1 ⟨Aq7', cq7', ⟨rfl, rfl, rfl, trivial⟩, hs12⟩))
       · refine one_ rfl (al (v := .agg #[I 0, ns, Str [], I 0]) (cs := [I 0, ns, Str [], I 0]) hs11 tz43 rfl trivial rfl (fun b8' w12 hs13 => ?_))
         exact nl (kq ⟨_, hs13, memi 0 rfl, trivial⟩ (alc D_4_2 ⟨b8', ⟨rfl, rfl, rfl, rfl, rfl, trivial⟩, hs13⟩))
     refine dag (fuel' := 3) (listed' := lbits 10 319) (fun f w' => ∃ (b8' : Nat), Has f [(0, Str s), (2, pB b1), (5, pB b8'), (14, Str ((splitB (58 : UInt8) s).getD 0 [])), (17, Str ((splitB (58 : UInt8) s).getD 1 []))] ∧ SH w w' [] [.blk b1 43 [I 0, ns, Str [], I 0], .own (some ⟨b2, 0, none⟩) ((splitB (58 : UInt8) s).length) c1 9 1 ((splitB (58 : UInt8) s).map Str), .blk b8' 43 [I 0, ns, Str [], I 0]]) ?_ (fun D_4_4 => ?_)
     · rintro f w13 ⟨b8', hf, hs14⟩
       obtain ⟨g5, rfl⟩ := has_upd hf
       clear hf
       refine aaL [6] (fa_one ?_)
       refine one_ rfl (cl trivial rfl (sL2Number (s := (splitB (58 : UInt8) s).getD 1 []) (w := _) (hs_n := (by (have hs0 := splitB_getD 58 s 0; have hs1 := splitB_getD 58 s 1; have hs2 := addrOf_len ((splitB 58 s).getD 0 []) (numD ((splitB 58 s).getD 1 [])); first | omega | (simp; done) | (simp; omega))))) ?_)
       rintro _ w14 ⟨rfl, hs15'⟩
       have hs15 := hs14.call0 hs15'
       clear hs15'
       exact nl (kq ⟨_, hs15, memi 0 rfl, trivial⟩ (alc D_4_2 ⟨b8', ⟨rfl, rfl, rfl, rfl, rfl, trivial⟩, hs15⟩))
     refine dag (fuel' := 3) (listed' := lbits 10 379) (fun f w' => ∃ (b8' : Nat), Has f [(0, Str s), (2, pB b1), (5, pB b8'), (13, .pointer (some ⟨b2, 0 * 1, none⟩)), (18, I (numD ((splitB (58 : UInt8) s).getD 1 [])))] ∧ SH w w' [] [.blk b1 43 [I 0, ns, Str [], I 0], .own (some ⟨b2, 0, none⟩) ((splitB (58 : UInt8) s).length) c1 9 1 ((splitB (58 : UInt8) s).map Str), .blk b8' 43 [I 0, ns, Str [], I 0]]) ?_ (fun D_4_5 => ?_)
     · rintro f w15 ⟨b8', hf, hs16⟩
       obtain ⟨g6, rfl⟩ := has_upd hf
       clear hf
       refine aaL [2] (fa_one ?_)
       refine one_ rfl (qt rfl (ldo1n (g := Str) (ys := splitB (58 : UInt8) s) (o := 0) [] hs16 1 rfl rfl (by (first | omega | (simp; done) | (simp; omega))) one9) ?_)
       exact nl (kq ⟨_, hs16, memi 0 rfl, trivial⟩ (alc D_4_2 ⟨b8', ⟨rfl, rfl, rfl, rfl, rfl, trivial⟩, hs16⟩))
     refine dag (fuel' := 4) (listed' := lbits 10 63) (fun f w' => Has f [(0, Str s), (2, pB b1), (14, Str ((splitB (58 : UInt8) s).getD 0 [])), (17, Str ((splitB (58 : UInt8) s).getD 1 []))] ∧ SH w w' [] [.blk b1 43 [I 0, ns, Str [], I 0], .own (some ⟨b2, 0, none⟩) ((splitB (58 : UInt8) s).length) c1 9 1 ((splitB (58 : UInt8) s).map Str)]) ?_ (fun D_4_6 => ?_)
     · rintro f w16 ⟨hf, hs17⟩
       obtain ⟨g7, rfl⟩ := has_upd hf
       clear hf
       refine aaL [6, 8] (fa_cons ?_ (fa_one ?_))
       · refine one_ rfl (cl trivial rfl (sL2Number (s := (splitB (58 : UInt8) s).getD 1 []) (w := _) (hs_n := (by (have hs0 := splitB_getD 58 s 0; have hs1 := splitB_getD 58 s 1; have hs2 := addrOf_len ((splitB 58 s).getD 0 []) (numD ((splitB 58 s).getD 1 [])); first | omega | (simp; done) | (simp; omega))))) ?_)
         rintro _ w17 ⟨rfl, hs18'⟩
         have hs18 := hs17.call0 hs18'
         clear hs18'
         exact nl (kq ⟨_, hs18, memi 0 rfl, trivial⟩ (alc D_4_3 ⟨⟨rfl, rfl, rfl, rfl, trivial⟩, hs18⟩))
       · refine one_ rfl (al (v := .agg #[I 0, ns, Str [], I 0]) (cs := [I 0, ns, Str [], I 0]) hs17 tz43 rfl trivial rfl (fun b8' w18 hs19 => ?_))
         exact nl (kq ⟨_, hs19, memi 0 rfl, trivial⟩ (alc D_4_4 ⟨b8', ⟨rfl, rfl, rfl, rfl, rfl, trivial⟩, hs19⟩))
     refine dag (fuel' := 4) (listed' := lbits 10 287) (fun f w' => ∃ (b8' : Nat), Has f [(0, Str s), (2, pB b1), (5, pB b8'), (14, Str ((splitB (58 : UInt8) s).getD 0 [])), (16, .pointer (some ⟨b2, 1 * 1, none⟩))] ∧ SH w w' [] [.blk b1 43 [I 0, ns, Str [], I 0], .own (some ⟨b2, 0, none⟩) ((splitB (58 : UInt8) s).length) c1 9 1 ((splitB (58 : UInt8) s).map Str), .blk b8' 43 [I 0, ns, Str [], I 0]]) ?_ (fun D_4_7 => ?_)
     · rintro f w19 ⟨b8', hf, hs20⟩
       obtain ⟨g8, rfl⟩ := has_upd hf
       clear hf
       refine aaL [5] (fa_one ?_)
       refine one_ rfl (qt rfl (ldo1n (g := Str) (ys := splitB (58 : UInt8) s) (o := 1) [] hs20 1 rfl rfl (by (first | omega | (simp; done) | (simp; omega))) one9) ?_)
       exact nl (kq ⟨_, hs20, memi 0 rfl, trivial⟩ (alc D_4_4 ⟨b8', ⟨rfl, rfl, rfl, rfl, rfl, trivial⟩, hs20⟩))
     refine dag (fuel' := 4) (listed' := lbits 10 123) (fun f w' => Has f [(0, Str s), (2, pB b1), (13, .pointer (some ⟨b2, 0 * 1, none⟩)), (18, I (numD ((splitB (58 : UInt8) s).getD 1 [])))] ∧ SH w w' [] [.blk b1 43 [I 0, ns, Str [], I 0], .own (some ⟨b2, 0, none⟩) ((splitB (58 : UInt8) s).length) c1 9 1 ((splitB (58 : UInt8) s).map Str)]) ?_ (fun D_4_8 => ?_)
     · rintro f w20 ⟨hf, hs21⟩
       obtain ⟨g9, rfl⟩ := has_upd hf
       clear hf
       refine aaL [2, 8] (fa_cons ?_ (fa_one ?_))
       · refine one_ rfl (qt rfl (ldo1n (g := Str) (ys := splitB (58 : UInt8) s) (o := 0) [] hs21 1 rfl rfl (by (first | omega | (simp; done) | (simp; omega))) one9) ?_)
         exact nl (kq ⟨_, hs21, memi 0 rfl, trivial⟩ (alc D_4_3 ⟨⟨rfl, rfl, rfl, rfl, trivial⟩, hs21⟩))
       · refine one_ rfl (al (v := .agg #[I 0, ns, Str [], I 0]) (cs := [I 0, ns, Str [], I 0]) hs21 tz43 rfl trivial rfl (fun b8' w21 hs22 => ?_))
         exact nl (kq ⟨_, hs22, memi 0 rfl, trivial⟩ (alc D_4_5 ⟨b8', ⟨rfl, rfl, rfl, rfl, rfl, trivial⟩, hs22⟩))
     refine dag (fuel' := 4) (listed' := lbits 10 315) (fun f w' => ∃ (b8' : Nat), Has f [(0, Str s), (2, pB b1), (5, pB b8'), (13, .pointer (some ⟨b2, 0 * 1, none⟩)), (17, Str ((splitB (58 : UInt8) s).getD 1 []))] ∧ SH w w' [] [.blk b1 43 [I 0, ns, Str [], I 0], .own (some ⟨b2, 0, none⟩) ((splitB (58 : UInt8) s).length) c1 9 1 ((splitB (58 : UInt8) s).map Str), .blk b8' 43 [I 0, ns, Str [], I 0]]) ?_ (fun D_4_9 => ?_)
     · rintro f w22 ⟨b8', hf, hs23⟩
       obtain ⟨g10, rfl⟩ := has_upd hf
       clear hf
       refine aaL [2, 6] (fa_cons ?_ (fa_one ?_))
       · refine one_ rfl (qt rfl (ldo1n (g := Str) (ys := splitB (58 : UInt8) s) (o := 0) [] hs23 1 rfl rfl (by (first | omega | (simp; done) | (simp; omega))) one9) ?_)
         exact nl (kq ⟨_, hs23, memi 0 rfl, trivial⟩ (alc D_4_4 ⟨b8', ⟨rfl, rfl, rfl, rfl, rfl, trivial⟩, hs23⟩))
       · refine one_ rfl (cl trivial rfl (sL2Number (s := (splitB (58 : UInt8) s).getD 1 []) (w := _) (hs_n := (by (have hs0 := splitB_getD 58 s 0; have hs1 := splitB_getD 58 s 1; have hs2 := addrOf_len ((splitB 58 s).getD 0 []) (numD ((splitB 58 s).getD 1 [])); first | omega | (simp; done) | (simp; omega))))) ?_)
         rintro _ w23 ⟨rfl, hs24'⟩
         have hs24 := hs23.call0 hs24'
         clear hs24'
         exact nl (kq ⟨_, hs24, memi 0 rfl, trivial⟩ (alc D_4_5 ⟨b8', ⟨rfl, rfl, rfl, rfl, rfl, trivial⟩, hs24⟩))
     refine dag (fuel' := 5) (listed' := lbits 10 31) (fun f w' => Has f [(0, Str s), (2, pB b1), (14, Str ((splitB (58 : UInt8) s).getD 0 [])), (16, .pointer (some ⟨b2, 1 * 1, none⟩))] ∧ SH w w' [] [.blk b1 43 [I 0, ns, Str [], I 0], .own (some ⟨b2, 0, none⟩) ((splitB (58 : UInt8) s).length) c1 9 1 ((splitB (58 : UInt8) s).map Str)]) ?_ (fun D_4_10 => ?_)
     · rintro f w24 ⟨hf, hs25⟩
       obtain ⟨g11, rfl⟩ := has_upd hf
       clear hf
       refine aaL [5, 8] (fa_cons ?_ (fa_one ?_))
       · refine one_ rfl (qt rfl (ldo1n (g := Str) (ys := splitB (58 : UInt8) s) (o := 1) [] hs25 1 rfl rfl (by (first | omega | (simp; done) | (simp; omega))) one9) ?_)
         exact nl (kq ⟨_, hs25, memi 0 rfl, trivial⟩ (alc D_4_6 ⟨⟨rfl, rfl, rfl, rfl, trivial⟩, hs25⟩))
       · refine one_ rfl (al (v := .agg #[I 0, ns, Str [], I 0]) (cs := [I 0, ns, Str [], I 0]) hs25 tz43 rfl trivial rfl (fun b8' w25 hs26 => ?_))
         exact nl (kq ⟨_, hs26, memi 0 rfl, trivial⟩ (alc D_4_7 ⟨b8', ⟨rfl, rfl, rfl, rfl, rfl, trivial⟩, hs26⟩))
     refine dag (fuel' := 5) (listed' := lbits 10 59) (fun f w' => Has f [(0, Str s), (2, pB b1), (13, .pointer (some ⟨b2, 0 * 1, none⟩)), (17, Str ((splitB (58 : UInt8) s).getD 1 []))] ∧ SH w w' [] [.blk b1 43 [I 0, ns, Str [], I 0], .own (some ⟨b2, 0, none⟩) ((splitB (58 : UInt8) s).length) c1 9 1 ((splitB (58 : UInt8) s).map Str)]) ?_ (fun D_4_11 => ?_)
     · rintro f w26 ⟨hf, hs27⟩
       obtain ⟨g12, rfl⟩ := has_upd hf
       clear hf
       refine aaL [2, 6, 8] (fa_cons ?_ (fa_cons ?_ (fa_one ?_)))
       · refine one_ rfl (qt rfl (ldo1n (g := Str) (ys := splitB (58 : UInt8) s) (o := 0) [] hs27 1 rfl rfl (by (first | omega | (simp; done) | (simp; omega))) one9) ?_)
         exact nl (kq ⟨_, hs27, memi 0 rfl, trivial⟩ (alc D_4_6 ⟨⟨rfl, rfl, rfl, rfl, trivial⟩, hs27⟩))
       · refine one_ rfl (cl trivial rfl (sL2Number (s := (splitB (58 : UInt8) s).getD 1 []) (w := _) (hs_n := (by (have hs0 := splitB_getD 58 s 0; have hs1 := splitB_getD 58 s 1; have hs2 := addrOf_len ((splitB 58 s).getD 0 []) (numD ((splitB 58 s).getD 1 [])); first | omega | (simp; done) | (simp; omega))))) ?_)
         rintro _ w27 ⟨rfl, hs28'⟩
         have hs28 := hs27.call0 hs28'
         clear hs28'
         exact nl (kq ⟨_, hs28, memi 0 rfl, trivial⟩ (alc D_4_8 ⟨⟨rfl, rfl, rfl, rfl, trivial⟩, hs28⟩))
       · refine one_ rfl (al (v := .agg #[I 0, ns, Str [], I 0]) (cs := [I 0, ns, Str [], I 0]) hs27 tz43 rfl trivial rfl (fun b8' w28 hs29 => ?_))
         exact nl (kq ⟨_, hs29, memi 0 rfl, trivial⟩ (alc D_4_9 ⟨b8', ⟨rfl, rfl, rfl, rfl, rfl, trivial⟩, hs29⟩))
     refine dag (fuel' := 5) (listed' := lbits 10 283) (fun f w' => ∃ (b8' : Nat), Has f [(0, Str s), (2, pB b1), (5, pB b8'), (13, .pointer (some ⟨b2, 0 * 1, none⟩)), (16, .pointer (some ⟨b2, 1 * 1, none⟩))] ∧ SH w w' [] [.blk b1 43 [I 0, ns, Str [], I 0], .own (some ⟨b2, 0, none⟩) ((splitB (58 : UInt8) s).length) c1 9 1 ((splitB (58 : UInt8) s).map Str), .blk b8' 43 [I 0, ns, Str [], I 0]]) ?_ (fun D_4_12 => ?_)
     · rintro f w29 ⟨b8', hf, hs30⟩
       obtain ⟨g13, rfl⟩ := has_upd hf
       clear hf
       refine aaL [2, 5] (fa_cons ?_ (fa_one ?_))
       · refine one_ rfl (qt rfl (ldo1n (g := Str) (ys := splitB (58 : UInt8) s) (o := 0) [] hs30 1 rfl rfl (by (first | omega | (simp; done) | (simp; omega))) one9) ?_)
         exact nl (kq ⟨_, hs30, memi 0 rfl, trivial⟩ (alc D_4_7 ⟨b8', ⟨rfl, rfl, rfl, rfl, rfl, trivial⟩, hs30⟩))
       · refine one_ rfl (qt rfl (ldo1n (g := Str) (ys := splitB (58 : UInt8) s) (o := 1) [] hs30 1 rfl rfl (by (first | omega | (simp; done) | (simp; omega))) one9) ?_)
         exact nl (kq ⟨_, hs30, memi 0 rfl, trivial⟩ (alc D_4_9 ⟨b8', ⟨rfl, rfl, rfl, rfl, rfl, trivial⟩, hs30⟩))
     refine dag (fuel' := 6) (listed' := lbits 10 27) (fun f w' => Has f [(0, Str s), (2, pB b1), (13, .pointer (some ⟨b2, 0 * 1, none⟩)), (16, .pointer (some ⟨b2, 1 * 1, none⟩))] ∧ SH w w' [] [.blk b1 43 [I 0, ns, Str [], I 0], .own (some ⟨b2, 0, none⟩) ((splitB (58 : UInt8) s).length) c1 9 1 ((splitB (58 : UInt8) s).map Str)]) ?_ (fun D_4_13 => ?_)
     · rintro f w30 ⟨hf, hs31⟩
       obtain ⟨g14, rfl⟩ := has_upd hf
       clear hf
       refine aaL [2, 5, 8] (fa_cons ?_ (fa_cons ?_ (fa_one ?_)))
       · refine one_ rfl (qt rfl (ldo1n (g := Str) (ys := splitB (58 : UInt8) s) (o := 0) [] hs31 1 rfl rfl (by (first | omega | (simp; done) | (simp; omega))) one9) ?_)
         exact nl (kq ⟨_, hs31, memi 0 rfl, trivial⟩ (alc D_4_10 ⟨⟨rfl, rfl, rfl, rfl, trivial⟩, hs31⟩))
       · refine one_ rfl (qt rfl (ldo1n (g := Str) (ys := splitB (58 : UInt8) s) (o := 1) [] hs31 1 rfl rfl (by (first | omega | (simp; done) | (simp; omega))) one9) ?_)
         exact nl (kq ⟨_, hs31, memi 0 rfl, trivial⟩ (alc D_4_11 ⟨⟨rfl, rfl, rfl, rfl, trivial⟩, hs31⟩))
       · refine one_ rfl (al (v := .agg #[I 0, ns, Str [], I 0]) (cs := [I 0, ns, Str [], I 0]) hs31 tz43 rfl trivial rfl (fun b8' w31 hs32 => ?_))
         exact nl (kq ⟨_, hs32, memi 0 rfl, trivial⟩ (alc D_4_12 ⟨b8', ⟨rfl, rfl, rfl, rfl, rfl, trivial⟩, hs32⟩))
     have hs33 := hs2.drew
     refine tk (fuel := 6) (is := [0, 1, 3, 4]) (.cons rfl (.cons rfl (.cons rfl (.cons rfl (.nil))))) (by kernel_rfl) (by kernel_rfl) ⟨_, hs33, memi 0 rfl, trivial⟩ (.op trivial rfl rfl (fun wq _ => mv (v := sb b2 ((splitB (58 : UInt8) s).length) c1) rfl) (.op trivial rfl rfl (fun wq _ => ixo 0 sl147 rfl rfl (by (first | omega | (simp; done) | (simp; omega)))) (.op trivial rfl rfl (fun wq _ => mv (v := sb b2 ((splitB (58 : UInt8) s).length) c1) rfl) (.op trivial rfl rfl (fun wq _ => ixo 1 sl147 rfl rfl (by (first | omega | (simp; done) | (simp; omega)))) (.nil ?_)))))
     exact alc D_4_13 ⟨⟨rfl, rfl, rfl, rfl, trivial⟩, hs33⟩
   rintro f w32 ⟨b8', Aq7', cq7', hf, hs34⟩
   obtain ⟨g15, rfl⟩ := has_upd hf
   clear hf
   refine nN (sq (sq (rg (qt rfl (ldg (vs := [I ((addrOf ((splitB (58 : UInt8) s).getD 0 []) (numD ((splitB (58 : UInt8) s).getD 1 []))).1), .slice Aq7' (((addrOf ((splitB (58 : UInt8) s).getD 0 []) (numD ((splitB (58 : UInt8) s).getD 1 []))).2.1).length) cq7', Str ((addrOf ((splitB (58 : UInt8) s).getD 0 []) (numD ((splitB (58 : UInt8) s).getD 1 []))).2.2.1), I ((addrOf ((splitB (58 : UInt8) s).getD 0 []) (numD ((splitB (58 : UInt8) s).getD 1 []))).2.2.2)]) hs34 3 rfl rfl rfl rfl ag43) (cl trivial rfl (sAddressValid (ak := (addrOf ((splitB (58 : UInt8) s).getD 0 []) (numD ((splitB (58 : UInt8) s).getD 1 []))).1) (Aaq := Aq7') (caq := cq7') (aq := (addrOf ((splitB (58 : UInt8) s).getD 0 []) (numD ((splitB (58 : UInt8) s).getD 1 []))).2.1) (an := (addrOf ((splitB (58 : UInt8) s).getD 0 []) (numD ((splitB (58 : UInt8) s).getD 1 []))).2.2.1) (apt := (addrOf ((splitB (58 : UInt8) s).getD 0 []) (numD ((splitB (58 : UInt8) s).getD 1 []))).2.2.2) (w := _) (haq := (hs34.sl0 2 rfl)) (han_n := (by (have hs0 := splitB_getD 58 s 0; have hs1 := splitB_getD 58 s 1; have hs2 := addrOf_len ((splitB 58 s).getD 0 []) (numD ((splitB 58 s).getD 1 [])); first | omega | (simp; done) | (simp; omega))))) ?_)))))
   rintro _ w33 ⟨rfl, hs35'⟩
   have hs35 := hs34.call0 hs35'
   clear hs35'
   refine qt rfl (nt (b := addrOk ((addrOf ((splitB (58 : UInt8) s).getD 0 []) (numD ((splitB (58 : UInt8) s).getD 1 []))).1) ((addrOf ((splitB (58 : UInt8) s).getD 0 []) (numD ((splitB (58 : UInt8) s).getD 1 []))).2.1) ((addrOf ((splitB (58 : UInt8) s).getD 0 []) (numD ((splitB (58 : UInt8) s).getD 1 []))).2.2.1) ((addrOf ((splitB (58 : UInt8) s).getD 0 []) (numD ((splitB (58 : UInt8) s).getD 1 []))).2.2.2)) rfl) (qt rfl (mv (v := .bool (!(addrOk ((addrOf ((splitB (58 : UInt8) s).getD 0 []) (numD ((splitB (58 : UInt8) s).getD 1 []))).1) ((addrOf ((splitB (58 : UInt8) s).getD 0 []) (numD ((splitB (58 : UInt8) s).getD 1 []))).2.1) ((addrOf ((splitB (58 : UInt8) s).getD 0 []) (numD ((splitB (58 : UInt8) s).getD 1 []))).2.2.1) ((addrOf ((splitB (58 : UInt8) s).getD 0 []) (numD ((splitB (58 : UInt8) s).getD 1 []))).2.2.2)))) rfl) ?_)
   refine spl (b := !(addrOk ((addrOf ((splitB (58 : UInt8) s).getD 0 []) (numD ((splitB (58 : UInt8) s).getD 1 []))).1) ((addrOf ((splitB (58 : UInt8) s).getD 0 []) (numD ((splitB (58 : UInt8) s).getD 1 []))).2.1) ((addrOf ((splitB (58 : UInt8) s).getD 0 []) (numD ((splitB (58 : UInt8) s).getD 1 []))).2.2.1) ((addrOf ((splitB (58 : UInt8) s).getD 0 []) (numD ((splitB (58 : UInt8) s).getD 1 []))).2.2.2))) 23 rfl (fun h2 => ?_) (fun h2 => ?_)
   · have h3 : (addrOk ((addrOf ((splitB (58 : UInt8) s).getD 0 []) (numD ((splitB (58 : UInt8) s).getD 1 []))).1) ((addrOf ((splitB (58 : UInt8) s).getD 0 []) (numD ((splitB (58 : UInt8) s).getD 1 []))).2.1) ((addrOf ((splitB (58 : UInt8) s).getD 0 []) (numD ((splitB (58 : UInt8) s).getD 1 []))).2.2.1) ((addrOf ((splitB (58 : UInt8) s).getD 0 []) (numD ((splitB (58 : UInt8) s).getD 1 []))).2.2.2)) = false := by simpa using h2
     refine gk true rfl rfl rfl rfl rfl (gk true rfl rfl rfl rfl rfl (gk true rfl rfl rfl rfl rfl (gk true rfl rfl rfl rfl rfl (qt rfl (pt (v := .bool true) rfl rfl) (nl (nN (cdt rfl ?_)))))))
     refine sq (rg (qt rfl (bdv (v := .agg #[I 0, ns, Str [], I 0]) [] rfl (fun _ => by kernel_rfl)) (stg (vs := [I 0, ns, Str [], I 0]) hs35 0 rfl rfl rfl rfl rfl rfl rfl ag43 trivial (fun w34 (hs36 : SH w w34 [] [.own (some ⟨b2, 0, none⟩) ((splitB (58 : UInt8) s).length) c1 9 1 ((splitB (58 : UInt8) s).map Str), .own Aq7' (((addrOf ((splitB (58 : UInt8) s).getD 0 []) (numD ((splitB (58 : UInt8) s).getD 1 []))).2.1).length) cq7' 3 1 (((addrOf ((splitB (58 : UInt8) s).getD 0 []) (numD ((splitB (58 : UInt8) s).getD 1 []))).2.1).map I), .blk b8' 43 [I ((addrOf ((splitB (58 : UInt8) s).getD 0 []) (numD ((splitB (58 : UInt8) s).getD 1 []))).1), .slice Aq7' (((addrOf ((splitB (58 : UInt8) s).getD 0 []) (numD ((splitB (58 : UInt8) s).getD 1 []))).2.1).length) cq7', Str ((addrOf ((splitB (58 : UInt8) s).getD 0 []) (numD ((splitB (58 : UInt8) s).getD 1 []))).2.2.1), I ((addrOf ((splitB (58 : UInt8) s).getD 0 []) (numD ((splitB (58 : UInt8) s).getD 1 []))).2.2.2)], .blk b1 43 [I 0, ns, Str [], I 0]]) => ?_))))
     refine qt rfl (asg (v := .bool false) rfl) (nl (nN ?_))
     have hs37 : SH w w34 [] [.blk b1 43 [I 0, ns, Str [], I 0]] := hs36.pick [3] rfl (by decide)
     refine rt (tR ?_)
     refine fret (v := .tuple #[.agg #[I 0, ns, Str [], I 0], .bool false]) (resC hs37 0 rfl rfl ag43 rfl (.tmp .nil)) rfl ?_
     have hs38 : SH w w34 [] [.blk b1 43 [I 0, ns, Str [], I 0], .own none (([] : List Int).length) 0 3 1 (([] : List Int).map I)] := SH.nils (by intro i hi; simp at hi; subst hi; exact nilItem) hs37
     have e8 : addrFrom s = ((0, ([] : List Int), [], 0), false) := by exact addr_s1 (by assumption)
     have e9 : 0 = (addrFrom s).1.1 := by rw [e8]
     have e10 : ([] : List Int) = (addrFrom s).1.2.1 := by rw [e8]
     have e11 : ([] : List Int).length = ((addrFrom s).1.2.1).length := by exact congrArg List.length e10
     have e12 : [] = (addrFrom s).1.2.2.1 := by rw [e8]
     have e13 : 0 = (addrFrom s).1.2.2.2 := by rw [e8]
     have e14 : false = (addrFrom s).2 := by rw [e8]
     exact ⟨none, 0, (tup2 (aggv (lc (congrArg (Value.int .i64) e9) (lc (slv rfl e11 rfl) (lc (congrArg (Str) e12) (lc (congrArg (Value.int .i64) e13) rfl))))) (congrArg (Value.bool) e14)), ((hs38.pick [1] rfl (by decide)).cast (lc (own_eq (g := I) rfl e11 rfl e10) rfl))⟩
   · have h4 : (addrOk ((addrOf ((splitB (58 : UInt8) s).getD 0 []) (numD ((splitB (58 : UInt8) s).getD 1 []))).1) ((addrOf ((splitB (58 : UInt8) s).getD 0 []) (numD ((splitB (58 : UInt8) s).getD 1 []))).2.1) ((addrOf ((splitB (58 : UInt8) s).getD 0 []) (numD ((splitB (58 : UInt8) s).getD 1 []))).2.2.1) ((addrOf ((splitB (58 : UInt8) s).getD 0 []) (numD ((splitB (58 : UInt8) s).getD 1 []))).2.2.2)) = true := by simpa using h2
     refine q ⟨_, rfl, rfl⟩ rfl rfl (ldg (vs := [I ((addrOf ((splitB (58 : UInt8) s).getD 0 []) (numD ((splitB (58 : UInt8) s).getD 1 []))).1), .slice Aq7' (((addrOf ((splitB (58 : UInt8) s).getD 0 []) (numD ((splitB (58 : UInt8) s).getD 1 []))).2.1).length) cq7', Str ((addrOf ((splitB (58 : UInt8) s).getD 0 []) (numD ((splitB (58 : UInt8) s).getD 1 []))).2.2.1), I ((addrOf ((splitB (58 : UInt8) s).getD 0 []) (numD ((splitB (58 : UInt8) s).getD 1 []))).2.2.2)]) hs35 3 rfl rfl rfl rfl ag43) (cl ⟨_, rfl, rfl⟩ rfl (sAddressText (ak := (addrOf ((splitB (58 : UInt8) s).getD 0 []) (numD ((splitB (58 : UInt8) s).getD 1 []))).1) (Aaq := Aq7') (caq := cq7') (aq := (addrOf ((splitB (58 : UInt8) s).getD 0 []) (numD ((splitB (58 : UInt8) s).getD 1 []))).2.1) (an := (addrOf ((splitB (58 : UInt8) s).getD 0 []) (numD ((splitB (58 : UInt8) s).getD 1 []))).2.2.1) (apt := (addrOf ((splitB (58 : UInt8) s).getD 0 []) (numD ((splitB (58 : UInt8) s).getD 1 []))).2.2.2) (w := _) (haq := (hs35.sl0 2 rfl)) (han_n := (by (have hs0 := splitB_getD 58 s 0; have hs1 := splitB_getD 58 s 1; have hs2 := addrOf_len ((splitB 58 s).getD 0 []) (numD ((splitB 58 s).getD 1 [])); first | omega | (simp; done) | (simp; omega))))) ?_)
     rintro _ w35 ⟨rfl, hs39'⟩
     have hs39 := hs35.call0 hs39'
     clear hs39'
     refine q ⟨_, rfl, rfl⟩ rfl rfl (mv (v := Str s) rfl) (q ⟨_, rfl, rfl⟩ rfl rfl (nes (l := addrT ((addrOf ((splitB (58 : UInt8) s).getD 0 []) (numD ((splitB (58 : UInt8) s).getD 1 []))).1) ((addrOf ((splitB (58 : UInt8) s).getD 0 []) (numD ((splitB (58 : UInt8) s).getD 1 []))).2.1) ((addrOf ((splitB (58 : UInt8) s).getD 0 []) (numD ((splitB (58 : UInt8) s).getD 1 []))).2.2.1) ((addrOf ((splitB (58 : UInt8) s).getD 0 []) (numD ((splitB (58 : UInt8) s).getD 1 []))).2.2.2)) (m := s) rfl rfl) (qt rfl (pf (v := .bool (decide (addrT ((addrOf ((splitB (58 : UInt8) s).getD 0 []) (numD ((splitB (58 : UInt8) s).getD 1 []))).1) ((addrOf ((splitB (58 : UInt8) s).getD 0 []) (numD ((splitB (58 : UInt8) s).getD 1 []))).2.1) ((addrOf ((splitB (58 : UInt8) s).getD 0 []) (numD ((splitB (58 : UInt8) s).getD 1 []))).2.2.1) ((addrOf ((splitB (58 : UInt8) s).getD 0 []) (numD ((splitB (58 : UInt8) s).getD 1 []))).2.2.2) ≠ s))) rfl rfl) (nl (nN ?_))))
     refine cdd (p := addrT ((addrOf ((splitB (58 : UInt8) s).getD 0 []) (numD ((splitB (58 : UInt8) s).getD 1 []))).1) ((addrOf ((splitB (58 : UInt8) s).getD 0 []) (numD ((splitB (58 : UInt8) s).getD 1 []))).2.1) ((addrOf ((splitB (58 : UInt8) s).getD 0 []) (numD ((splitB (58 : UInt8) s).getD 1 []))).2.2.1) ((addrOf ((splitB (58 : UInt8) s).getD 0 []) (numD ((splitB (58 : UInt8) s).getD 1 []))).2.2.2) ≠ s) rfl (fun h5 => ?_) (fun h5 => ?_)
     · refine sq (rg (qt rfl (bdv (v := .agg #[I 0, ns, Str [], I 0]) [] rfl (fun _ => by kernel_rfl)) (stg (vs := [I 0, ns, Str [], I 0]) hs39 0 rfl rfl rfl rfl rfl rfl rfl ag43 trivial (fun w36 (hs40 : SH w w36 [] [.own (some ⟨b2, 0, none⟩) ((splitB (58 : UInt8) s).length) c1 9 1 ((splitB (58 : UInt8) s).map Str), .own Aq7' (((addrOf ((splitB (58 : UInt8) s).getD 0 []) (numD ((splitB (58 : UInt8) s).getD 1 []))).2.1).length) cq7' 3 1 (((addrOf ((splitB (58 : UInt8) s).getD 0 []) (numD ((splitB (58 : UInt8) s).getD 1 []))).2.1).map I), .blk b8' 43 [I ((addrOf ((splitB (58 : UInt8) s).getD 0 []) (numD ((splitB (58 : UInt8) s).getD 1 []))).1), .slice Aq7' (((addrOf ((splitB (58 : UInt8) s).getD 0 []) (numD ((splitB (58 : UInt8) s).getD 1 []))).2.1).length) cq7', Str ((addrOf ((splitB (58 : UInt8) s).getD 0 []) (numD ((splitB (58 : UInt8) s).getD 1 []))).2.2.1), I ((addrOf ((splitB (58 : UInt8) s).getD 0 []) (numD ((splitB (58 : UInt8) s).getD 1 []))).2.2.2)], .blk b1 43 [I 0, ns, Str [], I 0]]) => ?_))))
       refine qt rfl (asg (v := .bool false) rfl) (nl (nN ?_))
       have hs41 : SH w w36 [] [.blk b1 43 [I 0, ns, Str [], I 0]] := hs40.pick [3] rfl (by decide)
       refine rt (tR ?_)
       refine fret (v := .tuple #[.agg #[I 0, ns, Str [], I 0], .bool false]) (resC hs41 0 rfl rfl ag43 rfl (.tmp .nil)) rfl ?_
       have hs42 : SH w w36 [] [.blk b1 43 [I 0, ns, Str [], I 0], .own none (([] : List Int).length) 0 3 1 (([] : List Int).map I)] := SH.nils (by intro i hi; simp at hi; subst hi; exact nilItem) hs41
       have e15 : addrFrom s = ((0, ([] : List Int), [], 0), false) := by exact addr_s2 (by assumption)
       have e16 : 0 = (addrFrom s).1.1 := by rw [e15]
       have e17 : ([] : List Int) = (addrFrom s).1.2.1 := by rw [e15]
       have e18 : ([] : List Int).length = ((addrFrom s).1.2.1).length := by exact congrArg List.length e17
       have e19 : [] = (addrFrom s).1.2.2.1 := by rw [e15]
       have e20 : 0 = (addrFrom s).1.2.2.2 := by rw [e15]
       have e21 : false = (addrFrom s).2 := by rw [e15]
       exact ⟨none, 0, (tup2 (aggv (lc (congrArg (Value.int .i64) e16) (lc (slv rfl e18 rfl) (lc (congrArg (Str) e19) (lc (congrArg (Value.int .i64) e20) rfl))))) (congrArg (Value.bool) e21)), ((hs42.pick [1] rfl (by decide)).cast (lc (own_eq (g := I) rfl e18 rfl e17) rfl))⟩
     · refine sk (nN (sq (rg (qt rfl (ldg (vs := [I ((addrOf ((splitB (58 : UInt8) s).getD 0 []) (numD ((splitB (58 : UInt8) s).getD 1 []))).1), .slice Aq7' (((addrOf ((splitB (58 : UInt8) s).getD 0 []) (numD ((splitB (58 : UInt8) s).getD 1 []))).2.1).length) cq7', Str ((addrOf ((splitB (58 : UInt8) s).getD 0 []) (numD ((splitB (58 : UInt8) s).getD 1 []))).2.2.1), I ((addrOf ((splitB (58 : UInt8) s).getD 0 []) (numD ((splitB (58 : UInt8) s).getD 1 []))).2.2.2)]) hs39 3 rfl rfl rfl rfl ag43) (stg (vs := [I ((addrOf ((splitB (58 : UInt8) s).getD 0 []) (numD ((splitB (58 : UInt8) s).getD 1 []))).1), .slice Aq7' (((addrOf ((splitB (58 : UInt8) s).getD 0 []) (numD ((splitB (58 : UInt8) s).getD 1 []))).2.1).length) cq7', Str ((addrOf ((splitB (58 : UInt8) s).getD 0 []) (numD ((splitB (58 : UInt8) s).getD 1 []))).2.2.1), I ((addrOf ((splitB (58 : UInt8) s).getD 0 []) (numD ((splitB (58 : UInt8) s).getD 1 []))).2.2.2)]) hs39 0 rfl rfl rfl rfl rfl rfl rfl ag43 trivial (fun w37 (hs43 : SH w w37 [] [.own (some ⟨b2, 0, none⟩) ((splitB (58 : UInt8) s).length) c1 9 1 ((splitB (58 : UInt8) s).map Str), .own Aq7' (((addrOf ((splitB (58 : UInt8) s).getD 0 []) (numD ((splitB (58 : UInt8) s).getD 1 []))).2.1).length) cq7' 3 1 (((addrOf ((splitB (58 : UInt8) s).getD 0 []) (numD ((splitB (58 : UInt8) s).getD 1 []))).2.1).map I), .blk b8' 43 [I ((addrOf ((splitB (58 : UInt8) s).getD 0 []) (numD ((splitB (58 : UInt8) s).getD 1 []))).1), .slice Aq7' (((addrOf ((splitB (58 : UInt8) s).getD 0 []) (numD ((splitB (58 : UInt8) s).getD 1 []))).2.1).length) cq7', Str ((addrOf ((splitB (58 : UInt8) s).getD 0 []) (numD ((splitB (58 : UInt8) s).getD 1 []))).2.2.1), I ((addrOf ((splitB (58 : UInt8) s).getD 0 []) (numD ((splitB (58 : UInt8) s).getD 1 []))).2.2.2)], .blk b1 43 [I ((addrOf ((splitB (58 : UInt8) s).getD 0 []) (numD ((splitB (58 : UInt8) s).getD 1 []))).1), .slice Aq7' (((addrOf ((splitB (58 : UInt8) s).getD 0 []) (numD ((splitB (58 : UInt8) s).getD 1 []))).2.1).length) cq7', Str ((addrOf ((splitB (58 : UInt8) s).getD 0 []) (numD ((splitB (58 : UInt8) s).getD 1 []))).2.2.1), I ((addrOf ((splitB (58 : UInt8) s).getD 0 []) (numD ((splitB (58 : UInt8) s).getD 1 []))).2.2.2)]]) => ?_))))))
       refine qt rfl (asg (v := .bool true) rfl) (nl (nN ?_))
       have hs44 : SH w w37 [] [.own Aq7' (((addrOf ((splitB (58 : UInt8) s).getD 0 []) (numD ((splitB (58 : UInt8) s).getD 1 []))).2.1).length) cq7' 3 1 (((addrOf ((splitB (58 : UInt8) s).getD 0 []) (numD ((splitB (58 : UInt8) s).getD 1 []))).2.1).map I), .blk b1 43 [I ((addrOf ((splitB (58 : UInt8) s).getD 0 []) (numD ((splitB (58 : UInt8) s).getD 1 []))).1), .slice Aq7' (((addrOf ((splitB (58 : UInt8) s).getD 0 []) (numD ((splitB (58 : UInt8) s).getD 1 []))).2.1).length) cq7', Str ((addrOf ((splitB (58 : UInt8) s).getD 0 []) (numD ((splitB (58 : UInt8) s).getD 1 []))).2.2.1), I ((addrOf ((splitB (58 : UInt8) s).getD 0 []) (numD ((splitB (58 : UInt8) s).getD 1 []))).2.2.2)]] := hs43.pick [1, 3] rfl (by decide)
       refine rt (fret (v := .tuple #[.agg #[I ((addrOf ((splitB (58 : UInt8) s).getD 0 []) (numD ((splitB (58 : UInt8) s).getD 1 []))).1), .slice Aq7' (((addrOf ((splitB (58 : UInt8) s).getD 0 []) (numD ((splitB (58 : UInt8) s).getD 1 []))).2.1).length) cq7', Str ((addrOf ((splitB (58 : UInt8) s).getD 0 []) (numD ((splitB (58 : UInt8) s).getD 1 []))).2.2.1), I ((addrOf ((splitB (58 : UInt8) s).getD 0 []) (numD ((splitB (58 : UInt8) s).getD 1 []))).2.2.2)], .bool true]) (resC hs44 1 rfl rfl ag43 rfl (.tmp .nil)) rfl ?_)
       have e22 : addrFrom s = (((addrOf ((splitB (58 : UInt8) s).getD 0 []) (numD ((splitB (58 : UInt8) s).getD 1 []))).1, (addrOf ((splitB (58 : UInt8) s).getD 0 []) (numD ((splitB (58 : UInt8) s).getD 1 []))).2.1, (addrOf ((splitB (58 : UInt8) s).getD 0 []) (numD ((splitB (58 : UInt8) s).getD 1 []))).2.2.1, (addrOf ((splitB (58 : UInt8) s).getD 0 []) (numD ((splitB (58 : UInt8) s).getD 1 []))).2.2.2), true) := by exact addr_sy (by assumption) (by assumption) (by assumption)
       have e23 : (addrOf ((splitB (58 : UInt8) s).getD 0 []) (numD ((splitB (58 : UInt8) s).getD 1 []))).1 = (addrFrom s).1.1 := by rw [e22]
       have e24 : (addrOf ((splitB (58 : UInt8) s).getD 0 []) (numD ((splitB (58 : UInt8) s).getD 1 []))).2.1 = (addrFrom s).1.2.1 := by rw [e22]
       have e25 : ((addrOf ((splitB (58 : UInt8) s).getD 0 []) (numD ((splitB (58 : UInt8) s).getD 1 []))).2.1).length = ((addrFrom s).1.2.1).length := by exact congrArg List.length e24
       have e26 : (addrOf ((splitB (58 : UInt8) s).getD 0 []) (numD ((splitB (58 : UInt8) s).getD 1 []))).2.2.1 = (addrFrom s).1.2.2.1 := by rw [e22]
       have e27 : (addrOf ((splitB (58 : UInt8) s).getD 0 []) (numD ((splitB (58 : UInt8) s).getD 1 []))).2.2.2 = (addrFrom s).1.2.2.2 := by rw [e22]
       have e28 : true = (addrFrom s).2 := by rw [e22]
       exact ⟨Aq7', cq7', (tup2 (aggv (lc (congrArg (Value.int .i64) e23) (lc (slv rfl e25 rfl) (lc (congrArg (Str) e26) (lc (congrArg (Value.int .i64) e27) rfl))))) (congrArg (Value.bool) e28)), ((hs44.pick [0] rfl (by decide)).cast (lc (own_eq (g := I) rfl e25 rfl e24) rfl))⟩
theorem slIndexFuncL (p : Lg → Bool) {Azs : Option Addr} {czs : Nat} (zs : List (List UInt8 × List UInt8)) (kf : FuncId) (w : World) (hzs : Sl w [] 2 Azs zs.length czs (zs.flatMap gLogin)) (hzs_e : ∀ u ∈ zs, u.1.length ≤ 9223372036854775807 ∧ u.2.length ≤ 9223372036854775807) (hf : ∀ (x : Lg) (w : World) (_ : x.1.length ≤ 9223372036854775807 ∧ x.2.length ≤ 9223372036854775807), Does Tryz.prog kf [.agg #[Str x.1, Str x.2]] w (fun v w' => v = .bool (p x) ∧ SH w w' [] [])) : Does Tryz.prog 134 [.slice Azs zs.length czs, .func (.func kf) #[] #[]] w (fun v w' => v = .int .i64 (idxP p zs) ∧ SH w w' [] []) := by
 refine fn_enter (N := 19) Tryz.func134 rfl (by kernel_rfl) rfl rfl rfl ?_
 have hs0 : SH w w [] [] := SH.refl w []
 have hzs_m : zs.length ≤ 9223372036854775807 := Nat.le_trans hzs.cap hzs.capMax
 refine sq (rg (qt rfl (asg (v := I 0) rfl) (nl (nN (sq (sq (rg ?_)))))))
 refine qt rfl (mv (v := .slice Azs zs.length czs) rfl) (qt rfl (lnA (n := zs.length) sl27 rfl) (qt rfl (mv (v := I 0) rfl) (nl (nN (bl (lp (σ := Nat) (fun (k : Nat) f w' => Has f [(0, .slice Azs zs.length czs), (1, .func (.func kf) #[] #[]), (7, I ((zs.length : Nat) : Int)), (8, I ((k : Nat) : Int))] ∧ (k ≤ zs.length) ∧ (∀ j, j < k → p (zs.getD j login0) = false) ∧ SH w w' [] []) (fun k => zs.length - k) 0 ⟨⟨rfl, rfl, rfl, rfl, trivial⟩, (by simp), (by intro j hj; omega), hs0⟩ ?_))))))
 rintro k f w1 ⟨hf, hk, hn, hs1⟩
 obtain ⟨g1, rfl⟩ := has_upd hf
 clear hf
 refine sq (rg (qt rfl (lss (k := .i64) (a := ((k : Nat) : Int)) (b := ((zs.length : Nat) : Int)) rfl rfl) (nl (nN (sq ?_)))))
 refine cdd (p := ((k : Nat) : Int) < ((zs.length : Nat) : Int)) rfl (fun h1 => ?_) (fun h1 => ?_)
 · refine sk (nN (sq (bl (sq (rg (qt rfl (mv (v := I ((k : Nat) : Int)) rfl) (qt rfl (asg (v := I ((k : Nat) : Int)) rfl) ?_)))))))
   refine nl (nN (sq (rg (qt rfl (mv (v := .func (.func kf) #[] #[]) rfl) (qt rfl (mv (v := .slice Azs zs.length czs) rfl) (qt rfl (mv (v := I ((k : Nat) : Int)) rfl) (ixwf (g := gLogin) (zs := zs) (fun _ => rfl) login0 k sl27 rfl rfl hzs (by omega) (by omega) trivial rfl (fun a1 ha1 => ?_))))))))
   refine qt rfl (ldag (us := [Str ((zs.getD k login0).1), Str ((zs.getD k login0).2)]) hs1 ha1 (fun _ h => h) rfl rfl ag51) (clv (k := kf) trivial rfl rfl (hf (zs.getD k login0) _ (hzs_e _ (getD_mem' (by omega)))) ?_)
   rintro _ w2 ⟨rfl, hs2'⟩
   have hs2 := hs1.call0 hs2'
   clear hs2'
   refine nl (nN ?_)
   refine cd (b := p (zs.getD k login0)) rfl (fun h2 => ?_) (fun h2 => ?_)
   · refine sq (rg (qt rfl (mv (v := I ((k : Nat) : Int)) rfl) (qt rfl (asg (v := I ((k : Nat) : Int)) rfl) (nl (nN ?_)))))
     refine rt (bR (tR (tR (bR (tR ?_)))))
     refine fret (v := I ((k : Nat) : Int)) (.tmp .nil) rfl ?_
     have e1 : ((k : Nat) : Int) = idxP p zs := by exact idxP_eq (d := login0) (by omega) hn h2
     exact ⟨(congrArg (Value.int .i64) e1), hs2⟩
   · refine sk (bN (nN (rg (qt rfl (add (a := ((k : Nat) : Int)) (b := 1) rfl rfl (by exact ⟨by omega, by omega⟩)) (qt rfl (mv (v := I (((k : Nat) : Int) + 1)) rfl) (nl (nN ?_)))))))
     refine ⟨(k + 1), ⟨⟨rfl, rfl, rfl, rfl, trivial⟩, (by omega), (by intro j hj; rcases Nat.lt_succ_iff_lt_or_eq.1 hj with h | h; exact hn j h; subst h; exact h2), hs2⟩, ?_⟩
     omega
 · refine ex (tE (tE (bE ?_)))
   refine nN (sq (rg (qt rfl (asg (v := I (-1)) rfl) (nl (nN (rt (fret (v := I (-1)) (.tmp .nil) rfl ?_)))))))
   have e2 : (-1) = idxP p zs := by exact idxP_none (d := login0) (fun j hj => hn j (by omega))
   exact ⟨(congrArg (Value.int .i64) e2), hs1⟩
theorem slContainsFuncL (p : Lg → Bool) {Azs : Option Addr} {czs : Nat} (zs : List (List UInt8 × List UInt8)) (kf : FuncId) (w : World) (hzs : Sl w [] 2 Azs zs.length czs (zs.flatMap gLogin)) (hzs_e : ∀ u ∈ zs, u.1.length ≤ 9223372036854775807 ∧ u.2.length ≤ 9223372036854775807) (hf : ∀ (x : Lg) (w : World) (_ : x.1.length ≤ 9223372036854775807 ∧ x.2.length ≤ 9223372036854775807), Does Tryz.prog kf [.agg #[Str x.1, Str x.2]] w (fun v w' => v = .bool (p x) ∧ SH w w' [] [])) : Does Tryz.prog 77 [.slice Azs zs.length czs, .func (.func kf) #[] #[]] w (fun v w' => v = .bool (zs.any p) ∧ SH w w' [] []) := by
 refine fn_enter (N := 9) Tryz.func77 rfl (by kernel_rfl) rfl rfl rfl ?_
 have hs0 : SH w w [] [] := SH.refl w []
 have hzs_m : zs.length ≤ 9223372036854775807 := Nat.le_trans hzs.cap hzs.capMax
 refine sq (rg (qt rfl (asg (v := .bool false) rfl) (nl (nN (sq (rg (qt rfl (mv (v := .slice Azs zs.length czs) rfl) ?_)))))))
 refine qt rfl (mv (v := .func (.func kf) #[] #[]) rfl) (cl trivial rfl (slIndexFuncL (p := p) (Azs := Azs) (czs := czs) (zs := zs) (kf := kf) (w := _) (hzs := (hzs.up0 hs0)) (hzs_e := hzs_e) (hf := hf)) ?_)
 rintro _ w1 ⟨rfl, hs1'⟩
 have hs1 := hs0.call0 hs1'
 clear hs1'
 refine qt rfl (geq (k := .i64) (a := idxP p zs) (b := 0) rfl rfl) (qt rfl (asg (v := .bool (decide ((0 : Int) ≤ (idxP p zs)))) rfl) (nl (nN (rt (fret (v := .bool (decide ((0 : Int) ≤ (idxP p zs)))) (.tmp .nil) rfl ?_)))))
 have e1 : (decide ((0 : Int) ≤ (idxP p zs))) = zs.any p := by exact idxP_any p zs
 exact ⟨(congrArg (Value.bool) e1), hs1⟩
theorem iTV1 (m : Int) (w : World)  : Does Tryz.prog 76 [I m] w (fun v w' => v = .bool (decide (m ≠ 0 ∧ m ≠ 2)) ∧ SH w w' [] []) := by
 refine fn_enter (N := 9) Tryz.func76 rfl (by kernel_rfl) rfl rfl rfl ?_
 have hs0 : SH w w [] [] := SH.refl w []
 refine sq (rg (qt rfl (asg (v := .bool false) rfl) (nl (nN (sq (rg (qt rfl (mv (v := I m) rfl) ?_)))))))
 refine qt rfl (nei (k := .i64) (a := m) (b := 0) rfl rfl) (qt rfl (mv (v := .bool (decide (m ≠ 0))) rfl) ?_)
 refine spd (p := m ≠ 0) 5 rfl (fun h1 => ?_) (fun h1 => ?_)
 · refine q ⟨_, rfl, rfl⟩ rfl rfl (mv (v := I m) rfl) (q ⟨_, rfl, rfl⟩ rfl rfl (nei (k := .i64) (a := m) (b := 2) rfl rfl) (qt rfl (pt (v := .bool (decide (m ≠ 2))) rfl rfl) (qt rfl (asg (v := .bool (decide (m ≠ 2))) rfl) (nl (nN (rt (fret (v := .bool (decide (m ≠ 2))) (.tmp .nil) rfl ?_)))))))
   have e1 : (decide (m ≠ 2)) = (decide (m ≠ 0 ∧ m ≠ 2)) := by simp [h1]
   exact ⟨(congrArg (Value.bool) e1), hs0⟩
 · refine gk false rfl rfl rfl rfl rfl (gk false rfl rfl rfl rfl rfl (qt rfl (pf (v := .bool false) rfl rfl) (qt rfl (asg (v := .bool false) rfl) (nl (nN (rt (fret (v := .bool false) (.tmp .nil) rfl ?_)))))))
   have e2 : false = (decide (m ≠ 0 ∧ m ≠ 2)) := by simp [h1]
   exact ⟨(congrArg (Value.bool) e2), hs0⟩
theorem iTV2 (lu : List UInt8) (lw : List UInt8) (w : World) (hlu_n : lu.length ≤ 9223372036854775807) (hlw_n : lw.length ≤ 9223372036854775807) : Does Tryz.prog 78 [.agg #[Str lu, Str lw]] w (fun v w' => v = .bool (!loginOk lu lw) ∧ SH w w' [] []) := by
 refine fn_enter (N := 6) Tryz.func78 rfl (by kernel_rfl) rfl rfl rfl ?_
 have hs0 : SH w w [] [] := SH.refl w []
 refine sq (rg (bx (v := .agg #[Str lu, Str lw]) (cs := [Str lu, Str lw]) hs0 rfl rfl trivial rfl (fun b1 w1 (hs1 : SH w w1 [] [.blk b1 51 [Str lu, Str lw]]) => ?_)))
 refine qt rfl (asg (v := .bool false) rfl) (nl (nN (sq (rg (qt rfl (ldg (vs := [Str lu, Str lw]) hs1 0 rfl rfl rfl rfl ag51) (cl trivial rfl (iIsLogin (lu := lu) (lw := lw) (w := _) (hlu_n := (by omega)) (hlw_n := (by omega))) ?_))))))
 rintro _ w2 ⟨rfl, hs2'⟩
 have hs2 := hs1.call0 hs2'
 clear hs2'
 refine qt rfl (nt (b := loginOk lu lw) rfl) (qt rfl (asg (v := .bool (!(loginOk lu lw))) rfl) (nl (nN (rt (fret (v := .bool (!(loginOk lu lw))) (.tmp .nil) rfl ?_)))))
 have e1 : (!(loginOk lu lw)) = !loginOk lu lw := by rfl
 exact ⟨(congrArg (Value.bool) e1), (hs2.pick [] rfl (by decide))⟩
theorem iTalkValid (sx : Int) {Awt : Option Addr} {cwt : Nat} (wt : List Int) {Alg : Option Addr} {clg : Nat} (lg : List (List UInt8 × List UInt8)) (to : List UInt8) (w : World) (hwt : Sl w [] 1 Awt wt.length cwt (wt.map I)) (hlg : Sl w [] 2 Alg lg.length clg (lg.flatMap gLogin)) (hlg_e : ∀ u ∈ lg, u.1.length ≤ 9223372036854775807 ∧ u.2.length ≤ 9223372036854775807) (hto_n : to.length ≤ 1099511627776) (hGp : VarP Tryz.prog w [] "internal/strconv.uint64pow10" isPow) (hEr : VarP Tryz.prog w [] "strconv.ErrRange" isIfc) (hEs : VarP Tryz.prog w [] "strconv.ErrSyntax" isIfc) : Does Tryz.prog 31 [.agg #[I sx, .slice Awt wt.length cwt, .slice Alg lg.length clg, Str to]] w (fun v w' => v = .bool (talkOk sx wt lg to) ∧ SH w w' [] []) := by
 refine fn_enter (N := 51) Tryz.func31 rfl (by kernel_rfl) rfl rfl rfl ?_
 have hs0 : SH w w [] [] := SH.refl w []
 have hwt_m : wt.length ≤ 9223372036854775807 := Nat.le_trans hwt.cap hwt.capMax
 have hlg_m : lg.length ≤ 9223372036854775807 := Nat.le_trans hlg.cap hlg.capMax
 refine sq (rg (bx (v := .agg #[I sx, .slice Awt wt.length cwt, .slice Alg lg.length clg, Str to]) (cs := [I sx, .slice Awt wt.length cwt, .slice Alg lg.length clg, Str to]) hs0 rfl rfl trivial rfl (fun b1 w1 (hs1 : SH w w1 [] [.blk b1 29 [I sx, .slice Awt wt.length cwt, .slice Alg lg.length clg, Str to]]) => ?_)))
 refine qt rfl (asg (v := .bool false) rfl) (nl (nN (sq (sq (rg (qt rfl (fa 0 fo29_0 rfl) (qt rfl (ld (v := I sx) hs1 0 rfl rfl rfl one3) ?_)))))))
 refine cl trivial rfl (iWithin (x := sx) (lo := 0) (hi := 4) (w := _)) ?_
 rintro _ w2 ⟨rfl, hs2'⟩
 have hs2 := hs1.call0 hs2'
 clear hs2'
 refine qt rfl (nd (p := 0 ≤ sx ∧ sx ≤ 4) rfl) (qt rfl (mv (v := .bool (decide (¬ (0 ≤ sx ∧ sx ≤ 4)))) rfl) ?_)
 refine spd (p := ¬ (0 ≤ sx ∧ sx ≤ 4)) 9 rfl (fun h1 => ?_) (fun h1 => ?_)
 · refine gk true rfl rfl rfl rfl rfl (gk true rfl rfl rfl rfl rfl (gk true rfl rfl rfl rfl rfl (gk true rfl rfl rfl rfl rfl (qt rfl (pt (v := .bool true) rfl rfl) (qt rfl (mv (v := .bool true) rfl) (gk true rfl rfl rfl rfl rfl (gk true rfl rfl rfl rfl rfl ?_)))))))
   refine gk true rfl rfl rfl rfl rfl (gk true rfl rfl rfl rfl rfl (qt rfl (pt (v := .bool true) rfl rfl) (nl (nN (cdt rfl (sq (rg ?_)))))))
   refine qt rfl (asg (v := .bool false) rfl) (nl (nN (rt (tR ?_))))
   refine fret (v := .bool false) (.tmp .nil) rfl ?_
   have e1 : false = talkOk sx wt lg to := by exact talk_no1 (by assumption)
   exact ⟨(congrArg (Value.bool) e1), (hs2.pick [] rfl (by decide))⟩
 · refine q ⟨_, rfl, rfl⟩ rfl rfl (fa 1 fo29_1 rfl) (q ⟨_, rfl, rfl⟩ rfl rfl (ld (v := .slice Awt wt.length cwt) hs2 0 rfl rfl rfl one22) (cl ⟨_, rfl, rfl⟩ rfl (iAreMethods (Ams := Awt) (cms := cwt) (ms := wt) (w := _) (hms := (hwt.up0 hs2))) ?_))
   rintro _ w3 ⟨rfl, hs3'⟩
   have hs3 := hs2.call0 hs3'
   clear hs3'
   refine q ⟨_, rfl, rfl⟩ rfl rfl (nt (b := methOk wt) rfl) (qt rfl (pf (v := .bool (!(methOk wt))) rfl rfl) (qt rfl (mv (v := .bool (!(methOk wt))) rfl) ?_))
   refine spl (b := !(methOk wt)) 15 rfl (fun h2 => ?_) (fun h2 => ?_)
   · have h3 : (methOk wt) = false := by simpa using h2
     refine gk true rfl rfl rfl rfl rfl (gk true rfl rfl rfl rfl rfl (gk true rfl rfl rfl rfl rfl (gk true rfl rfl rfl rfl rfl (qt rfl (pt (v := .bool true) rfl rfl) (nl (nN (cdt rfl ?_)))))))
     refine sq (rg (qt rfl (asg (v := .bool false) rfl) (nl (nN (rt (tR ?_))))))
     refine fret (v := .bool false) (.tmp .nil) rfl ?_
     have e2 : false = talkOk sx wt lg to := by exact talk_no2 (by assumption)
     exact ⟨(congrArg (Value.bool) e2), (hs3.pick [] rfl (by decide))⟩
   · have h4 : (methOk wt) = true := by simpa using h2
     refine q ⟨_, rfl, rfl⟩ rfl rfl (fa 2 fo29_2 rfl) (q ⟨_, rfl, rfl⟩ rfl rfl (ld (v := .slice Alg lg.length clg) hs3 0 rfl rfl rfl one27) (q ⟨_, rfl, rfl⟩ rfl rfl (lnA (n := lg.length) sl27 rfl) (q ⟨_, rfl, rfl⟩ rfl rfl (gtr (k := .i64) (a := ((lg.length : Nat) : Int)) (b := 4) rfl rfl) (qt rfl (pf (v := .bool (decide ((4 : Int) < ((lg.length : Nat) : Int)))) rfl rfl) (nl (nN ?_))))))
     refine cdd (p := (4 : Int) < ((lg.length : Nat) : Int)) rfl (fun h5 => ?_) (fun h5 => ?_)
     · refine sq (rg (qt rfl (asg (v := .bool false) rfl) (nl (nN (rt (tR ?_))))))
       refine fret (v := .bool false) (.tmp .nil) rfl ?_
       have e3 : false = talkOk sx wt lg to := by exact talk_no3 (by assumption)
       exact ⟨(congrArg (Value.bool) e3), (hs3.pick [] rfl (by decide))⟩
     · refine sk (nN (sq (sq (rg (qt rfl (fa 1 fo29_1 rfl) (qt rfl (ld (v := .slice Awt wt.length cwt) hs3 0 rfl rfl rfl one22) (cl trivial rfl (slContainsFunc (p := (fun m => (decide (m ≠ 0 ∧ m ≠ 2)))) (Azs := Awt) (czs := cwt) (zs := wt) (kf := 76) (w := _) (hzs := (hwt.up0 hs3)) (hf := (fun x w => iTV1 x w))) ?_)))))))
       rintro _ w4 ⟨rfl, hs4'⟩
       have hs4 := hs3.call0 hs4'
       clear hs4'
       refine qt rfl (mv (v := .bool (wt.any (fun m => (decide (m ≠ 0 ∧ m ≠ 2))))) rfl) ?_
       refine spl (b := wt.any (fun m => (decide (m ≠ 0 ∧ m ≠ 2)))) 24 rfl (fun h6 => ?_) (fun h6 => ?_)
       · refine gk true rfl rfl rfl rfl rfl (gk true rfl rfl rfl rfl rfl (gk true rfl rfl rfl rfl rfl (qt rfl (pt (v := .bool true) rfl rfl) (nl (nN (cdt rfl (sq ?_)))))))
         refine rg (qt rfl (asg (v := .bool false) rfl) (nl (nN (rt (tR ?_)))))
         refine fret (v := .bool false) (.tmp .nil) rfl ?_
         have e4 : false = talkOk sx wt lg to := by exact talk_no4 (by assumption)
         exact ⟨(congrArg (Value.bool) e4), (hs4.pick [] rfl (by decide))⟩
       · refine q ⟨_, rfl, rfl⟩ rfl rfl (fa 2 fo29_2 rfl) (q ⟨_, rfl, rfl⟩ rfl rfl (ld (v := .slice Alg lg.length clg) hs4 0 rfl rfl rfl one27) (cl ⟨_, rfl, rfl⟩ rfl (slContainsFuncL (p := (fun x => (!loginOk x.1 x.2))) (Azs := Alg) (czs := clg) (zs := lg) (kf := 78) (w := _) (hzs := (hlg.up0 hs4)) (hzs_e := hlg_e) (hf := (fun x w hx => iTV2 (lu := x.1) (lw := x.2) w hx.1 hx.2))) ?_))
         rintro _ w5 ⟨rfl, hs5'⟩
         have hs5 := hs4.call0 hs5'
         clear hs5'
         refine qt rfl (pf (v := .bool (lg.any (fun x => (!loginOk x.1 x.2)))) rfl rfl) (nl (nN ?_))
         refine cd (b := lg.any (fun x => (!loginOk x.1 x.2))) rfl (fun h7 => ?_) (fun h7 => ?_)
         · refine sq (rg (qt rfl (asg (v := .bool false) rfl) (nl (nN (rt (tR ?_))))))
           refine fret (v := .bool false) (.tmp .nil) rfl ?_
           have e5 : false = talkOk sx wt lg to := by exact talk_no5 (by assumption)
           exact ⟨(congrArg (Value.bool) e5), (hs5.pick [] rfl (by decide))⟩
         · refine sk (nN (sq (sq (rg (qt rfl (fa 0 fo29_0 rfl) (qt rfl (ld (v := I sx) hs5 0 rfl rfl rfl one3) (qt rfl (eqi (k := .i64) (a := sx) (b := 1) rfl rfl) ?_)))))))
           refine qt rfl (mv (v := .bool (decide (sx = 1))) rfl) ?_
           refine spd (p := sx = 1) 32 rfl (fun h8 => ?_) (fun h8 => ?_)
           · refine q ⟨_, rfl, rfl⟩ rfl rfl (fa 1 fo29_1 rfl) (q ⟨_, rfl, rfl⟩ rfl rfl (ld (v := .slice Awt wt.length cwt) hs5 0 rfl rfl rfl one22) (cl ⟨_, rfl, rfl⟩ rfl (slContains (Azs := Awt) (czs := cwt) (zs := wt) (n := 2) (w := _) (hzs := (hwt.up0 hs5))) ?_))
             rintro _ w6 ⟨rfl, hs6'⟩
             have hs6 := hs5.call0 hs6'
             clear hs6'
             refine q ⟨_, rfl, rfl⟩ rfl rfl (nd (p := 2 ∈ wt) rfl) (qt rfl (pt (v := .bool (decide (¬ (2 ∈ wt)))) rfl rfl) (nl (nN ?_)))
             refine cdd (p := ¬ (2 ∈ wt)) rfl (fun h9 => ?_) (fun h9 => ?_)
             · refine sq (rg (qt rfl (asg (v := .bool false) rfl) (nl (nN (rt (tR ?_))))))
               refine fret (v := .bool false) (.tmp .nil) rfl ?_
               have e6 : false = talkOk sx wt lg to := by exact talk_no6 (by assumption) (by assumption)
               exact ⟨(congrArg (Value.bool) e6), (hs6.pick [] rfl (by decide))⟩
             · refine sk (nN (sq (sq (rg (qt rfl (fa 0 fo29_0 rfl) (qt rfl (ld (v := I sx) hs6 0 rfl rfl rfl one3) (qt rfl (eqi (k := .i64) (a := sx) (b := 3) rfl rfl) ?_)))))))
               refine nl (nN ?_)
               refine cdd (p := sx = 3) rfl (fun h10 => ?_) (fun h10 => ?_)
               · refine sq (rg (qt rfl (fa 3 fo29_3 rfl) (qt rfl (ld (v := Str to) hs6 0 rfl rfl rfl one9) (cl trivial rfl (iAddressFrom (s := to) (w := _) (hs_n := (by omega)) (hGp := (hGp.up0 hs6)) (hEr := (hEr.up0 hs6)) (hEs := (hEs.up0 hs6))) ?_))))
                 rintro _ w7 ⟨Aq1, cq1, rfl, hs7'⟩
                 have hs7 := hs6.call0 hs7'
                 clear hs7'
                 refine qt rfl (mv (v := .tuple #[.agg #[I ((addrFrom to).1.1), .slice Aq1 (((addrFrom to).1.2.1).length) cq1, Str ((addrFrom to).1.2.2.1), I ((addrFrom to).1.2.2.2)], .bool ((addrFrom to).2)]) rfl) (qt rfl (xt 0 (v := .agg #[I ((addrFrom to).1.1), .slice Aq1 (((addrFrom to).1.2.1).length) cq1, Str ((addrFrom to).1.2.2.1), I ((addrFrom to).1.2.2.2)]) rfl rfl) (qt rfl (xt 1 (v := .bool ((addrFrom to).2)) rfl rfl) (al (v := .agg #[I 0, ns, Str [], I 0]) (cs := [I 0, ns, Str [], I 0]) hs7 tz43 rfl trivial rfl (fun b2 w8 (hs8 : SH w w8 [] [.blk b1 29 [I sx, .slice Awt wt.length cwt, .slice Alg lg.length clg, Str to], .own Aq1 (((addrFrom to).1.2.1).length) cq1 3 1 (((addrFrom to).1.2.1).map I), .blk b2 43 [I 0, ns, Str [], I 0]]) => ?_))))
                 refine stg (vs := [I ((addrFrom to).1.1), .slice Aq1 (((addrFrom to).1.2.1).length) cq1, Str ((addrFrom to).1.2.2.1), I ((addrFrom to).1.2.2.2)]) hs8 2 rfl rfl rfl rfl rfl rfl rfl ag43 trivial (fun w9 (hs9 : SH w w9 [] [.blk b1 29 [I sx, .slice Awt wt.length cwt, .slice Alg lg.length clg, Str to], .own Aq1 (((addrFrom to).1.2.1).length) cq1 3 1 (((addrFrom to).1.2.1).map I), .blk b2 43 [I ((addrFrom to).1.1), .slice Aq1 (((addrFrom to).1.2.1).length) cq1, Str ((addrFrom to).1.2.2.1), I ((addrFrom to).1.2.2.2)]]) => ?_)
                 refine qt rfl (asg (v := .bool ((addrFrom to).2)) rfl) (nl (nN (sq (rg (qt rfl (mv (v := .bool ((addrFrom to).2)) rfl) (qt rfl (asg (v := .bool ((addrFrom to).2)) rfl) (nl ?_)))))))
                 refine nN (rt (tR ?_))
                 refine fret (v := .bool ((addrFrom to).2)) (.tmp .nil) rfl ?_
                 have e7 : ((addrFrom to).2) = talkOk sx wt lg to := by exact talk_y3 (by first | assumption | exact Decidable.not_not.1 (by assumption)) (by assumption) (by assumption) (by assumption) (by assumption) (by intro q; first | exact absurd q (by assumption) | exact Decidable.not_not.1 (by assumption)) (by assumption)
                 exact ⟨(congrArg (Value.bool) e7), (hs9.pick [] rfl (by decide))⟩
               · refine sk (nN (sq (rg (qt rfl (fa 3 fo29_3 rfl) (qt rfl (ld (v := Str to) hs6 0 rfl rfl rfl one9) (qt rfl (eqs (l := to) (m := []) rfl rfl) (qt rfl (asg (v := .bool (decide (to = []))) rfl) ?_)))))))
                 refine nl (nN (rt (fret (v := .bool (decide (to = []))) (.tmp .nil) rfl ?_)))
                 have e8 : (decide (to = [])) = talkOk sx wt lg to := by exact talk_yn (by first | assumption | exact Decidable.not_not.1 (by assumption)) (by assumption) (by assumption) (by assumption) (by assumption) (by intro q; first | exact absurd q (by assumption) | exact Decidable.not_not.1 (by assumption)) (by assumption)
                 exact ⟨(congrArg (Value.bool) e8), (hs6.pick [] rfl (by decide))⟩
           · refine gk false rfl rfl rfl rfl rfl (gk false rfl rfl rfl rfl rfl (gk false rfl rfl rfl rfl rfl (gk false rfl rfl rfl rfl rfl (qt rfl (pf (v := .bool false) rfl rfl) (nl (nN (cdf rfl ?_)))))))
             refine sk (nN (sq (sq (rg (qt rfl (fa 0 fo29_0 rfl) (qt rfl (ld (v := I sx) hs5 0 rfl rfl rfl one3) (qt rfl (eqi (k := .i64) (a := sx) (b := 3) rfl rfl) ?_)))))))
             refine nl (nN ?_)
             refine cdd (p := sx = 3) rfl (fun h11 => ?_) (fun h11 => ?_)
             · refine sq (rg (qt rfl (fa 3 fo29_3 rfl) (qt rfl (ld (v := Str to) hs5 0 rfl rfl rfl one9) (cl trivial rfl (iAddressFrom (s := to) (w := _) (hs_n := (by omega)) (hGp := (hGp.up0 hs5)) (hEr := (hEr.up0 hs5)) (hEs := (hEs.up0 hs5))) ?_))))
               rintro _ w10 ⟨Aq2, cq2, rfl, hs10'⟩
               have hs10 := hs5.call0 hs10'
               clear hs10'
               refine qt rfl (mv (v := .tuple #[.agg #[I ((addrFrom to).1.1), .slice Aq2 (((addrFrom to).1.2.1).length) cq2, Str ((addrFrom to).1.2.2.1), I ((addrFrom to).1.2.2.2)], .bool ((addrFrom to).2)]) rfl) (qt rfl (xt 0 (v := .agg #[I ((addrFrom to).1.1), .slice Aq2 (((addrFrom to).1.2.1).length) cq2, Str ((addrFrom to).1.2.2.1), I ((addrFrom to).1.2.2.2)]) rfl rfl) (qt rfl (xt 1 (v := .bool ((addrFrom to).2)) rfl rfl) (al (v := .agg #[I 0, ns, Str [], I 0]) (cs := [I 0, ns, Str [], I 0]) hs10 tz43 rfl trivial rfl (fun b3 w11 (hs11 : SH w w11 [] [.blk b1 29 [I sx, .slice Awt wt.length cwt, .slice Alg lg.length clg, Str to], .own Aq2 (((addrFrom to).1.2.1).length) cq2 3 1 (((addrFrom to).1.2.1).map I), .blk b3 43 [I 0, ns, Str [], I 0]]) => ?_))))
               refine stg (vs := [I ((addrFrom to).1.1), .slice Aq2 (((addrFrom to).1.2.1).length) cq2, Str ((addrFrom to).1.2.2.1), I ((addrFrom to).1.2.2.2)]) hs11 2 rfl rfl rfl rfl rfl rfl rfl ag43 trivial (fun w12 (hs12 : SH w w12 [] [.blk b1 29 [I sx, .slice Awt wt.length cwt, .slice Alg lg.length clg, Str to], .own Aq2 (((addrFrom to).1.2.1).length) cq2 3 1 (((addrFrom to).1.2.1).map I), .blk b3 43 [I ((addrFrom to).1.1), .slice Aq2 (((addrFrom to).1.2.1).length) cq2, Str ((addrFrom to).1.2.2.1), I ((addrFrom to).1.2.2.2)]]) => ?_)
               refine qt rfl (asg (v := .bool ((addrFrom to).2)) rfl) (nl (nN (sq (rg (qt rfl (mv (v := .bool ((addrFrom to).2)) rfl) (qt rfl (asg (v := .bool ((addrFrom to).2)) rfl) (nl ?_)))))))
               refine nN (rt (tR ?_))
               refine fret (v := .bool ((addrFrom to).2)) (.tmp .nil) rfl ?_
               have e9 : ((addrFrom to).2) = talkOk sx wt lg to := by exact talk_y3 (by first | assumption | exact Decidable.not_not.1 (by assumption)) (by assumption) (by assumption) (by assumption) (by assumption) (by intro q; first | exact absurd q (by assumption) | exact Decidable.not_not.1 (by assumption)) (by assumption)
               exact ⟨(congrArg (Value.bool) e9), (hs12.pick [] rfl (by decide))⟩
             · refine sk (nN (sq (rg (qt rfl (fa 3 fo29_3 rfl) (qt rfl (ld (v := Str to) hs5 0 rfl rfl rfl one9) (qt rfl (eqs (l := to) (m := []) rfl rfl) (qt rfl (asg (v := .bool (decide (to = []))) rfl) ?_)))))))
               refine nl (nN (rt (fret (v := .bool (decide (to = []))) (.tmp .nil) rfl ?_)))
               have e10 : (decide (to = [])) = talkOk sx wt lg to := by exact talk_yn (by first | assumption | exact Decidable.not_not.1 (by assumption)) (by assumption) (by assumption) (by assumption) (by assumption) (by intro q; first | exact absurd q (by assumption) | exact Decidable.not_not.1 (by assumption)) (by assumption)
               exact ⟨(congrArg (Value.bool) e10), (hs5.pick [] rfl (by decide))⟩
theorem sL23Ok {Awt : Option Addr} {cwt : Nat} (wt : List Int) {Alg : Option Addr} {clg : Nat} (lg : List (List UInt8 × List UInt8)) (w : World) (hwt : Sl w [] 1 Awt wt.length cwt (wt.map I)) (hlg : Sl w [] 2 Alg lg.length clg (lg.flatMap gLogin)) (hlg_e : ∀ u ∈ lg, u.1.length ≤ 9223372036854775807 ∧ u.2.length ≤ 9223372036854775807) : Does Tryz.prog 91 [.slice Awt wt.length cwt, .slice Alg lg.length clg] w (fun v w' => v = .bool (wlOk wt lg) ∧ SH w w' [] []) := by
 refine fn_enter (N := 44) Tryz.func91 rfl (by kernel_rfl) rfl rfl rfl ?_
 have hs0 : SH w w [] [] := SH.refl w []
 have hwt_m : wt.length ≤ 9223372036854775807 := Nat.le_trans hwt.cap hwt.capMax
 have hlg_m : lg.length ≤ 9223372036854775807 := Nat.le_trans hlg.cap hlg.capMax
 refine sq (rg (qt rfl (asg (v := .bool false) rfl) (nl (nN (sq (sq (rg ?_)))))))
 refine qt rfl (asg (v := I 0) rfl) (nl (nN (bl (lp (σ := Nat) (fun (j : Nat) f w' => Has f [(0, .slice Awt wt.length cwt), (1, .slice Alg lg.length clg), (5, I ((j : Nat) : Int))] ∧ (j ≤ wt.length) ∧ ((wt.take j).all (fun m => decide (m = 0 ∨ m = 2)) = true) ∧ SH w w' [] []) (fun j => wt.length - j) 0 ⟨⟨rfl, rfl, rfl, trivial⟩, (by simp), (by simp), hs0⟩ ?_))))
 rintro j f w1 ⟨hf, hj, ha, hs1⟩
 obtain ⟨g1, rfl⟩ := has_upd hf
 clear hf
 refine sq (sq (rg (qt rfl (mv (v := I ((j : Nat) : Int)) rfl) (qt rfl (mv (v := .slice Awt wt.length cwt) rfl) (qt rfl (lnA (n := wt.length) sl22 rfl) (qt rfl (lss (k := .i64) (a := ((j : Nat) : Int)) (b := ((wt.length : Nat) : Int)) rfl rfl) (nl ?_)))))))
 refine nN ?_
 refine cdd (p := ((j : Nat) : Int) < ((wt.length : Nat) : Int)) rfl (fun h1 => ?_) (fun h1 => ?_)
 · refine sk (nN (sq (bl (sq (rg (qt rfl (mv (v := .slice Awt wt.length cwt) rfl) (qt rfl (mv (v := I ((j : Nat) : Int)) rfl) ?_)))))))
   refine ixw1 j sl22 rfl rfl hwt (by (first | omega | (simp; done) | (simp; omega))) (getm I 0 (by (first | omega | (simp; done) | (simp; omega)))) trivial rfl (fun a1 ha1 => ?_)
   refine qt rfl (lda (v := I (wt.getD j 0)) hs1 ha1 (fun _ h => h) rfl rfl one3) (qt rfl (nei (k := .i64) (a := wt.getD j 0) (b := 0) rfl rfl) (qt rfl (mv (v := .bool (decide ((wt.getD j 0) ≠ 0))) rfl) ?_))
   refine spd (p := (wt.getD j 0) ≠ 0) 18 rfl (fun h2 => ?_) (fun h2 => ?_)
   · refine q ⟨_, rfl, rfl⟩ rfl rfl (mv (v := .slice Awt wt.length cwt) rfl) (q ⟨_, rfl, rfl⟩ rfl rfl (mv (v := I ((j : Nat) : Int)) rfl) (ixw1 j sl22 rfl rfl hwt (by (first | omega | (simp; done) | (simp; omega))) (getm I 0 (by (first | omega | (simp; done) | (simp; omega)))) ⟨_, rfl, rfl⟩ rfl (fun a2 ha2 => ?_)))
     refine q ⟨_, rfl, rfl⟩ rfl rfl (lda (v := I (wt.getD j 0)) hs1 ha2 (fun _ h => h) rfl rfl one3) (q ⟨_, rfl, rfl⟩ rfl rfl (nei (k := .i64) (a := wt.getD j 0) (b := 2) rfl rfl) (qt rfl (pt (v := .bool (decide ((wt.getD j 0) ≠ 2))) rfl rfl) (nl (nN ?_))))
     refine cdd (p := (wt.getD j 0) ≠ 2) rfl (fun h3 => ?_) (fun h3 => ?_)
     · refine sq (rg (qt rfl (asg (v := .bool false) rfl) (nl (nN ?_))))
       refine rt (bR (tR (tR (bR (tR ?_)))))
       refine fret (v := .bool false) (.tmp .nil) rfl ?_
       have e1 : false = wlOk wt lg := by exact wl_bad1 (k := j) (by omega) ⟨by assumption, by assumption⟩
       exact ⟨(congrArg (Value.bool) e1), hs1⟩
     · refine sk (bN (nN (rg (qt rfl (mv (v := I ((j : Nat) : Int)) rfl) (qt rfl (add (a := ((j : Nat) : Int)) (b := 1) rfl rfl (by (exact ⟨by omega, by omega⟩))) (qt rfl (asg (v := I (((j : Nat) : Int) + 1)) rfl) (nl ?_)))))))
       refine nN ?_
       refine ⟨(j + 1), ⟨⟨rfl, rfl, rfl, trivial⟩, (by omega), (all_step (d := 0) (by omega) ha (by simp only [decide_eq_true_eq]; omega)), hs1⟩, ?_⟩
       omega
   · refine gk false rfl rfl rfl rfl rfl (gk false rfl rfl rfl rfl rfl (gk false rfl rfl rfl rfl rfl (gk false rfl rfl rfl rfl rfl (gk false rfl rfl rfl rfl rfl (qt rfl (pf (v := .bool false) rfl rfl) (nl (nN ?_)))))))
     refine cdf rfl (sk (bN (nN (rg (qt rfl (mv (v := I ((j : Nat) : Int)) rfl) (qt rfl (add (a := ((j : Nat) : Int)) (b := 1) rfl rfl (by (exact ⟨by omega, by omega⟩))) (qt rfl (asg (v := I (((j : Nat) : Int) + 1)) rfl) ?_)))))))
     refine nl (nN ?_)
     refine ⟨(j + 1), ⟨⟨rfl, rfl, rfl, trivial⟩, (by omega), (all_step (d := 0) (by omega) ha (by simp only [decide_eq_true_eq]; omega)), hs1⟩, ?_⟩
     omega
 · refine ex (tE (tE (bE ?_)))
   refine nN (sq (sq (rg (qt rfl (asg (v := I 0) rfl) (nl (nN (bl ?_)))))))
   refine lp (σ := Nat) (fun (k : Nat) f w' => Has f [(0, .slice Awt wt.length cwt), (1, .slice Alg lg.length clg), (6, I ((k : Nat) : Int))] ∧ (k ≤ lg.length) ∧ ((lg.take k).all lgOk = true) ∧ SH w w' [] []) (fun k => lg.length - k) 0 ⟨⟨rfl, rfl, rfl, trivial⟩, (by simp), (by simp), hs1⟩ ?_
   rintro k f w2 ⟨hf, hk, hb, hs2⟩
   obtain ⟨g2, rfl⟩ := has_upd hf
   clear hf
   refine sq (sq (rg (qt rfl (mv (v := I ((k : Nat) : Int)) rfl) (qt rfl (mv (v := .slice Alg lg.length clg) rfl) (qt rfl (lnA (n := lg.length) sl27 rfl) (qt rfl (lss (k := .i64) (a := ((k : Nat) : Int)) (b := ((lg.length : Nat) : Int)) rfl rfl) (nl ?_)))))))
   refine nN ?_
   refine cdd (p := ((k : Nat) : Int) < ((lg.length : Nat) : Int)) rfl (fun h4 => ?_) (fun h4 => ?_)
   · refine sk (nN (sq (bl (sq (rg (qt rfl (mv (v := .slice Alg lg.length clg) rfl) (qt rfl (mv (v := I ((k : Nat) : Int)) rfl) ?_)))))))
     refine ixwf (g := gLogin) (zs := lg) (fun _ => rfl) login0 k sl27 rfl rfl hlg (by (first | omega | (simp; done) | (simp; omega))) (by (first | omega | (simp; done) | (simp; omega))) trivial rfl (fun a3 ha3 => ?_)
     refine qt rfl (ldag (us := [Str ((lg.getD k login0).1), Str ((lg.getD k login0).2)]) hs2 ha3 (fun _ h => h) rfl rfl ag51) (cl trivial rfl (sL11Ok (lu := (lg.getD k login0).1) (lw := (lg.getD k login0).2) (w := _) (hlu_n := (by (have hre := hlg_e _ (getD_mem' (d := login0) (show k < lg.length by omega)); first | omega | (simp; done) | (simp; omega)))) (hlw_n := (by (have hre := hlg_e _ (getD_mem' (d := login0) (show k < lg.length by omega)); first | omega | (simp; done) | (simp; omega))))) ?_)
     rintro _ w3 ⟨rfl, hs3'⟩
     have hs3 := hs2.call0 hs3'
     clear hs3'
     refine qt rfl (nt (b := loginOk ((lg.getD k login0).1) ((lg.getD k login0).2)) rfl) (nl (nN ?_))
     refine cd (b := !(loginOk ((lg.getD k login0).1) ((lg.getD k login0).2))) rfl (fun h5 => ?_) (fun h5 => ?_)
     · have h6 : (loginOk ((lg.getD k login0).1) ((lg.getD k login0).2)) = false := by simpa using h5
       refine sq (rg (qt rfl (asg (v := .bool false) rfl) (nl (nN ?_))))
       refine rt (bR (tR (tR (bR (tR ?_)))))
       refine fret (v := .bool false) (.tmp .nil) rfl ?_
       have e2 : false = wlOk wt lg := by exact wl_bad2 (k := k) (by omega) (by assumption)
       exact ⟨(congrArg (Value.bool) e2), hs3⟩
     · have h7 : (loginOk ((lg.getD k login0).1) ((lg.getD k login0).2)) = true := by simpa using h5
       refine sk (bN (nN (rg (qt rfl (mv (v := I ((k : Nat) : Int)) rfl) (qt rfl (add (a := ((k : Nat) : Int)) (b := 1) rfl rfl (by (exact ⟨by omega, by omega⟩))) (qt rfl (asg (v := I (((k : Nat) : Int) + 1)) rfl) (nl ?_)))))))
       refine nN ?_
       refine ⟨(k + 1), ⟨⟨rfl, rfl, rfl, trivial⟩, (by omega), (all_step (d := login0) (by omega) hb (by assumption)), hs3⟩, ?_⟩
       omega
   · refine ex (tE (tE (bE ?_)))
     refine nN (sq (rg (qt rfl (mv (v := .slice Awt wt.length cwt) rfl) (cl trivial rfl (sL5Ok (Ams := Awt) (cms := cwt) (ms := wt) (w := _) (hms := (hwt.up0 hs2))) ?_))))
     rintro _ w4 ⟨rfl, hs4'⟩
     have hs4 := hs2.call0 hs4'
     clear hs4'
     refine qt rfl (mv (v := .bool (methOk wt)) rfl) ?_
     refine spl (b := methOk wt) 39 rfl (fun h8 => ?_) (fun h8 => ?_)
     · refine q ⟨_, rfl, rfl⟩ rfl rfl (mv (v := .slice Alg lg.length clg) rfl) (q ⟨_, rfl, rfl⟩ rfl rfl (lnA (n := lg.length) sl27 rfl) (q ⟨_, rfl, rfl⟩ rfl rfl (leq (k := .i64) (a := ((lg.length : Nat) : Int)) (b := 4) rfl rfl) (qt rfl (pt (v := .bool (decide (((lg.length : Nat) : Int) ≤ 4))) rfl rfl) (qt rfl (asg (v := .bool (decide (((lg.length : Nat) : Int) ≤ 4))) rfl) (nl (nN (rt ?_)))))))
       refine fret (v := .bool (decide (((lg.length : Nat) : Int) ≤ 4))) (.tmp .nil) rfl ?_
       have e3 : (decide (((lg.length : Nat) : Int) ≤ 4)) = wlOk wt lg := by (rw [← wl_end (j := j) (k := k) (by omega) (by omega) ha hb]; simp [h1, h4, h8]; try omega)
       exact ⟨(congrArg (Value.bool) e3), hs4⟩
     · refine gk false rfl rfl rfl rfl rfl (gk false rfl rfl rfl rfl rfl (gk false rfl rfl rfl rfl rfl (qt rfl (pf (v := .bool false) rfl rfl) (qt rfl (asg (v := .bool false) rfl) (nl (nN (rt ?_)))))))
       refine fret (v := .bool false) (.tmp .nil) rfl ?_
       have e4 : false = wlOk wt lg := by (rw [← wl_end (j := j) (k := k) (by omega) (by omega) ha hb]; simp [h1, h4, h8]; try omega)
       exact ⟨(congrArg (Value.bool) e4), hs4⟩
theorem sTalkValid (sx : Int) {Awt : Option Addr} {cwt : Nat} (wt : List Int) {Alg : Option Addr} {clg : Nat} (lg : List (List UInt8 × List UInt8)) (to : List UInt8) (w : World) (hwt : Sl w [] 1 Awt wt.length cwt (wt.map I)) (hlg : Sl w [] 2 Alg lg.length clg (lg.flatMap gLogin)) (hlg_e : ∀ u ∈ lg, u.1.length ≤ 9223372036854775807 ∧ u.2.length ≤ 9223372036854775807) (hto_n : to.length ≤ 1099511627776) : Does Tryz.prog 40 [.agg #[I sx, .slice Awt wt.length cwt, .slice Alg lg.length clg, Str to]] w (fun v w' => v = .bool (talkOk sx wt lg to) ∧ SH w w' [] []) := by
 refine fn_enter (N := 45) Tryz.func40 rfl (by kernel_rfl) rfl rfl rfl ?_
 have hs0 : SH w w [] [] := SH.refl w []
 have hwt_m : wt.length ≤ 9223372036854775807 := Nat.le_trans hwt.cap hwt.capMax
 have hlg_m : lg.length ≤ 9223372036854775807 := Nat.le_trans hlg.cap hlg.capMax
 refine sq (rg (bx (v := .agg #[I sx, .slice Awt wt.length cwt, .slice Alg lg.length clg, Str to]) (cs := [I sx, .slice Awt wt.length cwt, .slice Alg lg.length clg, Str to]) hs0 rfl rfl trivial rfl (fun b1 w1 (hs1 : SH w w1 [] [.blk b1 29 [I sx, .slice Awt wt.length cwt, .slice Alg lg.length clg, Str to]]) => ?_)))
 refine qt rfl (asg (v := .bool false) rfl) (nl (nN (sq (rg (qt rfl (fa 3 fo29_3 rfl) (qt rfl (ld (v := Str to) hs1 0 rfl rfl rfl one9) (cl trivial rfl (sAddressFrom (s := to) (w := _) (hs_n := (by omega))) ?_)))))))
 rintro _ w2 ⟨Aq1, cq1, rfl, hs2'⟩
 have hs2 := hs1.call0 hs2'
 clear hs2'
 refine qt rfl (mv (v := .tuple #[.agg #[I ((addrFrom to).1.1), .slice Aq1 (((addrFrom to).1.2.1).length) cq1, Str ((addrFrom to).1.2.2.1), I ((addrFrom to).1.2.2.2)], .bool ((addrFrom to).2)]) rfl) (qt rfl (xt 0 (v := .agg #[I ((addrFrom to).1.1), .slice Aq1 (((addrFrom to).1.2.1).length) cq1, Str ((addrFrom to).1.2.2.1), I ((addrFrom to).1.2.2.2)]) rfl rfl) (qt rfl (xt 1 (v := .bool ((addrFrom to).2)) rfl rfl) (al (v := .agg #[I 0, ns, Str [], I 0]) (cs := [I 0, ns, Str [], I 0]) hs2 tz43 rfl trivial rfl (fun b2 w3 (hs3 : SH w w3 [] [.blk b1 29 [I sx, .slice Awt wt.length cwt, .slice Alg lg.length clg, Str to], .own Aq1 (((addrFrom to).1.2.1).length) cq1 3 1 (((addrFrom to).1.2.1).map I), .blk b2 43 [I 0, ns, Str [], I 0]]) => ?_))))
 refine stg (vs := [I ((addrFrom to).1.1), .slice Aq1 (((addrFrom to).1.2.1).length) cq1, Str ((addrFrom to).1.2.2.1), I ((addrFrom to).1.2.2.2)]) hs3 2 rfl rfl rfl rfl rfl rfl rfl ag43 trivial (fun w4 (hs4 : SH w w4 [] [.blk b1 29 [I sx, .slice Awt wt.length cwt, .slice Alg lg.length clg, Str to], .own Aq1 (((addrFrom to).1.2.1).length) cq1 3 1 (((addrFrom to).1.2.1).map I), .blk b2 43 [I ((addrFrom to).1.1), .slice Aq1 (((addrFrom to).1.2.1).length) cq1, Str ((addrFrom to).1.2.2.1), I ((addrFrom to).1.2.2.2)]]) => ?_)
 refine qt rfl (asg (v := .bool ((addrFrom to).2)) rfl) (nl (nN (sq (sq (rg (qt rfl (fa 1 fo29_1 rfl) (qt rfl (ld (v := .slice Awt wt.length cwt) hs4 0 rfl rfl rfl one22) ?_)))))))
 refine qt rfl (fa 2 fo29_2 rfl) (qt rfl (ld (v := .slice Alg lg.length clg) hs4 0 rfl rfl rfl one27) (cl trivial rfl (sL23Ok (Awt := Awt) (cwt := cwt) (wt := wt) (Alg := Alg) (clg := clg) (lg := lg) (w := _) (hwt := (hwt.up0 hs4)) (hlg := (hlg.up0 hs4)) (hlg_e := hlg_e)) ?_))
 rintro _ w5 ⟨rfl, hs5'⟩
 have hs5 := hs4.call0 hs5'
 clear hs5'
 refine qt rfl (nt (b := wlOk wt lg) rfl) (qt rfl (mv (v := .bool (!(wlOk wt lg))) rfl) ?_)
 refine spl (b := !(wlOk wt lg)) 17 rfl (fun h1 => ?_) (fun h1 => ?_)
 · have h2 : (wlOk wt lg) = false := by simpa using h1
   refine gk true rfl rfl rfl rfl rfl (gk true rfl rfl rfl rfl rfl (gk true rfl rfl rfl rfl rfl (gk true rfl rfl rfl rfl rfl (qt rfl (pt (v := .bool true) rfl rfl) (nl (nN (cdt rfl ?_)))))))
   refine sq (rg (qt rfl (asg (v := .bool false) rfl) (nl (nN (rt (tR ?_))))))
   refine fret (v := .bool false) (.tmp .nil) rfl ?_
   have e1 : false = talkOk sx wt lg to := by exact ts_no1 (by assumption)
   exact ⟨(congrArg (Value.bool) e1), (hs5.pick [] rfl (by decide))⟩
 · have h3 : (wlOk wt lg) = true := by simpa using h1
   refine q ⟨_, rfl, rfl⟩ rfl rfl (fa 0 fo29_0 rfl) (q ⟨_, rfl, rfl⟩ rfl rfl (ld (v := I sx) hs5 0 rfl rfl rfl one3) (cl ⟨_, rfl, rfl⟩ rfl (sIn (x := sx) (lo := 0) (hi := 4) (w := _)) ?_))
   rintro _ w6 ⟨rfl, hs6'⟩
   have hs6 := hs5.call0 hs6'
   clear hs6'
   refine q ⟨_, rfl, rfl⟩ rfl rfl (nd (p := 0 ≤ sx ∧ sx ≤ 4) rfl) (qt rfl (pf (v := .bool (decide (¬ (0 ≤ sx ∧ sx ≤ 4)))) rfl rfl) (nl (nN ?_)))
   refine cdd (p := ¬ (0 ≤ sx ∧ sx ≤ 4)) rfl (fun h4 => ?_) (fun h4 => ?_)
   · refine sq (rg (qt rfl (asg (v := .bool false) rfl) (nl (nN (rt (tR ?_))))))
     refine fret (v := .bool false) (.tmp .nil) rfl ?_
     have e2 : false = talkOk sx wt lg to := by exact talk_no1 (by assumption)
     exact ⟨(congrArg (Value.bool) e2), (hs6.pick [] rfl (by decide))⟩
   · refine sk (nN (sq (sq (rg (qt rfl (fa 0 fo29_0 rfl) (qt rfl (ld (v := I sx) hs6 0 rfl rfl rfl one3) (qt rfl (eqi (k := .i64) (a := sx) (b := 1) rfl rfl) ?_)))))))
     refine qt rfl (mv (v := .bool (decide (sx = 1))) rfl) ?_
     refine spd (p := sx = 1) 26 rfl (fun h5 => ?_) (fun h5 => ?_)
     · refine q ⟨_, rfl, rfl⟩ rfl rfl (fa 1 fo29_1 rfl) (q ⟨_, rfl, rfl⟩ rfl rfl (ld (v := .slice Awt wt.length cwt) hs6 0 rfl rfl rfl one22) (cl ⟨_, rfl, rfl⟩ rfl (l5Has (Azs := Awt) (czs := cwt) (zs := wt) (n := 2) (w := _) (hzs := (hwt.up0 hs6))) ?_))
       rintro _ w7 ⟨rfl, hs7'⟩
       have hs7 := hs6.call0 hs7'
       clear hs7'
       refine q ⟨_, rfl, rfl⟩ rfl rfl (nd (p := 2 ∈ wt) rfl) (qt rfl (pt (v := .bool (decide (¬ (2 ∈ wt)))) rfl rfl) (nl (nN ?_)))
       refine cdd (p := ¬ (2 ∈ wt)) rfl (fun h6 => ?_) (fun h6 => ?_)
       · refine sq (rg (qt rfl (asg (v := .bool false) rfl) (nl (nN (rt (tR ?_))))))
         refine fret (v := .bool false) (.tmp .nil) rfl ?_
         have e3 : false = talkOk sx wt lg to := by exact talk_no6 (by assumption) (by assumption)
         exact ⟨(congrArg (Value.bool) e3), (hs7.pick [] rfl (by decide))⟩
       · refine sk (nN (sq (rg (qt rfl (fa 0 fo29_0 rfl) (qt rfl (ld (v := I sx) hs7 0 rfl rfl rfl one3) (qt rfl (eqi (k := .i64) (a := sx) (b := 3) rfl rfl) (qt rfl (mv (v := .bool ((addrFrom to).2)) rfl) ?_)))))))
         refine qt rfl (eqb (a := (decide (sx = 3))) (b := ((addrFrom to).2)) tb4 rfl rfl) (qt rfl (mv (v := .bool (decide ((decide (sx = 3)) = ((addrFrom to).2)))) rfl) ?_)
         refine spd (p := (decide (sx = 3)) = ((addrFrom to).2)) 37 rfl (fun h7 => ?_) (fun h7 => ?_)
         · refine q ⟨_, rfl, rfl⟩ rfl rfl (mv (v := .bool ((addrFrom to).2)) rfl) (q ⟨_, rfl, rfl⟩ rfl rfl (mv (v := .bool ((addrFrom to).2)) rfl) ?_)
           refine spl (b := (addrFrom to).2) 39 rfl (fun h8 => ?_) (fun h8 => ?_)
           · refine gk true rfl rfl rfl rfl rfl (gk true rfl rfl rfl rfl rfl (gk true rfl rfl rfl rfl rfl (q ⟨_, rfl, rfl⟩ rfl rfl (pt (v := .bool true) rfl rfl) (qt rfl (pt (v := .bool true) rfl rfl) (qt rfl (asg (v := .bool true) rfl) (nl (nN ?_)))))))
             refine rt (fret (v := .bool true) (.tmp .nil) rfl ?_)
             have e4 : true = talkOk sx wt lg to := by exact ts_y1 (by assumption) (by first | assumption | exact Decidable.not_not.1 (by assumption)) (by intro q; first | exact absurd q (by assumption) | exact Decidable.not_not.1 (by assumption)) (by assumption) (by assumption)
             exact ⟨(congrArg (Value.bool) e4), (hs7.pick [] rfl (by decide))⟩
           · refine q ⟨_, rfl, rfl⟩ rfl rfl (fa 3 fo29_3 rfl) (q ⟨_, rfl, rfl⟩ rfl rfl (ld (v := Str to) hs7 0 rfl rfl rfl one9) (q ⟨_, rfl, rfl⟩ rfl rfl (eqs (l := to) (m := []) rfl rfl) (q ⟨_, rfl, rfl⟩ rfl rfl (pf (v := .bool (decide (to = []))) rfl rfl) (qt rfl (pt (v := .bool (decide (to = []))) rfl rfl) (qt rfl (asg (v := .bool (decide (to = []))) rfl) (nl (nN ?_)))))))
             refine rt (fret (v := .bool (decide (to = []))) (.tmp .nil) rfl ?_)
             have e5 : (decide (to = [])) = talkOk sx wt lg to := by exact ts_y2 (by assumption) (by first | assumption | exact Decidable.not_not.1 (by assumption)) (by intro q; first | exact absurd q (by assumption) | exact Decidable.not_not.1 (by assumption)) (by assumption) (by assumption)
             exact ⟨(congrArg (Value.bool) e5), (hs7.pick [] rfl (by decide))⟩
         · refine gk false rfl rfl rfl rfl rfl (gk false rfl rfl rfl rfl rfl (gku rfl rfl rfl rfl rfl (gku rfl rfl rfl rfl rfl (gku rfl rfl rfl rfl rfl (gk false rfl rfl rfl rfl rfl (qt rfl (pf (v := .bool false) rfl rfl) (qt rfl (asg (v := .bool false) rfl) ?_)))))))
           refine nl (nN (rt (fret (v := .bool false) (.tmp .nil) rfl ?_)))
           have e6 : false = talkOk sx wt lg to := by exact ts_no7 (by assumption)
           exact ⟨(congrArg (Value.bool) e6), (hs7.pick [] rfl (by decide))⟩
     · refine gk false rfl rfl rfl rfl rfl (gk false rfl rfl rfl rfl rfl (gk false rfl rfl rfl rfl rfl (gk false rfl rfl rfl rfl rfl (qt rfl (pf (v := .bool false) rfl rfl) (nl (nN (cdf rfl ?_)))))))
       refine sk (nN (sq (rg (qt rfl (fa 0 fo29_0 rfl) (qt rfl (ld (v := I sx) hs6 0 rfl rfl rfl one3) (qt rfl (eqi (k := .i64) (a := sx) (b := 3) rfl rfl) (qt rfl (mv (v := .bool ((addrFrom to).2)) rfl) ?_)))))))
       refine qt rfl (eqb (a := (decide (sx = 3))) (b := ((addrFrom to).2)) tb4 rfl rfl) (qt rfl (mv (v := .bool (decide ((decide (sx = 3)) = ((addrFrom to).2)))) rfl) ?_)
       refine spd (p := (decide (sx = 3)) = ((addrFrom to).2)) 37 rfl (fun h9 => ?_) (fun h9 => ?_)
       · refine q ⟨_, rfl, rfl⟩ rfl rfl (mv (v := .bool ((addrFrom to).2)) rfl) (q ⟨_, rfl, rfl⟩ rfl rfl (mv (v := .bool ((addrFrom to).2)) rfl) ?_)
         refine spl (b := (addrFrom to).2) 39 rfl (fun h10 => ?_) (fun h10 => ?_)
         · refine gk true rfl rfl rfl rfl rfl (gk true rfl rfl rfl rfl rfl (gk true rfl rfl rfl rfl rfl (q ⟨_, rfl, rfl⟩ rfl rfl (pt (v := .bool true) rfl rfl) (qt rfl (pt (v := .bool true) rfl rfl) (qt rfl (asg (v := .bool true) rfl) (nl (nN ?_)))))))
           refine rt (fret (v := .bool true) (.tmp .nil) rfl ?_)
           have e7 : true = talkOk sx wt lg to := by exact ts_y1 (by assumption) (by first | assumption | exact Decidable.not_not.1 (by assumption)) (by intro q; first | exact absurd q (by assumption) | exact Decidable.not_not.1 (by assumption)) (by assumption) (by assumption)
           exact ⟨(congrArg (Value.bool) e7), (hs6.pick [] rfl (by decide))⟩
         · refine q ⟨_, rfl, rfl⟩ rfl rfl (fa 3 fo29_3 rfl) (q ⟨_, rfl, rfl⟩ rfl rfl (ld (v := Str to) hs6 0 rfl rfl rfl one9) (q ⟨_, rfl, rfl⟩ rfl rfl (eqs (l := to) (m := []) rfl rfl) (q ⟨_, rfl, rfl⟩ rfl rfl (pf (v := .bool (decide (to = []))) rfl rfl) (qt rfl (pt (v := .bool (decide (to = []))) rfl rfl) (qt rfl (asg (v := .bool (decide (to = []))) rfl) (nl (nN ?_)))))))
           refine rt (fret (v := .bool (decide (to = []))) (.tmp .nil) rfl ?_)
           have e8 : (decide (to = [])) = talkOk sx wt lg to := by exact ts_y2 (by assumption) (by first | assumption | exact Decidable.not_not.1 (by assumption)) (by intro q; first | exact absurd q (by assumption) | exact Decidable.not_not.1 (by assumption)) (by assumption) (by assumption)
           exact ⟨(congrArg (Value.bool) e8), (hs6.pick [] rfl (by decide))⟩
       · refine gk false rfl rfl rfl rfl rfl (gk false rfl rfl rfl rfl rfl (gku rfl rfl rfl rfl rfl (gku rfl rfl rfl rfl rfl (gku rfl rfl rfl rfl rfl (gk false rfl rfl rfl rfl rfl (qt rfl (pf (v := .bool false) rfl rfl) (qt rfl (asg (v := .bool false) rfl) ?_)))))))
         refine nl (nN (rt (fret (v := .bool false) (.tmp .nil) rfl ?_)))
         have e9 : false = talkOk sx wt lg to := by exact ts_no7 (by assumption)
         exact ⟨(congrArg (Value.bool) e9), (hs6.pick [] rfl (by decide))⟩
theorem slCloneL {Axs : Option Addr} {cxs : Nat} (xs : List (List UInt8 × List UInt8)) (w : World) (hxs : Sl w [] 2 Axs xs.length cxs (xs.flatMap gLogin)) (hxs_e : ∀ u ∈ xs, u.1.length ≤ 9223372036854775807 ∧ u.2.length ≤ 9223372036854775807) (hxs_n : xs.length ≤ 1099511627776) : Does Tryz.prog 105 [.slice Axs xs.length cxs] w (fun v w' => ∃ Ar : Option Addr, ∃ cr : Nat, v = .slice Ar xs.length cr ∧ SH w w' [] [.own Ar xs.length cr 51 2 (xs.flatMap gLogin)]) := by
 refine fn_enter (N := 8) Tryz.func105 rfl (by kernel_rfl) rfl rfl rfl ?_
 have hs0 : SH w w [] [] := SH.refl w []
 have hxs_m : xs.length ≤ 9223372036854775807 := Nat.le_trans hxs.cap hxs.capMax
 refine sq (rg (qt rfl (asg (v := ns) rfl) (nl (nN (sq (sq (rg ?_)))))))
 refine qt rfl (mv (v := .slice Axs xs.length cxs) rfl) (qt rfl (slnil (A := Axs) sl27 rfl rfl) (nl (nN ?_)))
 refine cdd (p := Axs = none) rfl (fun h1 => ?_) (fun h1 => ?_)
 · refine sq (rg (qt rfl (asg (v := ns) rfl) (nl (nN (rt (tR ?_))))))
   refine fret (v := ns) (.tmp .nil) rfl ?_
   have hs1 : SH w w [] [.own none (([] : List (List UInt8 × List UInt8)).length) 0 51 2 (([] : List (List UInt8 × List UInt8)).flatMap gLogin)] := SH.nils (by intro i hi; simp at hi; subst hi; exact nilItemF) hs0
   have e1 : ([] : List (List UInt8 × List UInt8)) = xs := by exact (sl_noneF hxs (by assumption)).symm
   have e2 : ([] : List (List UInt8 × List UInt8)).length = xs.length := by exact congrArg List.length e1
   exact ⟨none, 0, (slv rfl e2 rfl), (hs1.cast (lc (own_eqf (g := gLogin) rfl e2 rfl e1) rfl))⟩
 · refine sk (nN (sq (rg (bsk hs0 sl27 [] [] trivial rfl (fun b1 w1 (hs2 : SH w w1 [] [.own (some ⟨b1, 0, none⟩) (([] : List (List UInt8 × List UInt8)).length) 0 51 2 (([] : List (List UInt8 × List UInt8)).flatMap gLogin)]) => ?_)))))
   refine qt rfl (mv (v := .slice Axs xs.length cxs) rfl) (apf (g := gLogin) (ys := ([] : List (List UInt8 × List UInt8))) (zs := xs) hs2 0 rfl sl27 rfl (by decide) rfl rfl (hxs.up0 hs2) (fun _ => rfl) (by unfold maxLen; (simp; omega)) (by (simp; omega)) trivial rfl (fun A1 c1 w2 (hs3 : SH w w2 [] [.own A1 xs.length c1 51 2 (xs.flatMap gLogin)]) => ?_))
   refine qt rfl (asg (v := .slice A1 xs.length c1) rfl) (nl (nN (rt (fret (v := .slice A1 xs.length c1) (.tmp .nil) rfl ?_))))
   exact ⟨A1, c1, rfl, hs3⟩
set_option maxHeartbeats 8000000 in
theorem iCloneTalk (sx : Int) {Awt : Option Addr} {cwt : Nat} (wt : List Int) {Alg : Option Addr} {clg : Nat} (lg : List (List UInt8 × List UInt8)) (to : List UInt8) (w : World) (hwt : Sl w [] 1 Awt wt.length cwt (wt.map I)) (hwt_n : wt.length ≤ 1099511627776) (hlg : Sl w [] 2 Alg lg.length clg (lg.flatMap gLogin)) (hlg_e : ∀ u ∈ lg, u.1.length ≤ 9223372036854775807 ∧ u.2.length ≤ 9223372036854775807) (hlg_n : lg.length ≤ 1099511627776) : Does Tryz.prog 47 [.agg #[I sx, .slice Awt wt.length cwt, .slice Alg lg.length clg, Str to]] w (fun v w' => ∃ Awr : Option Addr, ∃ cwr : Nat, ∃ Alr : Option Addr, ∃ clr : Nat, v = .agg #[.int .i64 sx, .slice Awr wt.length cwr, .slice Alr lg.length clr, Str to] ∧ SH w w' [] [.own Awr wt.length cwr 3 1 (wt.map I), .own Alr lg.length clr 51 2 (lg.flatMap gLogin)]) := by
 refine fn_enter (N := 12) Tryz.func47 rfl (by kernel_rfl) rfl rfl rfl ?_
 have hs0 : SH w w [] [] := SH.refl w []
 have hwt_m : wt.length ≤ 9223372036854775807 := Nat.le_trans hwt.cap hwt.capMax
 have hlg_m : lg.length ≤ 9223372036854775807 := Nat.le_trans hlg.cap hlg.capMax
 refine sq (rg (bx (v := .agg #[I sx, .slice Awt wt.length cwt, .slice Alg lg.length clg, Str to]) (cs := [I sx, .slice Awt wt.length cwt, .slice Alg lg.length clg, Str to]) hs0 rfl rfl trivial rfl (fun b1 w1 (hs1 : SH w w1 [] [.blk b1 29 [I sx, .slice Awt wt.length cwt, .slice Alg lg.length clg, Str to]]) => ?_)))
 refine al (v := .agg #[I 0, ns, ns, Str []]) (cs := [I 0, ns, ns, Str []]) hs1 tz29 rfl trivial rfl (fun b2 w2 (hs2 : SH w w2 [] [.blk b1 29 [I sx, .slice Awt wt.length cwt, .slice Alg lg.length clg, Str to], .blk b2 29 [I 0, ns, ns, Str []]]) => ?_)
 refine nl (nN (sq ?_))
 refine raJ (fun w' => ∃ L, SH w w' [] L ∧ (.blk b2 29 [I 0, ns, ns, Str []]) ∈ L ∧ True) (fun f w' => ∃ (A2' : Option Addr) (c2' : Nat) (A5' : Option Addr) (c5' : Nat), Has f [(1, pB b1), (2, pB b2)] ∧ SH w w' [] [.blk b1 29 [I sx, .slice A2' wt.length c2', .slice A5' lg.length c5', Str to], .blk b2 29 [I 0, ns, ns, Str []], .own A2' wt.length c2' 3 1 (wt.map I), .own A5' lg.length c5' 51 2 (lg.flatMap gLogin)]) mixed ?_ ?_
 · refine dag (fuel' := 1) (listed' := lbits 10 511) (fun f w' => ∃ (A2' : Option Addr) (c2' : Nat) (A5' : Option Addr) (c5' : Nat), Has f [(1, pB b1), (2, pB b2), (8, .slice A5' lg.length c5'), (10, .pointer (some ⟨b1, 2, none⟩))] ∧ SH w w' [] [.blk b1 29 [I sx, .slice A2' wt.length c2', .slice Alg lg.length clg, Str to], .blk b2 29 [I 0, ns, ns, Str []], .own A2' wt.length c2' 3 1 (wt.map I), .own A5' lg.length c5' 51 2 (lg.flatMap gLogin)]) ?_ (fun D_1_0 => ?_)
   · rintro f w3 ⟨A2', c2', A5', c5', hf, hs3⟩
     obtain ⟨g1, rfl⟩ := has_upd hf
     clear hf
     refine aaL [9] (fa_one ?_)
     refine one_ rfl (st (v := .slice A5' lg.length c5') hs3 0 rfl rfl rfl rfl rfl one27 trivial (fun w4 hs4 => ?_))
     refine nl (kq ⟨_, hs4, memi 0 rfl, trivial⟩ ?_)
     refine ad (by kernel_rfl) ?_
     exact ⟨A2', c2', A5', c5', ⟨rfl, rfl, trivial⟩, (hs4.pick [3, 0, 1, 2] rfl (by decide))⟩
   refine dag (fuel' := 3) (listed' := lbits 10 127) (fun f w' => ∃ (A2' : Option Addr) (c2' : Nat) (A5' : Option Addr) (c5' : Nat), Has f [(1, pB b1), (2, pB b2), (5, .slice A2' wt.length c2'), (8, .slice A5' lg.length c5'), (9, .pointer (some ⟨b1, 1, none⟩))] ∧ SH w w' [] [.blk b1 29 [I sx, .slice Awt wt.length cwt, .slice Alg lg.length clg, Str to], .blk b2 29 [I 0, ns, ns, Str []], .own A2' wt.length c2' 3 1 (wt.map I), .own A5' lg.length c5' 51 2 (lg.flatMap gLogin)]) ?_ (fun D_1_1 => ?_)
   · rintro f w5 ⟨A2', c2', A5', c5', hf, hs5⟩
     obtain ⟨g2, rfl⟩ := has_upd hf
     clear hf
     refine aaL [7] (fa_one ?_)
     refine one_ rfl (st (v := .slice A2' wt.length c2') hs5 0 rfl rfl rfl rfl rfl one22 trivial (fun w6 hs6 => ?_))
     refine nl (kq ⟨_, hs6, memi 0 rfl, trivial⟩ ?_)
     refine tk (fuel := 1) (is := [8]) (.cons rfl (.nil)) (by kernel_rfl) (by kernel_rfl) ⟨_, hs6, memi 0 rfl, trivial⟩ (.op trivial rfl rfl (fun wq _ => fa 2 fo29_2 rfl) (.nil ?_))
     exact alc D_1_0 ⟨A2', c2', A5', c5', ⟨rfl, rfl, rfl, rfl, trivial⟩, (hs6.pick [3, 0, 1, 2] rfl (by decide))⟩
   refine dag (fuel' := 4) (listed' := lbits 10 95) (fun f w' => ∃ (A2' : Option Addr) (c2' : Nat), Has f [(1, pB b1), (2, pB b2), (5, .slice A2' wt.length c2'), (7, .slice Alg lg.length clg), (9, .pointer (some ⟨b1, 1, none⟩))] ∧ SH w w' [] [.blk b1 29 [I sx, .slice Awt wt.length cwt, .slice Alg lg.length clg, Str to], .blk b2 29 [I 0, ns, ns, Str []], .own A2' wt.length c2' 3 1 (wt.map I)]) ?_ (fun D_1_2 => ?_)
   · rintro f w7 ⟨A2', c2', hf, hs7⟩
     obtain ⟨g3, rfl⟩ := has_upd hf
     clear hf
     refine aaL [5] (fa_one ?_)
     refine one_ rfl (cl trivial rfl (slCloneL (Axs := Alg) (cxs := clg) (xs := lg) (w := _) (hxs := (hlg.up0 hs7)) (hxs_e := hlg_e) (hxs_n := (by omega))) ?_)
     rintro _ w8 ⟨A5', c5', rfl, hs8'⟩
     have hs8 := hs7.call0 hs8'
     clear hs8'
     exact nl (kq ⟨_, hs8, memi 1 rfl, trivial⟩ (alc D_1_1 ⟨A2', c2', A5', c5', ⟨rfl, rfl, rfl, rfl, rfl, trivial⟩, hs8⟩))
   refine dag (fuel' := 6) (listed' := lbits 10 15) (fun f w' => ∃ (A2' : Option Addr) (c2' : Nat), Has f [(1, pB b1), (2, pB b2), (5, .slice A2' wt.length c2'), (6, .pointer (some ⟨b1, 2, none⟩))] ∧ SH w w' [] [.blk b1 29 [I sx, .slice Awt wt.length cwt, .slice Alg lg.length clg, Str to], .blk b2 29 [I 0, ns, ns, Str []], .own A2' wt.length c2' 3 1 (wt.map I)]) ?_ (fun D_1_3 => ?_)
   · rintro f w9 ⟨A2', c2', hf, hs9⟩
     obtain ⟨g4, rfl⟩ := has_upd hf
     clear hf
     refine aaL [4] (fa_one ?_)
     refine one_ rfl (qt rfl (ld (v := .slice Alg lg.length clg) hs9 0 rfl rfl rfl one27) (nl (kq ⟨_, hs9, memi 1 rfl, trivial⟩ ?_)))
     refine tk (fuel := 4) (is := [6]) (.cons rfl (.nil)) (by kernel_rfl) (by kernel_rfl) ⟨_, hs9, memi 1 rfl, trivial⟩ (.op trivial rfl rfl (fun wq _ => fa 1 fo29_1 rfl) (.nil ?_))
     exact alc D_1_2 ⟨A2', c2', ⟨rfl, rfl, rfl, rfl, rfl, trivial⟩, hs9⟩
   refine dag (fuel' := 6) (listed' := lbits 10 27) (fun f w' => Has f [(1, pB b1), (2, pB b2), (4, .slice Awt wt.length cwt), (7, .slice Alg lg.length clg)] ∧ SH w w' [] [.blk b1 29 [I sx, .slice Awt wt.length cwt, .slice Alg lg.length clg, Str to], .blk b2 29 [I 0, ns, ns, Str []]]) ?_ (fun D_1_4 => ?_)
   · rintro f w10 ⟨hf, hs10⟩
     obtain ⟨g5, rfl⟩ := has_upd hf
     clear hf
     refine aaL [2] (fa_one ?_)
     refine one_ rfl (cl trivial rfl (slClone (Axs := Awt) (cxs := cwt) (xs := wt) (w := _) (hxs := (hwt.up0 hs10)) (hxs_n := (by omega))) ?_)
     rintro _ w11 ⟨A2', c2', rfl, hs11'⟩
     have hs11 := hs10.call0 hs11'
     clear hs11'
     refine nl (kq ⟨_, hs11, memi 1 rfl, trivial⟩ ?_)
     refine tk (fuel := 4) (is := [6]) (.cons rfl (.nil)) (by kernel_rfl) (by kernel_rfl) ⟨_, hs11, memi 1 rfl, trivial⟩ (.op trivial rfl rfl (fun wq _ => fa 1 fo29_1 rfl) (.nil ?_))
     exact alc D_1_2 ⟨A2', c2', ⟨rfl, rfl, rfl, rfl, rfl, trivial⟩, hs11⟩
   refine dag (fuel' := 7) (listed' := lbits 10 11) (fun f w' => Has f [(1, pB b1), (2, pB b2), (4, .slice Awt wt.length cwt), (6, .pointer (some ⟨b1, 2, none⟩))] ∧ SH w w' [] [.blk b1 29 [I sx, .slice Awt wt.length cwt, .slice Alg lg.length clg, Str to], .blk b2 29 [I 0, ns, ns, Str []]]) ?_ (fun D_1_5 => ?_)
   · rintro f w12 ⟨hf, hs12⟩
     obtain ⟨g6, rfl⟩ := has_upd hf
     clear hf
     refine aaL [2, 4] (fa_cons ?_ (fa_one ?_))
     · refine one_ rfl (cl trivial rfl (slClone (Axs := Awt) (cxs := cwt) (xs := wt) (w := _) (hxs := (hwt.up0 hs12)) (hxs_n := (by omega))) ?_)
       rintro _ w13 ⟨A2', c2', rfl, hs13'⟩
       have hs13 := hs12.call0 hs13'
       clear hs13'
       exact nl (kq ⟨_, hs13, memi 1 rfl, trivial⟩ (alc D_1_3 ⟨A2', c2', ⟨rfl, rfl, rfl, rfl, trivial⟩, hs13⟩))
     · refine one_ rfl (qt rfl (ld (v := .slice Alg lg.length clg) hs12 0 rfl rfl rfl one27) ?_)
       exact nl (kq ⟨_, hs12, memi 1 rfl, trivial⟩ (alc D_1_4 ⟨⟨rfl, rfl, rfl, rfl, trivial⟩, hs12⟩))
   refine dag (fuel' := 7) (listed' := lbits 10 25) (fun f w' => Has f [(1, pB b1), (2, pB b2), (3, .pointer (some ⟨b1, 1, none⟩)), (7, .slice Alg lg.length clg)] ∧ SH w w' [] [.blk b1 29 [I sx, .slice Awt wt.length cwt, .slice Alg lg.length clg, Str to], .blk b2 29 [I 0, ns, ns, Str []]]) ?_ (fun D_1_6 => ?_)
   · rintro f w14 ⟨hf, hs14⟩
     obtain ⟨g7, rfl⟩ := has_upd hf
     clear hf
     refine aaL [1] (fa_one ?_)
     refine one_ rfl (qt rfl (ld (v := .slice Awt wt.length cwt) hs14 0 rfl rfl rfl one22) ?_)
     exact nl (kq ⟨_, hs14, memi 1 rfl, trivial⟩ (alc D_1_4 ⟨⟨rfl, rfl, rfl, rfl, trivial⟩, hs14⟩))
   refine dag (fuel' := 8) (listed' := lbits 10 9) (fun f w' => Has f [(1, pB b1), (2, pB b2), (3, .pointer (some ⟨b1, 1, none⟩)), (6, .pointer (some ⟨b1, 2, none⟩))] ∧ SH w w' [] [.blk b1 29 [I sx, .slice Awt wt.length cwt, .slice Alg lg.length clg, Str to], .blk b2 29 [I 0, ns, ns, Str []]]) ?_ (fun D_1_7 => ?_)
   · rintro f w15 ⟨hf, hs15⟩
     obtain ⟨g8, rfl⟩ := has_upd hf
     clear hf
     refine aaL [1, 4] (fa_cons ?_ (fa_one ?_))
     · refine one_ rfl (qt rfl (ld (v := .slice Awt wt.length cwt) hs15 0 rfl rfl rfl one22) ?_)
       exact nl (kq ⟨_, hs15, memi 1 rfl, trivial⟩ (alc D_1_5 ⟨⟨rfl, rfl, rfl, rfl, trivial⟩, hs15⟩))
     · refine one_ rfl (qt rfl (ld (v := .slice Alg lg.length clg) hs15 0 rfl rfl rfl one27) ?_)
       exact nl (kq ⟨_, hs15, memi 1 rfl, trivial⟩ (alc D_1_6 ⟨⟨rfl, rfl, rfl, rfl, trivial⟩, hs15⟩))
   have hs16 := hs2.drew
   refine tk (fuel := 8) (is := [0, 3]) (.cons rfl (.cons rfl (.nil))) (by kernel_rfl) (by kernel_rfl) ⟨_, hs16, memi 1 rfl, trivial⟩ (.op trivial rfl rfl (fun wq _ => fa 1 fo29_1 rfl) (.op trivial rfl rfl (fun wq _ => fa 2 fo29_2 rfl) (.nil ?_)))
   exact alc D_1_7 ⟨⟨rfl, rfl, rfl, rfl, trivial⟩, hs16⟩
 rintro f w16 ⟨A2', c2', A5', c5', hf, hs17⟩
 obtain ⟨g9, rfl⟩ := has_upd hf
 clear hf
 refine nN (sq (rg (qt rfl (ldg (vs := [I sx, .slice A2' wt.length c2', .slice A5' lg.length c5', Str to]) hs17 0 rfl rfl rfl rfl ag29) (stg (vs := [I sx, .slice A2' wt.length c2', .slice A5' lg.length c5', Str to]) hs17 1 rfl rfl rfl rfl rfl rfl rfl ag29 trivial (fun w17 (hs18 : SH w w17 [] [.blk b1 29 [I sx, .slice A2' wt.length c2', .slice A5' lg.length c5', Str to], .own A2' wt.length c2' 3 1 (wt.map I), .own A5' lg.length c5' 51 2 (lg.flatMap gLogin), .blk b2 29 [I sx, .slice A2' wt.length c2', .slice A5' lg.length c5', Str to]]) => ?_)))))
 refine nl (nN (rt (fret (v := .agg #[I sx, .slice A2' wt.length c2', .slice A5' lg.length c5', Str to]) (resC hs18 3 rfl rfl ag29 rfl .nil) rfl ?_)))
 exact ⟨A2', c2', A5', c5', rfl, (hs18.pick [1, 2] rfl (by decide))⟩
set_option maxHeartbeats 8000000 in
theorem sL23Next (sx : Int) {Awt : Option Addr} {cwt : Nat} (wt : List Int) {Alg : Option Addr} {clg : Nat} (lg : List (List UInt8 × List UInt8)) (to : List UInt8) (nst : Int) (w : World) (hwt : Sl w [] 1 Awt wt.length cwt (wt.map I)) (hwt_n : wt.length ≤ 1099511627776) (hlg : Sl w [] 2 Alg lg.length clg (lg.flatMap gLogin)) (hlg_e : ∀ u ∈ lg, u.1.length ≤ 9223372036854775807 ∧ u.2.length ≤ 9223372036854775807) (hlg_n : lg.length ≤ 1099511627776) : Does Tryz.prog 69 [.agg #[I sx, .slice Awt wt.length cwt, .slice Alg lg.length clg, Str to], I nst] w (fun v w' => ∃ Awr : Option Addr, ∃ cwr : Nat, ∃ Alr : Option Addr, ∃ clr : Nat, v = .agg #[.int .i64 nst, .slice Awr wt.length cwr, .slice Alr lg.length clr, Str []] ∧ SH w w' [] [.own Awr wt.length cwr 3 1 (wt.map I), .own Alr lg.length clr 51 2 (lg.flatMap gLogin)]) := by
 refine fn_enter (N := 15) Tryz.func69 rfl (by kernel_rfl) rfl rfl rfl ?_
 have hs0 : SH w w [] [] := SH.refl w []
 have hwt_m : wt.length ≤ 9223372036854775807 := Nat.le_trans hwt.cap hwt.capMax
 have hlg_m : lg.length ≤ 9223372036854775807 := Nat.le_trans hlg.cap hlg.capMax
 refine sq (rg (bx (v := .agg #[I sx, .slice Awt wt.length cwt, .slice Alg lg.length clg, Str to]) (cs := [I sx, .slice Awt wt.length cwt, .slice Alg lg.length clg, Str to]) hs0 rfl rfl trivial rfl (fun b1 w1 (hs1 : SH w w1 [] [.blk b1 29 [I sx, .slice Awt wt.length cwt, .slice Alg lg.length clg, Str to]]) => ?_)))
 refine al (v := .agg #[I 0, ns, ns, Str []]) (cs := [I 0, ns, ns, Str []]) hs1 tz29 rfl trivial rfl (fun b2 w2 (hs2 : SH w w2 [] [.blk b1 29 [I sx, .slice Awt wt.length cwt, .slice Alg lg.length clg, Str to], .blk b2 29 [I 0, ns, ns, Str []]]) => ?_)
 refine nl (nN (sq ?_))
 refine raJ (fun w' => ∃ L, SH w w' [] L ∧ (.blk b1 29 [I sx, .slice Awt wt.length cwt, .slice Alg lg.length clg, Str to]) ∈ L ∧ True) (fun f w' => ∃ (A4' : Option Addr) (c4' : Nat) (A8' : Option Addr) (c8' : Nat), Has f [(4, pB b2)] ∧ SH w w' [] [.blk b1 29 [I sx, .slice Awt wt.length cwt, .slice Alg lg.length clg, Str to], .blk b2 29 [I nst, .slice A4' wt.length c4', .slice A8' lg.length c8', Str []], .own A4' wt.length c4' 3 1 (wt.map I), .own A8' lg.length c8' 51 2 (lg.flatMap gLogin)]) mixed ?_ ?_
 · refine dag (fuel' := 1) (listed' := lbits 11 1023) (fun f w' => ∃ (A4' : Option Addr) (c4' : Nat) (A8' : Option Addr) (c8' : Nat), Has f [(4, pB b2), (14, .agg #[I nst, .slice A4' wt.length c4', .slice A8' lg.length c8', Str []])] ∧ SH w w' [] [.blk b1 29 [I sx, .slice Awt wt.length cwt, .slice Alg lg.length clg, Str to], .blk b2 29 [I 0, ns, ns, Str []], .own A4' wt.length c4' 3 1 (wt.map I), .own A8' lg.length c8' 51 2 (lg.flatMap gLogin)]) ?_ (fun D_1_0 => ?_)
   · rintro f w3 ⟨A4', c4', A8', c8', hf, hs3⟩
     obtain ⟨g1, rfl⟩ := has_upd hf
     clear hf
     refine aaL [10] (fa_one ?_)
     refine one_ rfl (stg (vs := [I nst, .slice A4' wt.length c4', .slice A8' lg.length c8', Str []]) hs3 1 rfl rfl rfl rfl rfl rfl rfl ag29 trivial (fun w4 hs4 => ?_))
     refine nl (kq ⟨_, hs4, memi 0 rfl, trivial⟩ ?_)
     refine ad (by kernel_rfl) ?_
     exact ⟨A4', c4', A8', c8', ⟨rfl, trivial⟩, (hs4.pick [0, 3, 1, 2] rfl (by decide))⟩
   refine dag (fuel' := 3) (listed' := lbits 11 255) (fun f w' => ∃ (b5' : Nat) (A4' : Option Addr) (c4' : Nat), Has f [(4, pB b2), (5, I nst), (9, .slice A4' wt.length c4'), (10, sb b5' (([] : List (List UInt8 × List UInt8)).length) 0), (12, .slice Alg lg.length clg)] ∧ SH w w' [] [.blk b1 29 [I sx, .slice Awt wt.length cwt, .slice Alg lg.length clg, Str to], .blk b2 29 [I 0, ns, ns, Str []], .own A4' wt.length c4' 3 1 (wt.map I), .own (some ⟨b5', 0, none⟩) (([] : List (List UInt8 × List UInt8)).length) 0 51 2 (([] : List (List UInt8 × List UInt8)).flatMap gLogin)]) ?_ (fun D_1_1 => ?_)
   · rintro f w5 ⟨b5', A4', c4', hf, hs5⟩
     obtain ⟨g2, rfl⟩ := has_upd hf
     clear hf
     refine aaL [8] (fa_one ?_)
     refine one_ rfl (apf (g := gLogin) (ys := ([] : List (List UInt8 × List UInt8))) (zs := lg) hs5 3 rfl sl27 rfl (by decide) rfl rfl (hlg.up0 hs5) (fun _ => rfl) (by unfold maxLen; (simp; omega)) (by (simp; omega)) trivial rfl (fun A8' c8' w6 hs6 => ?_))
     refine nl (kq ⟨_, hs6, memi 0 rfl, trivial⟩ ?_)
     refine tk (fuel := 1) (is := [9]) (.cons rfl (.nil)) (by kernel_rfl) (by kernel_rfl) ⟨_, hs6, memi 0 rfl, trivial⟩ (.op trivial rfl rfl (fun wq _ => bdv (v := .agg #[I nst, .slice A4' wt.length c4', .slice A8' lg.length c8', Str []]) [(0, I nst), (1, .slice A4' wt.length c4'), (2, .slice A8' lg.length c8')] rfl (fun _ => by kernel_rfl)) (.nil ?_))
     exact alc D_1_0 ⟨A4', c4', A8', c8', ⟨rfl, rfl, trivial⟩, hs6⟩
   refine dag (fuel' := 4) (listed' := lbits 11 223) (fun f w' => ∃ (A4' : Option Addr) (c4' : Nat), Has f [(4, pB b2), (5, I nst), (9, .slice A4' wt.length c4'), (12, .slice Alg lg.length clg)] ∧ SH w w' [] [.blk b1 29 [I sx, .slice Awt wt.length cwt, .slice Alg lg.length clg, Str to], .blk b2 29 [I 0, ns, ns, Str []], .own A4' wt.length c4' 3 1 (wt.map I)]) ?_ (fun D_1_2 => ?_)
   · rintro f w7 ⟨A4', c4', hf, hs7⟩
     obtain ⟨g3, rfl⟩ := has_upd hf
     clear hf
     refine aaL [5] (fa_one ?_)
     refine one_ rfl (bsk hs7 sl27 [] [] trivial rfl (fun b5' w8 hs8 => ?_))
     exact nl (kq ⟨_, hs8, memi 0 rfl, trivial⟩ (alc D_1_1 ⟨b5', A4', c4', ⟨rfl, rfl, rfl, rfl, rfl, trivial⟩, hs8⟩))
   refine dag (fuel' := 4) (listed' := lbits 11 239) (fun f w' => ∃ (b1' b5' : Nat), Has f [(4, pB b2), (5, I nst), (6, sb b1' (([] : List Int).length) 0), (8, .slice Awt wt.length cwt), (10, sb b5' (([] : List (List UInt8 × List UInt8)).length) 0), (12, .slice Alg lg.length clg)] ∧ SH w w' [] [.blk b1 29 [I sx, .slice Awt wt.length cwt, .slice Alg lg.length clg, Str to], .blk b2 29 [I 0, ns, ns, Str []], oI b1' ([] : List Int) 0 3, .own (some ⟨b5', 0, none⟩) (([] : List (List UInt8 × List UInt8)).length) 0 51 2 (([] : List (List UInt8 × List UInt8)).flatMap gLogin)]) ?_ (fun D_1_3 => ?_)
   · rintro f w9 ⟨b1', b5', hf, hs9⟩
     obtain ⟨g4, rfl⟩ := has_upd hf
     clear hf
     refine aaL [4] (fa_one ?_)
     refine one_ rfl (apm (g := I) (ys := ([] : List Int)) (zs := wt) hs9 2 rfl sl22 rfl rfl rfl (hwt.up0 hs9) (fun _ => rfl) (by unfold maxLen; (simp; omega)) (by (simp; omega)) trivial rfl (fun A4' c4' w10 hs10 => ?_))
     exact nl (kq ⟨_, hs10, memi 0 rfl, trivial⟩ (alc D_1_1 ⟨b5', A4', c4', ⟨rfl, rfl, rfl, rfl, rfl, trivial⟩, (hs10.pick [0, 1, 3, 2] rfl (by decide))⟩))
   refine dag (fuel' := 5) (listed' := lbits 11 207) (fun f w' => ∃ (b1' : Nat), Has f [(4, pB b2), (5, I nst), (6, sb b1' (([] : List Int).length) 0), (8, .slice Awt wt.length cwt), (12, .slice Alg lg.length clg)] ∧ SH w w' [] [.blk b1 29 [I sx, .slice Awt wt.length cwt, .slice Alg lg.length clg, Str to], .blk b2 29 [I 0, ns, ns, Str []], oI b1' ([] : List Int) 0 3]) ?_ (fun D_1_4 => ?_)
   · rintro f w11 ⟨b1', hf, hs11⟩
     obtain ⟨g5, rfl⟩ := has_upd hf
     clear hf
     refine aaL [4, 5] (fa_cons ?_ (fa_one ?_))
     · refine one_ rfl (apm (g := I) (ys := ([] : List Int)) (zs := wt) hs11 2 rfl sl22 rfl rfl rfl (hwt.up0 hs11) (fun _ => rfl) (by unfold maxLen; (simp; omega)) (by (simp; omega)) trivial rfl (fun A4' c4' w12 hs12 => ?_))
       exact nl (kq ⟨_, hs12, memi 0 rfl, trivial⟩ (alc D_1_2 ⟨A4', c4', ⟨rfl, rfl, rfl, rfl, trivial⟩, hs12⟩))
     · refine one_ rfl (bsk hs11 sl27 [] [] trivial rfl (fun b5' w13 hs13 => ?_))
       exact nl (kq ⟨_, hs13, memi 0 rfl, trivial⟩ (alc D_1_3 ⟨b1', b5', ⟨rfl, rfl, rfl, rfl, rfl, rfl, trivial⟩, hs13⟩))
   refine dag (fuel' := 5) (listed' := lbits 11 237) (fun f w' => ∃ (b5' : Nat), Has f [(4, pB b2), (5, I nst), (8, .slice Awt wt.length cwt), (10, sb b5' (([] : List (List UInt8 × List UInt8)).length) 0), (12, .slice Alg lg.length clg)] ∧ SH w w' [] [.blk b1 29 [I sx, .slice Awt wt.length cwt, .slice Alg lg.length clg, Str to], .blk b2 29 [I 0, ns, ns, Str []], .own (some ⟨b5', 0, none⟩) (([] : List (List UInt8 × List UInt8)).length) 0 51 2 (([] : List (List UInt8 × List UInt8)).flatMap gLogin)]) ?_ (fun D_1_5 => ?_)
   · rintro f w14 ⟨b5', hf, hs14⟩
     obtain ⟨g6, rfl⟩ := has_upd hf
     clear hf
     refine aaL [1] (fa_one ?_)
     refine one_ rfl (bsk hs14 sl22 [] [] trivial rfl (fun b1' w15 hs15 => ?_))
     exact nl (kq ⟨_, hs15, memi 0 rfl, trivial⟩ (alc D_1_3 ⟨b1', b5', ⟨rfl, rfl, rfl, rfl, rfl, rfl, trivial⟩, (hs15.pick [0, 1, 3, 2] rfl (by decide))⟩))
   refine dag (fuel' := 6) (listed' := lbits 11 205) (fun f w' => Has f [(4, pB b2), (5, I nst), (8, .slice Awt wt.length cwt), (12, .slice Alg lg.length clg)] ∧ SH w w' [] [.blk b1 29 [I sx, .slice Awt wt.length cwt, .slice Alg lg.length clg, Str to], .blk b2 29 [I 0, ns, ns, Str []]]) ?_ (fun D_1_6 => ?_)
   · rintro f w16 ⟨hf, hs16⟩
     obtain ⟨g7, rfl⟩ := has_upd hf
     clear hf
     refine aaL [1, 5] (fa_cons ?_ (fa_one ?_))
     · refine one_ rfl (bsk hs16 sl22 [] [] trivial rfl (fun b1' w17 hs17 => ?_))
       exact nl (kq ⟨_, hs17, memi 0 rfl, trivial⟩ (alc D_1_4 ⟨b1', ⟨rfl, rfl, rfl, rfl, rfl, trivial⟩, hs17⟩))
     · refine one_ rfl (bsk hs16 sl27 [] [] trivial rfl (fun b5' w18 hs18 => ?_))
       exact nl (kq ⟨_, hs18, memi 0 rfl, trivial⟩ (alc D_1_5 ⟨b5', ⟨rfl, rfl, rfl, rfl, rfl, trivial⟩, hs18⟩))
   have hs19 := hs2.drew
   refine tk (fuel := 6) (is := [0, 2, 3, 6, 7]) (.cons rfl (.cons rfl (.cons rfl (.cons rfl (.cons rfl (.nil)))))) (by kernel_rfl) (by kernel_rfl) ⟨_, hs19, memi 0 rfl, trivial⟩ (.op trivial rfl rfl (fun wq _ => mv (v := I nst) rfl) (.op trivial rfl rfl (fun wq _ => fa 1 fo29_1 rfl) (.op trivial rfl rfl (fun wq ⟨Lq, hsq, mh0, _⟩ => ldm (v := .slice Awt wt.length cwt) hsq mh0 rfl rfl one22) (.op trivial rfl rfl (fun wq _ => fa 2 fo29_2 rfl) (.op trivial rfl rfl (fun wq ⟨Lq, hsq, mh0, _⟩ => ldm (v := .slice Alg lg.length clg) hsq mh0 rfl rfl one27) (.nil ?_))))))
   exact alc D_1_6 ⟨⟨rfl, rfl, rfl, rfl, trivial⟩, hs19⟩
 rintro f w19 ⟨A4', c4', A8', c8', hf, hs20⟩
 obtain ⟨g8, rfl⟩ := has_upd hf
 clear hf
 refine nN (rt (fret (v := .agg #[I nst, .slice A4' wt.length c4', .slice A8' lg.length c8', Str []]) (resC hs20 1 rfl rfl ag29 rfl .nil) rfl ?_))
 exact ⟨A4', c4', A8', c8', rfl, (hs20.pick [2, 3] rfl (by decide))⟩
theorem tkHello {tb : Nat} {Awt : Option Addr} {cwt : Nat} {Alg : Option Addr} {clg : Nat} (sx : Int) (wt : List Int) (lg : List Lg) (to : List UInt8) {Abs : Option Addr} {cbs : Nat} (bs : List Int) (w : World) (htk : w.heap[tb]? = some (.cells [.int .i64 sx, .slice Awt wt.length cwt, .slice Alg lg.length clg, Str to].toArray 29 (0, 0))) (hwt : Sl w [tb] 1 Awt wt.length cwt (wt.map I)) (hlg : Sl w [tb] 2 Alg lg.length clg (lg.flatMap gLogin)) (hlg_e : ∀ u ∈ lg, u.1.length ≤ 9223372036854775807 ∧ u.2.length ≤ 9223372036854775807) (hbs : Sl w [tb] 1 Abs bs.length cbs (bs.map I)) (hst : sx = 4) (hto : to = []) : Does Tryz.prog 48 [pB tb, .slice Abs bs.length cbs] w (fun v w' => ∃ Ar : Option Addr, ∃ cr : Nat, v = .slice Ar ((sayHello wt bs).2).length cr ∧ SH w w' [tb] [.blk tb 29 [I ((sayHello wt bs).1), .slice Awt wt.length cwt, .slice Alg lg.length clg, Str to], .own Ar (((sayHello wt bs).2).length) cr 3 1 (((sayHello wt bs).2).map I)]) := by
 refine fn_enter (N := 48) Tryz.func48 rfl (by kernel_rfl) rfl rfl rfl ?_
 have hwt_m : wt.length ≤ 9223372036854775807 := Nat.le_trans hwt.cap hwt.capMax
 have hlg_m : lg.length ≤ 9223372036854775807 := Nat.le_trans hlg.cap hlg.capMax
 have hs0 : SH w w [tb] [.blk tb 29 [I sx, .slice Awt wt.length cwt, .slice Alg lg.length clg, Str to]] := SH.entry1 htk
 have hbs_m : bs.length ≤ 9223372036854775807 := Nat.le_trans hbs.cap hbs.capMax
 refine sq (rg (qt rfl (asg (v := ns) rfl) (nl (nN (sq (rg (qt rfl (mv (v := .slice Abs bs.length cbs) rfl) ?_)))))))
 refine cl trivial rfl (iHelloFrom (Abs := Abs) (cbs := cbs) (bs := bs) (w := _) (hbs := (hbs.up hs0 (fun _ h => h) (by simp)))) ?_
 rintro _ w1 ⟨A1, c1, rfl, hs1'⟩
 have hs1 := hs0.call0 hs1'
 clear hs1'
 refine qt rfl (mv (v := .tuple #[.slice A1 (((helloFrom bs).1).length) c1, I ((helloFrom bs).2.1), .bool ((helloFrom bs).2.2)]) rfl) (qt rfl (xt 0 (v := .slice A1 (((helloFrom bs).1).length) c1) rfl rfl) (qt rfl (xt 1 (v := I ((helloFrom bs).2.1)) rfl rfl) (qt rfl (xt 2 (v := .bool ((helloFrom bs).2.2)) rfl rfl) (qt rfl (asg (v := .slice A1 (((helloFrom bs).1).length) c1) rfl) (qt rfl (asg (v := I ((helloFrom bs).2.1)) rfl) (qt rfl (asg (v := .bool ((helloFrom bs).2.2)) rfl) (nl ?_)))))))
 refine nN (sq (sq (rg (qt rfl (mv (v := .bool ((helloFrom bs).2.2)) rfl) (qt rfl (nt (b := (helloFrom bs).2.2) rfl) (qt rfl (mv (v := .bool (!((helloFrom bs).2.2))) rfl) ?_))))))
 refine spl (b := !((helloFrom bs).2.2)) 19 rfl (fun h1 => ?_) (fun h1 => ?_)
 · have h2 : ((helloFrom bs).2.2) = false := by simpa using h1
   refine gk true rfl rfl rfl rfl rfl (gk true rfl rfl rfl rfl rfl (gk true rfl rfl rfl rfl rfl (gk true rfl rfl rfl rfl rfl (qt rfl (pt (v := .bool true) rfl rfl) (nl (nN (cdt rfl ?_)))))))
   refine sq (rg (qt rfl (asg (v := ns) rfl) (nl (nN (rt (tR ?_))))))
   refine fret (v := ns) (.tmp .nil) rfl ?_
   have hs2 : SH w w1 [tb] [.blk tb 29 [I sx, .slice Awt wt.length cwt, .slice Alg lg.length clg, Str to], .own A1 (((helloFrom bs).1).length) c1 3 1 (((helloFrom bs).1).map I), .own none (([] : List Int).length) 0 3 1 (([] : List Int).map I)] := SH.nils (by intro i hi; simp at hi; subst hi; exact nilItem) hs1
   have e1 : ([] : List Int) = (sayHello wt bs).2 := by (rw [sayH_no1 (by assumption)]; done)
   have e2 : ([] : List Int).length = ((sayHello wt bs).2).length := by exact congrArg List.length e1
   have e3 : sx = (sayHello wt bs).1 := by (rw [sayH_no1 (by assumption)]) <;> (exact hst)
   exact ⟨none, 0, (slv rfl e2 rfl), ((hs2.pick [0, 2] rfl (by decide)).cast (lc (congrArg (It.blk tb 29) (lc (congrArg (Value.int .i64) e3) (lc rfl (lc rfl (lc rfl rfl))))) (lc (own_eq (g := I) rfl e2 rfl e1) rfl)))⟩
 · have h3 : ((helloFrom bs).2.2) = true := by simpa using h1
   refine q ⟨_, rfl, rfl⟩ rfl rfl (mv (v := I ((helloFrom bs).2.1)) rfl) (q ⟨_, rfl, rfl⟩ rfl rfl (mv (v := .slice Abs bs.length cbs) rfl) (q ⟨_, rfl, rfl⟩ rfl rfl (lnA (n := bs.length) sl22 rfl) (q ⟨_, rfl, rfl⟩ rfl rfl (lss (k := .i64) (a := (helloFrom bs).2.1) (b := ((bs.length : Nat) : Int)) rfl rfl) (qt rfl (pf (v := .bool (decide (((helloFrom bs).2.1) < ((bs.length : Nat) : Int)))) rfl rfl) (nl (nN ?_))))))
   refine cdd (p := ((helloFrom bs).2.1) < ((bs.length : Nat) : Int)) rfl (fun h4 => ?_) (fun h4 => ?_)
   · refine sq (rg (qt rfl (asg (v := ns) rfl) (nl (nN (rt (tR ?_))))))
     refine fret (v := ns) (.tmp .nil) rfl ?_
     have hs3 : SH w w1 [tb] [.blk tb 29 [I sx, .slice Awt wt.length cwt, .slice Alg lg.length clg, Str to], .own A1 (((helloFrom bs).1).length) c1 3 1 (((helloFrom bs).1).map I), .own none (([] : List Int).length) 0 3 1 (([] : List Int).map I)] := SH.nils (by intro i hi; simp at hi; subst hi; exact nilItem) hs1
     have e4 : ([] : List Int) = (sayHello wt bs).2 := by (rw [sayH_no2 (by assumption)]; done)
     have e5 : ([] : List Int).length = ((sayHello wt bs).2).length := by exact congrArg List.length e4
     have e6 : sx = (sayHello wt bs).1 := by (rw [sayH_no2 (by assumption)]) <;> (exact hst)
     exact ⟨none, 0, (slv rfl e5 rfl), ((hs3.pick [0, 2] rfl (by decide)).cast (lc (congrArg (It.blk tb 29) (lc (congrArg (Value.int .i64) e6) (lc rfl (lc rfl (lc rfl rfl))))) (lc (own_eq (g := I) rfl e5 rfl e4) rfl)))⟩
   · refine sk (nN (sq (rg (qt rfl (mv (v := pB tb) rfl) (qt rfl (nc rfl) (qt rfl (fa 1 fo29_1 rfl) (qt rfl (ld (v := .slice Awt wt.length cwt) hs1 0 rfl rfl rfl one22) ?_)))))))
     refine qt rfl (mv (v := .slice A1 (((helloFrom bs).1).length) c1) rfl) (cl trivial rfl (iHelloPick (Awt := Awt) (cwt := cwt) (wt := wt) (Ams := A1) (cms := c1) (ms := (helloFrom bs).1) (w := _) (hwt := (hwt.up hs1 (fun _ h => h) (by simp))) (hms := (hs1.sl0 1 rfl))) ?_)
     rintro _ w2 ⟨rfl, hs4'⟩
     have hs4 := hs1.call0 hs4'
     clear hs4'
     refine qt rfl (asg (v := I (helloPick wt ((helloFrom bs).1))) rfl) (nl (nN (sq (sq (rg (qt rfl (mv (v := I (helloPick wt ((helloFrom bs).1))) rfl) (nl ?_)))))))
     refine nN (bl (sq (rg (qt rfl (eqi (k := .i64) (a := helloPick wt ((helloFrom bs).1)) (b := 0) rfl rfl) (qt rfl (asg (v := .bool (decide ((helloPick wt ((helloFrom bs).1)) = 0))) rfl) (nl (nN ?_)))))))
     refine cdd (p := (helloPick wt ((helloFrom bs).1)) = 0) rfl (fun h5 => ?_) (fun h5 => ?_)
     · refine rg (qt rfl (mv (v := pB tb) rfl) (qt rfl (nc rfl) (qt rfl (fa 0 fo29_0 rfl) (st (v := I 2) hs4 0 rfl rfl rfl rfl rfl one3 trivial (fun w3 (hs5 : SH w w3 [tb] [.own A1 (((helloFrom bs).1).length) c1 3 1 (((helloFrom bs).1).map I), .blk tb 29 [I 2, .slice Awt wt.length cwt, .slice Alg lg.length clg, Str to]]) => ?_)))))
       refine nl (bN (nN (sq (rg (qt rfl (mv (v := I (helloPick wt ((helloFrom bs).1))) rfl) (cl trivial rfl (iPickBytes (m := helloPick wt ((helloFrom bs).1)) (w := _) (hm := (by exact pick_bd _ _))) ?_))))))
       rintro _ w4 ⟨A2, c2, rfl, hs6'⟩
       have hs6 := hs5.call0 hs6'
       clear hs6'
       refine qt rfl (mv (v := .tuple #[.slice A2 ([5, (helloPick wt ((helloFrom bs).1))].length) c2, .bool true]) rfl) (qt rfl (xt 0 (v := .slice A2 ([5, (helloPick wt ((helloFrom bs).1))].length) c2) rfl rfl) (qt rfl (xt 1 (v := .bool true) rfl rfl) (qt rfl (asg (v := .slice A2 ([5, (helloPick wt ((helloFrom bs).1))].length) c2) rfl) (qt rfl (asg (v := .bool true) rfl) (nl (nN (sq ?_)))))))
       refine rg (qt rfl (mv (v := .slice A2 ([5, (helloPick wt ((helloFrom bs).1))].length) c2) rfl) (qt rfl (asg (v := .slice A2 ([5, (helloPick wt ((helloFrom bs).1))].length) c2) rfl) (nl (nN (rt (fret (v := .slice A2 ([5, (helloPick wt ((helloFrom bs).1))].length) c2) (.tmp .nil) rfl ?_))))))
       have e7 : [5, (helloPick wt ((helloFrom bs).1))] = (sayHello wt bs).2 := by (rw [sayH_y (by assumption) (by assumption)]; done)
       have e8 : [5, (helloPick wt ((helloFrom bs).1))].length = ((sayHello wt bs).2).length := by exact congrArg List.length e7
       have e9 : 2 = (sayHello wt bs).1 := by (rw [sayH_y (by assumption) (by assumption)]) <;> ((simp [h3, h4, h5]; done))
       exact ⟨A2, c2, (slv rfl e8 rfl), ((hs6.pick [1, 2] rfl (by decide)).cast (lc (congrArg (It.blk tb 29) (lc (congrArg (Value.int .i64) e9) (lc rfl (lc rfl (lc rfl rfl))))) (lc (own_eq (g := I) rfl e8 rfl e7) rfl)))⟩
     · refine sq (rg (qt rfl (eqi (k := .i64) (a := helloPick wt ((helloFrom bs).1)) (b := 2) rfl rfl) (qt rfl (asg (v := .bool (decide ((helloPick wt ((helloFrom bs).1)) = 2))) rfl) (nl (nN ?_)))))
       refine cdd (p := (helloPick wt ((helloFrom bs).1)) = 2) rfl (fun h6 => ?_) (fun h6 => ?_)
       · refine rg (qt rfl (mv (v := pB tb) rfl) (qt rfl (nc rfl) (qt rfl (fa 0 fo29_0 rfl) (st (v := I 1) hs4 0 rfl rfl rfl rfl rfl one3 trivial (fun w5 (hs7 : SH w w5 [tb] [.own A1 (((helloFrom bs).1).length) c1 3 1 (((helloFrom bs).1).map I), .blk tb 29 [I 1, .slice Awt wt.length cwt, .slice Alg lg.length clg, Str to]]) => ?_)))))
         refine nl (bN (nN (sq (rg (qt rfl (mv (v := I (helloPick wt ((helloFrom bs).1))) rfl) (cl trivial rfl (iPickBytes (m := helloPick wt ((helloFrom bs).1)) (w := _) (hm := (by exact pick_bd _ _))) ?_))))))
         rintro _ w6 ⟨A3, c3, rfl, hs8'⟩
         have hs8 := hs7.call0 hs8'
         clear hs8'
         refine qt rfl (mv (v := .tuple #[.slice A3 ([5, (helloPick wt ((helloFrom bs).1))].length) c3, .bool true]) rfl) (qt rfl (xt 0 (v := .slice A3 ([5, (helloPick wt ((helloFrom bs).1))].length) c3) rfl rfl) (qt rfl (xt 1 (v := .bool true) rfl rfl) (qt rfl (asg (v := .slice A3 ([5, (helloPick wt ((helloFrom bs).1))].length) c3) rfl) (qt rfl (asg (v := .bool true) rfl) (nl (nN (sq ?_)))))))
         refine rg (qt rfl (mv (v := .slice A3 ([5, (helloPick wt ((helloFrom bs).1))].length) c3) rfl) (qt rfl (asg (v := .slice A3 ([5, (helloPick wt ((helloFrom bs).1))].length) c3) rfl) (nl (nN (rt (fret (v := .slice A3 ([5, (helloPick wt ((helloFrom bs).1))].length) c3) (.tmp .nil) rfl ?_))))))
         have e10 : [5, (helloPick wt ((helloFrom bs).1))] = (sayHello wt bs).2 := by (rw [sayH_y (by assumption) (by assumption)]; done)
         have e11 : [5, (helloPick wt ((helloFrom bs).1))].length = ((sayHello wt bs).2).length := by exact congrArg List.length e10
         have e12 : 1 = (sayHello wt bs).1 := by (rw [sayH_y (by assumption) (by assumption)]) <;> ((simp [h3, h4, h5, h6]; done))
         exact ⟨A3, c3, (slv rfl e11 rfl), ((hs8.pick [1, 2] rfl (by decide)).cast (lc (congrArg (It.blk tb 29) (lc (congrArg (Value.int .i64) e12) (lc rfl (lc rfl (lc rfl rfl))))) (lc (own_eq (g := I) rfl e11 rfl e10) rfl)))⟩
       · refine sk (bN (nN (sq (rg (qt rfl (mv (v := I (helloPick wt ((helloFrom bs).1))) rfl) (cl trivial rfl (iPickBytes (m := helloPick wt ((helloFrom bs).1)) (w := _) (hm := (by exact pick_bd _ _))) ?_))))))
         rintro _ w7 ⟨A4, c4, rfl, hs9'⟩
         have hs9 := hs4.call0 hs9'
         clear hs9'
         refine qt rfl (mv (v := .tuple #[.slice A4 ([5, (helloPick wt ((helloFrom bs).1))].length) c4, .bool true]) rfl) (qt rfl (xt 0 (v := .slice A4 ([5, (helloPick wt ((helloFrom bs).1))].length) c4) rfl rfl) (qt rfl (xt 1 (v := .bool true) rfl rfl) (qt rfl (asg (v := .slice A4 ([5, (helloPick wt ((helloFrom bs).1))].length) c4) rfl) (qt rfl (asg (v := .bool true) rfl) (nl (nN (sq ?_)))))))
         refine rg (qt rfl (mv (v := .slice A4 ([5, (helloPick wt ((helloFrom bs).1))].length) c4) rfl) (qt rfl (asg (v := .slice A4 ([5, (helloPick wt ((helloFrom bs).1))].length) c4) rfl) (nl (nN (rt (fret (v := .slice A4 ([5, (helloPick wt ((helloFrom bs).1))].length) c4) (.tmp .nil) rfl ?_))))))
         have e13 : [5, (helloPick wt ((helloFrom bs).1))] = (sayHello wt bs).2 := by (rw [sayH_y (by assumption) (by assumption)]; done)
         have e14 : [5, (helloPick wt ((helloFrom bs).1))].length = ((sayHello wt bs).2).length := by exact congrArg List.length e13
         have e15 : sx = (sayHello wt bs).1 := by (rw [sayH_y (by assumption) (by assumption)]) <;> ((simp [h3, h4, h5, h6, hst]; done))
         exact ⟨A4, c4, (slv rfl e14 rfl), ((hs9.pick [0, 2] rfl (by decide)).cast (lc (congrArg (It.blk tb 29) (lc (congrArg (Value.int .i64) e15) (lc rfl (lc rfl (lc rfl rfl))))) (lc (own_eq (g := I) rfl e14 rfl e13) rfl)))⟩
set_option maxHeartbeats 8000000 in
theorem tkLogin {tb : Nat} {Awt : Option Addr} {cwt : Nat} {Alg : Option Addr} {clg : Nat} (sx : Int) (wt : List Int) (lg : List Lg) (to : List UInt8) {Abs : Option Addr} {cbs : Nat} (bs : List Int) (w : World) (htk : w.heap[tb]? = some (.cells [.int .i64 sx, .slice Awt wt.length cwt, .slice Alg lg.length clg, Str to].toArray 29 (0, 0))) (hwt : Sl w [tb] 1 Awt wt.length cwt (wt.map I)) (hlg : Sl w [tb] 2 Alg lg.length clg (lg.flatMap gLogin)) (hlg_e : ∀ u ∈ lg, u.1.length ≤ 9223372036854775807 ∧ u.2.length ≤ 9223372036854775807) (hbs : Sl w [tb] 1 Abs bs.length cbs (bs.map I)) (hst : sx = 4) (hto : to = []) : Does Tryz.prog 49 [pB tb, .slice Abs bs.length cbs] w (fun v w' => ∃ Ar : Option Addr, ∃ cr : Nat, v = .slice Ar ((sayLogin lg bs).2).length cr ∧ SH w w' [tb] [.blk tb 29 [I ((sayLogin lg bs).1), .slice Awt wt.length cwt, .slice Alg lg.length clg, Str to], .own Ar (((sayLogin lg bs).2).length) cr 3 1 (((sayLogin lg bs).2).map I)]) := by
 refine fn_enter (N := 35) Tryz.func49 rfl (by kernel_rfl) rfl rfl rfl ?_
 have hwt_m : wt.length ≤ 9223372036854775807 := Nat.le_trans hwt.cap hwt.capMax
 have hlg_m : lg.length ≤ 9223372036854775807 := Nat.le_trans hlg.cap hlg.capMax
 have hs0 : SH w w [tb] [.blk tb 29 [I sx, .slice Awt wt.length cwt, .slice Alg lg.length clg, Str to]] := SH.entry1 htk
 have hbs_m : bs.length ≤ 9223372036854775807 := Nat.le_trans hbs.cap hbs.capMax
 refine sq (rg (qt rfl (asg (v := ns) rfl) (nl (nN (sq (rg (qt rfl (mv (v := .slice Abs bs.length cbs) rfl) ?_)))))))
 refine cl trivial rfl (iLoginFrom (Abs := Abs) (cbs := cbs) (bs := bs) (w := _) (hbs := (hbs.up hs0 (fun _ h => h) (by simp)))) ?_
 rintro _ w1 ⟨rfl, hs1'⟩
 have hs1 := hs0.call0 hs1'
 clear hs1'
 refine qt rfl (mv (v := .tuple #[.agg #[Str ((loginFrom bs).1.1), Str ((loginFrom bs).1.2)], I ((loginFrom bs).2.1), .bool ((loginFrom bs).2.2)]) rfl) (qt rfl (xt 0 (v := .agg #[Str ((loginFrom bs).1.1), Str ((loginFrom bs).1.2)]) rfl rfl) (qt rfl (xt 1 (v := I ((loginFrom bs).2.1)) rfl rfl) (qt rfl (xt 2 (v := .bool ((loginFrom bs).2.2)) rfl rfl) (al (v := .agg #[Str [], Str []]) (cs := [Str [], Str []]) hs1 tz51 rfl trivial rfl (fun b1 w2 (hs2 : SH w w2 [tb] [.blk tb 29 [I sx, .slice Awt wt.length cwt, .slice Alg lg.length clg, Str to], .blk b1 51 [Str [], Str []]]) => ?_)))))
 refine stg (vs := [Str ((loginFrom bs).1.1), Str ((loginFrom bs).1.2)]) hs2 1 rfl rfl rfl rfl rfl rfl rfl ag51 trivial (fun w3 (hs3 : SH w w3 [tb] [.blk tb 29 [I sx, .slice Awt wt.length cwt, .slice Alg lg.length clg, Str to], .blk b1 51 [Str ((loginFrom bs).1.1), Str ((loginFrom bs).1.2)]]) => ?_)
 refine qt rfl (asg (v := I ((loginFrom bs).2.1)) rfl) (qt rfl (asg (v := .bool ((loginFrom bs).2.2)) rfl) (nl (nN (sq (sq (rg (qt rfl (mv (v := .bool ((loginFrom bs).2.2)) rfl) ?_)))))))
 refine qt rfl (nt (b := (loginFrom bs).2.2) rfl) (qt rfl (mv (v := .bool (!((loginFrom bs).2.2))) rfl) ?_)
 refine spl (b := !((loginFrom bs).2.2)) 17 rfl (fun h1 => ?_) (fun h1 => ?_)
 · have h2 : ((loginFrom bs).2.2) = false := by simpa using h1
   refine gk true rfl rfl rfl rfl rfl (gk true rfl rfl rfl rfl rfl (gk true rfl rfl rfl rfl rfl (gk true rfl rfl rfl rfl rfl (qt rfl (pt (v := .bool true) rfl rfl) (nl (nN (cdt rfl ?_)))))))
   refine sq (rg (qt rfl (asg (v := ns) rfl) (nl (nN (rt (tR ?_))))))
   refine fret (v := ns) (.tmp .nil) rfl ?_
   have hs4 : SH w w3 [tb] [.blk tb 29 [I sx, .slice Awt wt.length cwt, .slice Alg lg.length clg, Str to], .blk b1 51 [Str ((loginFrom bs).1.1), Str ((loginFrom bs).1.2)], .own none (([] : List Int).length) 0 3 1 (([] : List Int).map I)] := SH.nils (by intro i hi; simp at hi; subst hi; exact nilItem) hs3
   have e1 : ([] : List Int) = (sayLogin lg bs).2 := by (rw [sayL_no1 (by assumption)]; done)
   have e2 : ([] : List Int).length = ((sayLogin lg bs).2).length := by exact congrArg List.length e1
   have e3 : sx = (sayLogin lg bs).1 := by (rw [sayL_no1 (by assumption)]) <;> (exact hst)
   exact ⟨none, 0, (slv rfl e2 rfl), ((hs4.pick [0, 2] rfl (by decide)).cast (lc (congrArg (It.blk tb 29) (lc (congrArg (Value.int .i64) e3) (lc rfl (lc rfl (lc rfl rfl))))) (lc (own_eq (g := I) rfl e2 rfl e1) rfl)))⟩
 · have h3 : ((loginFrom bs).2.2) = true := by simpa using h1
   refine q ⟨_, rfl, rfl⟩ rfl rfl (mv (v := I ((loginFrom bs).2.1)) rfl) (q ⟨_, rfl, rfl⟩ rfl rfl (mv (v := .slice Abs bs.length cbs) rfl) (q ⟨_, rfl, rfl⟩ rfl rfl (lnA (n := bs.length) sl22 rfl) (q ⟨_, rfl, rfl⟩ rfl rfl (lss (k := .i64) (a := (loginFrom bs).2.1) (b := ((bs.length : Nat) : Int)) rfl rfl) (qt rfl (pf (v := .bool (decide (((loginFrom bs).2.1) < ((bs.length : Nat) : Int)))) rfl rfl) (nl (nN ?_))))))
   refine cdd (p := ((loginFrom bs).2.1) < ((bs.length : Nat) : Int)) rfl (fun h4 => ?_) (fun h4 => ?_)
   · refine sq (rg (qt rfl (asg (v := ns) rfl) (nl (nN (rt (tR ?_))))))
     refine fret (v := ns) (.tmp .nil) rfl ?_
     have hs5 : SH w w3 [tb] [.blk tb 29 [I sx, .slice Awt wt.length cwt, .slice Alg lg.length clg, Str to], .blk b1 51 [Str ((loginFrom bs).1.1), Str ((loginFrom bs).1.2)], .own none (([] : List Int).length) 0 3 1 (([] : List Int).map I)] := SH.nils (by intro i hi; simp at hi; subst hi; exact nilItem) hs3
     have e4 : ([] : List Int) = (sayLogin lg bs).2 := by (rw [sayL_no2 (by assumption)]; done)
     have e5 : ([] : List Int).length = ((sayLogin lg bs).2).length := by exact congrArg List.length e4
     have e6 : sx = (sayLogin lg bs).1 := by (rw [sayL_no2 (by assumption)]) <;> (exact hst)
     exact ⟨none, 0, (slv rfl e5 rfl), ((hs5.pick [0, 2] rfl (by decide)).cast (lc (congrArg (It.blk tb 29) (lc (congrArg (Value.int .i64) e6) (lc rfl (lc rfl (lc rfl rfl))))) (lc (own_eq (g := I) rfl e5 rfl e4) rfl)))⟩
   · refine sk (nN (sq (rq (fun w' => SH w w' [tb] [.blk tb 29 [I sx, .slice Awt wt.length cwt, .slice Alg lg.length clg, Str to], .blk b1 51 [Str ((loginFrom bs).1.1), Str ((loginFrom bs).1.2)]]) mixed (by kernel_rfl) hs3.drew (qq trivial rfl rfl (fun wq hsq => mv (v := pB tb) rfl) (qq trivial rfl rfl (fun wq hsq => nc rfl) (qq trivial rfl rfl (fun wq hsq => fa 2 fo29_2 rfl) (qq trivial rfl rfl (fun wq hsq => ld (v := .slice Alg lg.length clg) hsq 0 rfl rfl rfl one27) ?_)))))))
     refine qq trivial rfl rfl (fun wq hsq => ldg (vs := [Str ((loginFrom bs).1.1), Str ((loginFrom bs).1.2)]) hsq 1 rfl rfl rfl rfl ag51) (qc (.bool (fitsL lg ((loginFrom bs).1.1) ((loginFrom bs).1.2))) trivial rfl (fun wq hsq => (iLoginFits (Alg := Alg) (clg := clg) (lg := lg) (lu := (loginFrom bs).1.1) (lw := (loginFrom bs).1.2) (w := _) (hlg := (hlg.up hsq (fun _ h => h) (by simp))) (hlg_e := hlg_e) (hlu_n := (by (have hlk := loginOk_fit (loginFrom_ok (by assumption : (loginFrom bs).2.2 = true)).2.1; first | omega | (simp; done) | (simp; omega)))) (hlw_n := (by (have hlk := loginOk_fit (loginFrom_ok (by assumption : (loginFrom bs).2.2 = true)).2.1; first | omega | (simp; done) | (simp; omega))))).mono (fun v w' h => ⟨h.1, by simpa using hsq.call0 h.2⟩)) (qq trivial rfl rfl (fun wq hsq => asg (v := .bool (fitsL lg ((loginFrom bs).1.1) ((loginFrom bs).1.2))) rfl) (qn (fun w4 hs6 => ?_))))
     refine nN (sq (sq (rg (qt rfl (mv (v := .bool (fitsL lg ((loginFrom bs).1.1) ((loginFrom bs).1.2))) rfl) (nl (nN ?_))))))
     refine cd (b := fitsL lg ((loginFrom bs).1.1) ((loginFrom bs).1.2)) rfl (fun h5 => ?_) (fun h5 => ?_)
     · refine rg (qt rfl (mv (v := pB tb) rfl) (qt rfl (nc rfl) (qt rfl (fa 0 fo29_0 rfl) (st (v := I 2) hs6 0 rfl rfl rfl rfl rfl one3 trivial (fun w5 (hs7 : SH w w5 [tb] [.blk b1 51 [Str ((loginFrom bs).1.1), Str ((loginFrom bs).1.2)], .blk tb 29 [I 2, .slice Awt wt.length cwt, .slice Alg lg.length clg, Str to]]) => ?_)))))
       refine nl (nN (sq (rg (qt rfl (mv (v := .bool (fitsL lg ((loginFrom bs).1.1) ((loginFrom bs).1.2))) rfl) (cl trivial rfl (iLoginReply (f := (fitsL lg ((loginFrom bs).1.1) ((loginFrom bs).1.2))) (w := _)) ?_)))))
       rintro _ w6 ⟨A1, c1, rfl, hs8'⟩
       have hs8 := hs7.call0 hs8'
       clear hs8'
       refine qt rfl (asg (v := .slice A1 ((lrB (fitsL lg ((loginFrom bs).1.1) ((loginFrom bs).1.2))).length) c1) rfl) (nl (nN (rt (fret (v := .slice A1 ((lrB (fitsL lg ((loginFrom bs).1.1) ((loginFrom bs).1.2))).length) c1) (.tmp .nil) rfl ?_))))
       have e7 : lrB (fitsL lg ((loginFrom bs).1.1) ((loginFrom bs).1.2)) = (sayLogin lg bs).2 := by (rw [sayL_y (by assumption) (by assumption)]; done)
       have e8 : (lrB (fitsL lg ((loginFrom bs).1.1) ((loginFrom bs).1.2))).length = ((sayLogin lg bs).2).length := by exact congrArg List.length e7
       have e9 : 2 = (sayLogin lg bs).1 := by (rw [sayL_y (by assumption) (by assumption)]) <;> ((simp [h3, h4, h5]; done))
       exact ⟨A1, c1, (slv rfl e8 rfl), ((hs8.pick [1, 2] rfl (by decide)).cast (lc (congrArg (It.blk tb 29) (lc (congrArg (Value.int .i64) e9) (lc rfl (lc rfl (lc rfl rfl))))) (lc (own_eq (g := I) rfl e8 rfl e7) rfl)))⟩
     · refine sk (nN (sq (rg (qt rfl (mv (v := .bool (fitsL lg ((loginFrom bs).1.1) ((loginFrom bs).1.2))) rfl) (cl trivial rfl (iLoginReply (f := (fitsL lg ((loginFrom bs).1.1) ((loginFrom bs).1.2))) (w := _)) ?_)))))
       rintro _ w7 ⟨A2, c2, rfl, hs9'⟩
       have hs9 := hs6.call0 hs9'
       clear hs9'
       refine qt rfl (asg (v := .slice A2 ((lrB (fitsL lg ((loginFrom bs).1.1) ((loginFrom bs).1.2))).length) c2) rfl) (nl (nN (rt (fret (v := .slice A2 ((lrB (fitsL lg ((loginFrom bs).1.1) ((loginFrom bs).1.2))).length) c2) (.tmp .nil) rfl ?_))))
       have e10 : lrB (fitsL lg ((loginFrom bs).1.1) ((loginFrom bs).1.2)) = (sayLogin lg bs).2 := by (rw [sayL_y (by assumption) (by assumption)]; done)
       have e11 : (lrB (fitsL lg ((loginFrom bs).1.1) ((loginFrom bs).1.2))).length = ((sayLogin lg bs).2).length := by exact congrArg List.length e10
       have e12 : sx = (sayLogin lg bs).1 := by (rw [sayL_y (by assumption) (by assumption)]) <;> ((simp [h3, h4, h5, hst]; done))
       exact ⟨A2, c2, (slv rfl e11 rfl), ((hs9.pick [0, 2] rfl (by decide)).cast (lc (congrArg (It.blk tb 29) (lc (congrArg (Value.int .i64) e12) (lc rfl (lc rfl (lc rfl rfl))))) (lc (own_eq (g := I) rfl e11 rfl e10) rfl)))⟩
theorem tkRequest {tb : Nat} {Awt : Option Addr} {cwt : Nat} {Alg : Option Addr} {clg : Nat} (sx : Int) (wt : List Int) (lg : List Lg) (to : List UInt8) {Abs : Option Addr} {cbs : Nat} (bs : List Int) (w : World) (htk : w.heap[tb]? = some (.cells [.int .i64 sx, .slice Awt wt.length cwt, .slice Alg lg.length clg, Str to].toArray 29 (0, 0))) (hwt : Sl w [tb] 1 Awt wt.length cwt (wt.map I)) (hlg : Sl w [tb] 2 Alg lg.length clg (lg.flatMap gLogin)) (hlg_e : ∀ u ∈ lg, u.1.length ≤ 9223372036854775807 ∧ u.2.length ≤ 9223372036854775807) (hbs : Sl w [tb] 1 Abs bs.length cbs (bs.map I)) (hst : sx = 4) (hto : to = []) (hGp : VarP Tryz.prog w [tb] "internal/strconv.uint64pow10" isPow) : Does Tryz.prog 50 [pB tb, .slice Abs bs.length cbs] w (fun v w' => ∃ Ar : Option Addr, ∃ cr : Nat, v = .slice Ar ((sayReq bs).2.2).length cr ∧ SH w w' [tb] [.blk tb 29 [I ((sayReq bs).1), .slice Awt wt.length cwt, .slice Alg lg.length clg, Str ((sayReq bs).2.1)], .own Ar (((sayReq bs).2.2).length) cr 3 1 (((sayReq bs).2.2).map I)]) := by
 refine fn_enter (N := 45) Tryz.func50 rfl (by kernel_rfl) rfl rfl rfl ?_
 have hwt_m : wt.length ≤ 9223372036854775807 := Nat.le_trans hwt.cap hwt.capMax
 have hlg_m : lg.length ≤ 9223372036854775807 := Nat.le_trans hlg.cap hlg.capMax
 have hs0 : SH w w [tb] [.blk tb 29 [I sx, .slice Awt wt.length cwt, .slice Alg lg.length clg, Str to]] := SH.entry1 htk
 have hbs_m : bs.length ≤ 9223372036854775807 := Nat.le_trans hbs.cap hbs.capMax
 refine sq (rg (qt rfl (asg (v := ns) rfl) (nl (nN (sq (rg (qt rfl (mv (v := .slice Abs bs.length cbs) rfl) ?_)))))))
 refine cl trivial rfl (iRequestFrom (Abs := Abs) (cbs := cbs) (bs := bs) (w := _) (hbs := (hbs.up hs0 (fun _ h => h) (by simp)))) ?_
 rintro _ w1 ⟨Aq1, cq1, rfl, hs1'⟩
 have hs1 := hs0.call0 hs1'
 clear hs1'
 refine qt rfl (mv (v := .tuple #[.agg #[I ((reqFrom bs).1.1), I ((reqFrom bs).1.2.1), .slice Aq1 (((reqFrom bs).1.2.2.1).length) cq1, Str ((reqFrom bs).1.2.2.2.1), I ((reqFrom bs).1.2.2.2.2)], I ((reqFrom bs).2.1), .bool ((reqFrom bs).2.2)]) rfl) (qt rfl (xt 0 (v := .agg #[I ((reqFrom bs).1.1), I ((reqFrom bs).1.2.1), .slice Aq1 (((reqFrom bs).1.2.2.1).length) cq1, Str ((reqFrom bs).1.2.2.2.1), I ((reqFrom bs).1.2.2.2.2)]) rfl rfl) (qt rfl (xt 1 (v := I ((reqFrom bs).2.1)) rfl rfl) (qt rfl (xt 2 (v := .bool ((reqFrom bs).2.2)) rfl rfl) (al (v := .agg #[I 0, I 0, ns, Str [], I 0]) (cs := [I 0, I 0, ns, Str [], I 0]) hs1 tz45 rfl trivial rfl (fun b1 w2 (hs2 : SH w w2 [tb] [.blk tb 29 [I sx, .slice Awt wt.length cwt, .slice Alg lg.length clg, Str to], .own Aq1 (((reqFrom bs).1.2.2.1).length) cq1 3 1 (((reqFrom bs).1.2.2.1).map I), .blk b1 45 [I 0, I 0, ns, Str [], I 0]]) => ?_)))))
 refine stg (vs := [I ((reqFrom bs).1.1), I ((reqFrom bs).1.2.1), .slice Aq1 (((reqFrom bs).1.2.2.1).length) cq1, Str ((reqFrom bs).1.2.2.2.1), I ((reqFrom bs).1.2.2.2.2)]) hs2 2 rfl rfl rfl rfl rfl rfl rfl ag45 trivial (fun w3 (hs3 : SH w w3 [tb] [.blk tb 29 [I sx, .slice Awt wt.length cwt, .slice Alg lg.length clg, Str to], .own Aq1 (((reqFrom bs).1.2.2.1).length) cq1 3 1 (((reqFrom bs).1.2.2.1).map I), .blk b1 45 [I ((reqFrom bs).1.1), I ((reqFrom bs).1.2.1), .slice Aq1 (((reqFrom bs).1.2.2.1).length) cq1, Str ((reqFrom bs).1.2.2.2.1), I ((reqFrom bs).1.2.2.2.2)]]) => ?_)
 refine qt rfl (asg (v := I ((reqFrom bs).2.1)) rfl) (qt rfl (asg (v := .bool ((reqFrom bs).2.2)) rfl) (nl (nN (sq (sq (rg (qt rfl (mv (v := .bool ((reqFrom bs).2.2)) rfl) ?_)))))))
 refine qt rfl (nt (b := (reqFrom bs).2.2) rfl) (qt rfl (mv (v := .bool (!((reqFrom bs).2.2))) rfl) ?_)
 refine spl (b := !((reqFrom bs).2.2)) 19 rfl (fun h1 => ?_) (fun h1 => ?_)
 · have h2 : ((reqFrom bs).2.2) = false := by simpa using h1
   refine gk true rfl rfl rfl rfl rfl (gk true rfl rfl rfl rfl rfl (gk true rfl rfl rfl rfl rfl (gk true rfl rfl rfl rfl rfl (qt rfl (pt (v := .bool true) rfl rfl) (nl (nN (cdt rfl ?_)))))))
   refine sq (rg (qt rfl (asg (v := ns) rfl) (nl (nN (rt (tR ?_))))))
   refine fret (v := ns) (.tmp .nil) rfl ?_
   have hs4 : SH w w3 [tb] [.blk tb 29 [I sx, .slice Awt wt.length cwt, .slice Alg lg.length clg, Str to], .own Aq1 (((reqFrom bs).1.2.2.1).length) cq1 3 1 (((reqFrom bs).1.2.2.1).map I), .blk b1 45 [I ((reqFrom bs).1.1), I ((reqFrom bs).1.2.1), .slice Aq1 (((reqFrom bs).1.2.2.1).length) cq1, Str ((reqFrom bs).1.2.2.2.1), I ((reqFrom bs).1.2.2.2.2)], .own none (([] : List Int).length) 0 3 1 (([] : List Int).map I)] := SH.nils (by intro i hi; simp at hi; subst hi; exact nilItem) hs3
   have e1 : ([] : List Int) = (sayReq bs).2.2 := by (rw [sayR_no1 (by assumption)]; done)
   have e2 : ([] : List Int).length = ((sayReq bs).2.2).length := by exact congrArg List.length e1
   have e3 : sx = (sayReq bs).1 := by (rw [sayR_no1 (by assumption)]) <;> (exact hst)
   have e4 : to = (sayReq bs).2.1 := by (rw [sayR_no1 (by assumption)]) <;> (exact hto)
   exact ⟨none, 0, (slv rfl e2 rfl), ((hs4.pick [0, 3] rfl (by decide)).cast (lc (congrArg (It.blk tb 29) (lc (congrArg (Value.int .i64) e3) (lc rfl (lc rfl (lc (congrArg Str e4) rfl))))) (lc (own_eq (g := I) rfl e2 rfl e1) rfl)))⟩
 · have h3 : ((reqFrom bs).2.2) = true := by simpa using h1
   refine q ⟨_, rfl, rfl⟩ rfl rfl (mv (v := I ((reqFrom bs).2.1)) rfl) (q ⟨_, rfl, rfl⟩ rfl rfl (mv (v := .slice Abs bs.length cbs) rfl) (q ⟨_, rfl, rfl⟩ rfl rfl (lnA (n := bs.length) sl22 rfl) (q ⟨_, rfl, rfl⟩ rfl rfl (lss (k := .i64) (a := (reqFrom bs).2.1) (b := ((bs.length : Nat) : Int)) rfl rfl) (qt rfl (pf (v := .bool (decide (((reqFrom bs).2.1) < ((bs.length : Nat) : Int)))) rfl rfl) (nl (nN ?_))))))
   refine cdd (p := ((reqFrom bs).2.1) < ((bs.length : Nat) : Int)) rfl (fun h4 => ?_) (fun h4 => ?_)
   · refine sq (rg (qt rfl (asg (v := ns) rfl) (nl (nN (rt (tR ?_))))))
     refine fret (v := ns) (.tmp .nil) rfl ?_
     have hs5 : SH w w3 [tb] [.blk tb 29 [I sx, .slice Awt wt.length cwt, .slice Alg lg.length clg, Str to], .own Aq1 (((reqFrom bs).1.2.2.1).length) cq1 3 1 (((reqFrom bs).1.2.2.1).map I), .blk b1 45 [I ((reqFrom bs).1.1), I ((reqFrom bs).1.2.1), .slice Aq1 (((reqFrom bs).1.2.2.1).length) cq1, Str ((reqFrom bs).1.2.2.2.1), I ((reqFrom bs).1.2.2.2.2)], .own none (([] : List Int).length) 0 3 1 (([] : List Int).map I)] := SH.nils (by intro i hi; simp at hi; subst hi; exact nilItem) hs3
     have e5 : ([] : List Int) = (sayReq bs).2.2 := by (rw [sayR_no2 (by assumption)]; done)
     have e6 : ([] : List Int).length = ((sayReq bs).2.2).length := by exact congrArg List.length e5
     have e7 : sx = (sayReq bs).1 := by (rw [sayR_no2 (by assumption)]) <;> (exact hst)
     have e8 : to = (sayReq bs).2.1 := by (rw [sayR_no2 (by assumption)]) <;> (exact hto)
     exact ⟨none, 0, (slv rfl e6 rfl), ((hs5.pick [0, 3] rfl (by decide)).cast (lc (congrArg (It.blk tb 29) (lc (congrArg (Value.int .i64) e7) (lc rfl (lc rfl (lc (congrArg Str e8) rfl))))) (lc (own_eq (g := I) rfl e6 rfl e5) rfl)))⟩
   · refine sk (nN (sq (rg (qt rfl (asg (v := I 7) rfl) (nl (nN (sq ?_)))))))
     refine sq (rg (qt rfl (fa 0 fo45_0 rfl) (qt rfl (ld (v := I ((reqFrom bs).1.1)) hs3 2 rfl rfl rfl one3) (qt rfl (eqi (k := .i64) (a := (reqFrom bs).1.1) (b := 1) rfl rfl) (nl (nN ?_))))))
     refine cdd (p := ((reqFrom bs).1.1) = 1) rfl (fun h5 => ?_) (fun h5 => ?_)
     · refine sq (rg (qt rfl (asg (v := I 0) rfl) (nl (nN (sq (rg (qt rfl (mv (v := pB tb) rfl) ?_)))))))
       refine qt rfl (nc rfl) (qt rfl (fa 0 fo29_0 rfl) (st (v := I 3) hs3 0 rfl rfl rfl rfl rfl one3 trivial (fun w4 (hs6 : SH w w4 [tb] [.own Aq1 (((reqFrom bs).1.2.2.1).length) cq1 3 1 (((reqFrom bs).1.2.2.1).map I), .blk b1 45 [I ((reqFrom bs).1.1), I ((reqFrom bs).1.2.1), .slice Aq1 (((reqFrom bs).1.2.2.1).length) cq1, Str ((reqFrom bs).1.2.2.2.1), I ((reqFrom bs).1.2.2.2.2)], .blk tb 29 [I 3, .slice Awt wt.length cwt, .slice Alg lg.length clg, Str to]]) => ?_)))
       refine nl (nN (rg (qt rfl (mv (v := pB tb) rfl) (qt rfl (fa 1 fo45_1 rfl) (qt rfl (ldg (vs := [I ((reqFrom bs).1.2.1), .slice Aq1 (((reqFrom bs).1.2.2.1).length) cq1, Str ((reqFrom bs).1.2.2.2.1), I ((reqFrom bs).1.2.2.2.2)]) hs6 1 rfl rfl rfl rfl ag43) (cl trivial rfl (iAddressText (ak := (reqFrom bs).1.2.1) (Aaq := Aq1) (caq := cq1) (aq := (reqFrom bs).1.2.2.1) (an := (reqFrom bs).1.2.2.2.1) (apt := (reqFrom bs).1.2.2.2.2) (w := _) (haq := (hs6.sl0 0 rfl)) (han_n := (by (have hrn := reqFrom_nm bs; first | omega | (simp; done) | (simp; omega)))) (hok := (by exact (reqFrom_ok (by assumption)).1)) (hGp := (hGp.up hs6 (fun _ h => h) (by simp)))) ?_))))))
       rintro _ w5 ⟨rfl, hs7'⟩
       have hs7 := hs6.call0 hs7'
       clear hs7'
       refine qt rfl (nc rfl) (qt rfl (fa 3 fo29_3 rfl) (st (v := Str (hostT ((reqFrom bs).1.2.1) ((reqFrom bs).1.2.2.1) ((reqFrom bs).1.2.2.2.1) ++ [58] ++ Lib.itoa ((reqFrom bs).1.2.2.2.2))) hs7 2 rfl rfl rfl rfl rfl one9 trivial (fun w6 (hs8 : SH w w6 [tb] [.own Aq1 (((reqFrom bs).1.2.2.1).length) cq1 3 1 (((reqFrom bs).1.2.2.1).map I), .blk b1 45 [I ((reqFrom bs).1.1), I ((reqFrom bs).1.2.1), .slice Aq1 (((reqFrom bs).1.2.2.1).length) cq1, Str ((reqFrom bs).1.2.2.2.1), I ((reqFrom bs).1.2.2.2.2)], .blk tb 29 [I 3, .slice Awt wt.length cwt, .slice Alg lg.length clg, Str (hostT ((reqFrom bs).1.2.1) ((reqFrom bs).1.2.2.1) ((reqFrom bs).1.2.2.2.1) ++ [58] ++ Lib.itoa ((reqFrom bs).1.2.2.2.2))]]) => ?_)))
       refine nl (nN (sq (rg (qt rfl (mv (v := I 0) rfl) (qt rfl (fa 1 fo45_1 rfl) (qt rfl (ldg (vs := [I ((reqFrom bs).1.2.1), .slice Aq1 (((reqFrom bs).1.2.2.1).length) cq1, Str ((reqFrom bs).1.2.2.2.1), I ((reqFrom bs).1.2.2.2.2)]) hs8 1 rfl rfl rfl rfl ag43) (cl trivial rfl (iReplyBytes (c := 0) (ak := (reqFrom bs).1.2.1) (Aaq := Aq1) (caq := cq1) (aq := (reqFrom bs).1.2.2.1) (an := (reqFrom bs).1.2.2.2.1) (apt := (reqFrom bs).1.2.2.2.2) (w := _) (haq := (hs8.sl0 0 rfl)) (han_n := (by (have hrn := reqFrom_nm bs; first | omega | (simp; done) | (simp; omega))))) ?_)))))))
       rintro _ w7 ⟨A1, c1, rfl, hs9'⟩
       have hs9 := hs8.call0 hs9'
       clear hs9'
       refine qt rfl (mv (v := .tuple #[.slice A1 (((replyP 0 ((reqFrom bs).1.2.1) ((reqFrom bs).1.2.2.1) ((reqFrom bs).1.2.2.2.1) ((reqFrom bs).1.2.2.2.2)).1).length) c1, .bool ((replyP 0 ((reqFrom bs).1.2.1) ((reqFrom bs).1.2.2.1) ((reqFrom bs).1.2.2.2.1) ((reqFrom bs).1.2.2.2.2)).2)]) rfl) (qt rfl (xt 0 (v := .slice A1 (((replyP 0 ((reqFrom bs).1.2.1) ((reqFrom bs).1.2.2.1) ((reqFrom bs).1.2.2.2.1) ((reqFrom bs).1.2.2.2.2)).1).length) c1) rfl rfl) (qt rfl (xt 1 (v := .bool ((replyP 0 ((reqFrom bs).1.2.1) ((reqFrom bs).1.2.2.1) ((reqFrom bs).1.2.2.2.1) ((reqFrom bs).1.2.2.2.2)).2)) rfl rfl) (qt rfl (asg (v := .slice A1 (((replyP 0 ((reqFrom bs).1.2.1) ((reqFrom bs).1.2.2.1) ((reqFrom bs).1.2.2.2.1) ((reqFrom bs).1.2.2.2.2)).1).length) c1) rfl) (qt rfl (asg (v := .bool ((replyP 0 ((reqFrom bs).1.2.1) ((reqFrom bs).1.2.2.1) ((reqFrom bs).1.2.2.2.1) ((reqFrom bs).1.2.2.2.2)).2)) rfl) (nl (nN ?_))))))
       have hs10 : SH w w7 [tb] [.blk tb 29 [I 3, .slice Awt wt.length cwt, .slice Alg lg.length clg, Str (hostT ((reqFrom bs).1.2.1) ((reqFrom bs).1.2.2.1) ((reqFrom bs).1.2.2.2.1) ++ [58] ++ Lib.itoa ((reqFrom bs).1.2.2.2.2))], .own A1 (((replyP 0 ((reqFrom bs).1.2.1) ((reqFrom bs).1.2.2.1) ((reqFrom bs).1.2.2.2.1) ((reqFrom bs).1.2.2.2.2)).1).length) c1 3 1 (((replyP 0 ((reqFrom bs).1.2.1) ((reqFrom bs).1.2.2.1) ((reqFrom bs).1.2.2.2.1) ((reqFrom bs).1.2.2.2.2)).1).map I)] := hs9.pick [2, 3] rfl (by decide)
       refine sq (rg (qt rfl (mv (v := .slice A1 (((replyP 0 ((reqFrom bs).1.2.1) ((reqFrom bs).1.2.2.1) ((reqFrom bs).1.2.2.2.1) ((reqFrom bs).1.2.2.2.2)).1).length) c1) rfl) (qt rfl (asg (v := .slice A1 (((replyP 0 ((reqFrom bs).1.2.1) ((reqFrom bs).1.2.2.1) ((reqFrom bs).1.2.2.2.1) ((reqFrom bs).1.2.2.2.2)).1).length) c1) rfl) (nl (nN (rt (fret (v := .slice A1 (((replyP 0 ((reqFrom bs).1.2.1) ((reqFrom bs).1.2.2.1) ((reqFrom bs).1.2.2.2.1) ((reqFrom bs).1.2.2.2.2)).1).length) c1) (.tmp .nil) rfl ?_)))))))
       have e9 : (replyP 0 ((reqFrom bs).1.2.1) ((reqFrom bs).1.2.2.1) ((reqFrom bs).1.2.2.2.1) ((reqFrom bs).1.2.2.2.2)).1 = (sayReq bs).2.2 := by (rw [sayR_c (by assumption) (reqFrom_n (by assumption) (by assumption)) (by assumption)]; done)
       have e10 : ((replyP 0 ((reqFrom bs).1.2.1) ((reqFrom bs).1.2.2.1) ((reqFrom bs).1.2.2.2.1) ((reqFrom bs).1.2.2.2.2)).1).length = ((sayReq bs).2.2).length := by exact congrArg List.length e9
       have e11 : 3 = (sayReq bs).1 := by (rw [sayR_c (by assumption) (reqFrom_n (by assumption) (by assumption)) (by assumption)]) <;> (first | done | exact hst | exact hto | exact addrT_y (reqFrom_ok (by assumption)).1)
       have e12 : hostT ((reqFrom bs).1.2.1) ((reqFrom bs).1.2.2.1) ((reqFrom bs).1.2.2.2.1) ++ [58] ++ Lib.itoa ((reqFrom bs).1.2.2.2.2) = (sayReq bs).2.1 := by (rw [sayR_c (by assumption) (reqFrom_n (by assumption) (by assumption)) (by assumption)]) <;> (exact addrT_y (reqFrom_ok (by assumption)).1)
       exact ⟨A1, c1, (slv rfl e10 rfl), (hs10.cast (lc (congrArg (It.blk tb 29) (lc (congrArg (Value.int .i64) e11) (lc rfl (lc rfl (lc (congrArg Str e12) rfl))))) (lc (own_eq (g := I) rfl e10 rfl e9) rfl)))⟩
     · refine sk (nN (sq (rg (qt rfl (mv (v := I 7) rfl) (qt rfl (fa 1 fo45_1 rfl) (qt rfl (ldg (vs := [I ((reqFrom bs).1.2.1), .slice Aq1 (((reqFrom bs).1.2.2.1).length) cq1, Str ((reqFrom bs).1.2.2.2.1), I ((reqFrom bs).1.2.2.2.2)]) hs3 2 rfl rfl rfl rfl ag43) (cl trivial rfl (iReplyBytes (c := 7) (ak := (reqFrom bs).1.2.1) (Aaq := Aq1) (caq := cq1) (aq := (reqFrom bs).1.2.2.1) (an := (reqFrom bs).1.2.2.2.1) (apt := (reqFrom bs).1.2.2.2.2) (w := _) (haq := (hs3.sl0 1 rfl)) (han_n := (by (have hrn := reqFrom_nm bs; first | omega | (simp; done) | (simp; omega))))) ?_)))))))
       rintro _ w8 ⟨A2, c2, rfl, hs11'⟩
       have hs11 := hs3.call0 hs11'
       clear hs11'
       refine qt rfl (mv (v := .tuple #[.slice A2 (((replyP 7 ((reqFrom bs).1.2.1) ((reqFrom bs).1.2.2.1) ((reqFrom bs).1.2.2.2.1) ((reqFrom bs).1.2.2.2.2)).1).length) c2, .bool ((replyP 7 ((reqFrom bs).1.2.1) ((reqFrom bs).1.2.2.1) ((reqFrom bs).1.2.2.2.1) ((reqFrom bs).1.2.2.2.2)).2)]) rfl) (qt rfl (xt 0 (v := .slice A2 (((replyP 7 ((reqFrom bs).1.2.1) ((reqFrom bs).1.2.2.1) ((reqFrom bs).1.2.2.2.1) ((reqFrom bs).1.2.2.2.2)).1).length) c2) rfl rfl) (qt rfl (xt 1 (v := .bool ((replyP 7 ((reqFrom bs).1.2.1) ((reqFrom bs).1.2.2.1) ((reqFrom bs).1.2.2.2.1) ((reqFrom bs).1.2.2.2.2)).2)) rfl rfl) (qt rfl (asg (v := .slice A2 (((replyP 7 ((reqFrom bs).1.2.1) ((reqFrom bs).1.2.2.1) ((reqFrom bs).1.2.2.2.1) ((reqFrom bs).1.2.2.2.2)).1).length) c2) rfl) (qt rfl (asg (v := .bool ((replyP 7 ((reqFrom bs).1.2.1) ((reqFrom bs).1.2.2.1) ((reqFrom bs).1.2.2.2.1) ((reqFrom bs).1.2.2.2.2)).2)) rfl) (nl (nN ?_))))))
       have hs12 : SH w w8 [tb] [.blk tb 29 [I sx, .slice Awt wt.length cwt, .slice Alg lg.length clg, Str to], .own A2 (((replyP 7 ((reqFrom bs).1.2.1) ((reqFrom bs).1.2.2.1) ((reqFrom bs).1.2.2.2.1) ((reqFrom bs).1.2.2.2.2)).1).length) c2 3 1 (((replyP 7 ((reqFrom bs).1.2.1) ((reqFrom bs).1.2.2.1) ((reqFrom bs).1.2.2.2.1) ((reqFrom bs).1.2.2.2.2)).1).map I)] := hs11.pick [0, 3] rfl (by decide)
       refine sq (rg (qt rfl (mv (v := .slice A2 (((replyP 7 ((reqFrom bs).1.2.1) ((reqFrom bs).1.2.2.1) ((reqFrom bs).1.2.2.2.1) ((reqFrom bs).1.2.2.2.2)).1).length) c2) rfl) (qt rfl (asg (v := .slice A2 (((replyP 7 ((reqFrom bs).1.2.1) ((reqFrom bs).1.2.2.1) ((reqFrom bs).1.2.2.2.1) ((reqFrom bs).1.2.2.2.2)).1).length) c2) rfl) (nl (nN (rt (fret (v := .slice A2 (((replyP 7 ((reqFrom bs).1.2.1) ((reqFrom bs).1.2.2.1) ((reqFrom bs).1.2.2.2.1) ((reqFrom bs).1.2.2.2.2)).1).length) c2) (.tmp .nil) rfl ?_)))))))
       have e13 : (replyP 7 ((reqFrom bs).1.2.1) ((reqFrom bs).1.2.2.1) ((reqFrom bs).1.2.2.2.1) ((reqFrom bs).1.2.2.2.2)).1 = (sayReq bs).2.2 := by (rw [sayR_n (by assumption) (reqFrom_n (by assumption) (by assumption)) (by assumption)]; done)
       have e14 : ((replyP 7 ((reqFrom bs).1.2.1) ((reqFrom bs).1.2.2.1) ((reqFrom bs).1.2.2.2.1) ((reqFrom bs).1.2.2.2.2)).1).length = ((sayReq bs).2.2).length := by exact congrArg List.length e13
       have e15 : sx = (sayReq bs).1 := by (rw [sayR_n (by assumption) (reqFrom_n (by assumption) (by assumption)) (by assumption)]) <;> (exact hst)
       have e16 : to = (sayReq bs).2.1 := by (rw [sayR_n (by assumption) (reqFrom_n (by assumption) (by assumption)) (by assumption)]) <;> (exact hto)
       exact ⟨A2, c2, (slv rfl e14 rfl), (hs12.cast (lc (congrArg (It.blk tb 29) (lc (congrArg (Value.int .i64) e15) (lc rfl (lc rfl (lc (congrArg Str e16) rfl))))) (lc (own_eq (g := I) rfl e14 rfl e13) rfl)))⟩
theorem iTalkSay (sx : Int) {Awt : Option Addr} {cwt : Nat} (wt : List Int) {Alg : Option Addr} {clg : Nat} (lg : List (List UInt8 × List UInt8)) (to : List UInt8) {Abs : Option Addr} {cbs : Nat} (bs : List Int) (w : World) (hwt : Sl w [] 1 Awt wt.length cwt (wt.map I)) (hlg : Sl w [] 2 Alg lg.length clg (lg.flatMap gLogin)) (hlg_e : ∀ u ∈ lg, u.1.length ≤ 9223372036854775807 ∧ u.2.length ≤ 9223372036854775807) (hto_n : to.length ≤ 1099511627776) (hbs : Sl w [] 1 Abs bs.length cbs (bs.map I)) (hGp : VarP Tryz.prog w [] "internal/strconv.uint64pow10" isPow) (hEr : VarP Tryz.prog w [] "strconv.ErrRange" isIfc) (hEs : VarP Tryz.prog w [] "strconv.ErrSyntax" isIfc) : Does Tryz.prog 15 [.agg #[I sx, .slice Awt wt.length cwt, .slice Alg lg.length clg, Str to], .slice Abs bs.length cbs] w (fun v w' => ∃ Awr : Option Addr, ∃ cwr : Nat, ∃ Alr : Option Addr, ∃ clr : Nat, ∃ Ayr : Option Addr, ∃ cyr : Nat, v = .tuple #[.agg #[.int .i64 ((talkSay sx wt lg to bs).1.1), .slice Awr ((talkSay sx wt lg to bs).1.2.1).length cwr, .slice Alr ((talkSay sx wt lg to bs).1.2.2.1).length clr, Str ((talkSay sx wt lg to bs).1.2.2.2)], .slice Ayr ((talkSay sx wt lg to bs).2.1).length cyr, .bool ((talkSay sx wt lg to bs).2.2)] ∧ SH w w' [] [.own Awr (((talkSay sx wt lg to bs).1.2.1).length) cwr 3 1 (((talkSay sx wt lg to bs).1.2.1).map I), .own Alr (((talkSay sx wt lg to bs).1.2.2.1).length) clr 51 2 (((talkSay sx wt lg to bs).1.2.2.1).flatMap gLogin), .own Ayr (((talkSay sx wt lg to bs).2.1).length) cyr 3 1 (((talkSay sx wt lg to bs).2.1).map I)]) := by
 refine fn_enter (N := 44) Tryz.func15 rfl (by kernel_rfl) rfl rfl rfl ?_
 have hs0 : SH w w [] [] := SH.refl w []
 have hwt_m : wt.length ≤ 9223372036854775807 := Nat.le_trans hwt.cap hwt.capMax
 have hlg_m : lg.length ≤ 9223372036854775807 := Nat.le_trans hlg.cap hlg.capMax
 have hbs_m : bs.length ≤ 9223372036854775807 := Nat.le_trans hbs.cap hbs.capMax
 refine sq (rg (bx (v := .agg #[I sx, .slice Awt wt.length cwt, .slice Alg lg.length clg, Str to]) (cs := [I sx, .slice Awt wt.length cwt, .slice Alg lg.length clg, Str to]) hs0 rfl rfl trivial rfl (fun b1 w1 (hs1 : SH w w1 [] [.blk b1 29 [I sx, .slice Awt wt.length cwt, .slice Alg lg.length clg, Str to]]) => ?_)))
 refine al (v := .agg #[I 0, ns, ns, Str []]) (cs := [I 0, ns, ns, Str []]) hs1 tz29 rfl trivial rfl (fun b2 w2 (hs2 : SH w w2 [] [.blk b1 29 [I sx, .slice Awt wt.length cwt, .slice Alg lg.length clg, Str to], .blk b2 29 [I 0, ns, ns, Str []]]) => ?_)
 refine qt rfl (asg (v := ns) rfl) (qt rfl (asg (v := .bool false) rfl) (nl (nN (sq (sq (rg (qt rfl (ldg (vs := [I sx, .slice Awt wt.length cwt, .slice Alg lg.length clg, Str to]) hs2 0 rfl rfl rfl rfl ag29) ?_)))))))
 refine cl trivial rfl (iTalkValid (sx := sx) (Awt := Awt) (cwt := cwt) (wt := wt) (Alg := Alg) (clg := clg) (lg := lg) (to := to) (w := _) (hwt := (hwt.up0 hs2)) (hlg := (hlg.up0 hs2)) (hlg_e := hlg_e) (hto_n := (by (first | omega | (simp; done) | (simp; omega)))) (hGp := (hGp.up0 hs2)) (hEr := (hEr.up0 hs2)) (hEs := (hEs.up0 hs2))) ?_
 rintro _ w3 ⟨rfl, hs3'⟩
 have hs3 := hs2.call0 hs3'
 clear hs3'
 refine qt rfl (nt (b := talkOk sx wt lg to) rfl) (qt rfl (mv (v := .bool (!(talkOk sx wt lg to))) rfl) ?_)
 refine spl (b := !(talkOk sx wt lg to)) 13 rfl (fun h1 => ?_) (fun h1 => ?_)
 · have h2 : (talkOk sx wt lg to) = false := by simpa using h1
   refine gk true rfl rfl rfl rfl rfl (gk true rfl rfl rfl rfl rfl (gk true rfl rfl rfl rfl rfl (qt rfl (pt (v := .bool true) rfl rfl) (qt rfl (mv (v := .bool true) rfl) (gk true rfl rfl rfl rfl rfl (gk true rfl rfl rfl rfl rfl (gk true rfl rfl rfl rfl rfl ?_)))))))
   refine qt rfl (pt (v := .bool true) rfl rfl) (nl (nN (cdt rfl (sq (rg (qt rfl (bdv (v := .agg #[I 0, ns, ns, Str []]) [] rfl (fun _ => by kernel_rfl)) (stg (vs := [I 0, ns, ns, Str []]) hs3 1 rfl rfl rfl rfl rfl rfl rfl ag29 trivial (fun w4 (hs4 : SH w w4 [] [.blk b1 29 [I sx, .slice Awt wt.length cwt, .slice Alg lg.length clg, Str to], .blk b2 29 [I 0, ns, ns, Str []]]) => ?_))))))))
   refine qt rfl (asg (v := ns) rfl) (qt rfl (asg (v := .bool false) rfl) (nl (nN (rt (tR ?_)))))
   refine fret (v := .tuple #[.agg #[I 0, ns, ns, Str []], ns, .bool false]) (resC hs4 1 rfl rfl ag29 rfl (.tmp (.tmp .nil))) rfl ?_
   have hs5 : SH w w4 [] [.blk b1 29 [I sx, .slice Awt wt.length cwt, .slice Alg lg.length clg, Str to], .blk b2 29 [I 0, ns, ns, Str []], .own none (([] : List Int).length) 0 3 1 (([] : List Int).map I)] := SH.nils (by intro i hi; simp at hi; subst hi; exact nilItem) hs4
   have hs6 : SH w w4 [] [.blk b1 29 [I sx, .slice Awt wt.length cwt, .slice Alg lg.length clg, Str to], .blk b2 29 [I 0, ns, ns, Str []], .own none (([] : List Int).length) 0 3 1 (([] : List Int).map I), .own none (([] : List (List UInt8 × List UInt8)).length) 0 51 2 (([] : List (List UInt8 × List UInt8)).flatMap gLogin)] := SH.nils (by intro i hi; simp at hi; subst hi; exact nilItemF) hs5
   have hs7 : SH w w4 [] [.blk b1 29 [I sx, .slice Awt wt.length cwt, .slice Alg lg.length clg, Str to], .blk b2 29 [I 0, ns, ns, Str []], .own none (([] : List Int).length) 0 3 1 (([] : List Int).map I), .own none (([] : List (List UInt8 × List UInt8)).length) 0 51 2 (([] : List (List UInt8 × List UInt8)).flatMap gLogin), .own none (([] : List Int).length) 0 3 1 (([] : List Int).map I)] := SH.nils (by intro i hi; simp at hi; subst hi; exact nilItem) hs6
   have e1 : talkSay sx wt lg to bs = ((0, ([] : List Int), ([] : List (List UInt8 × List UInt8)), []), ([] : List Int), false) := by exact talkSay_no (.inl (by assumption))
   have e2 : 0 = (talkSay sx wt lg to bs).1.1 := by rw [e1]
   have e3 : ([] : List Int) = (talkSay sx wt lg to bs).1.2.1 := by rw [e1]
   have e4 : ([] : List Int).length = ((talkSay sx wt lg to bs).1.2.1).length := by exact congrArg List.length e3
   have e5 : ([] : List (List UInt8 × List UInt8)) = (talkSay sx wt lg to bs).1.2.2.1 := by rw [e1]
   have e6 : ([] : List (List UInt8 × List UInt8)).length = ((talkSay sx wt lg to bs).1.2.2.1).length := by exact congrArg List.length e5
   have e7 : [] = (talkSay sx wt lg to bs).1.2.2.2 := by rw [e1]
   have e8 : ([] : List Int) = (talkSay sx wt lg to bs).2.1 := by rw [e1]
   have e9 : ([] : List Int).length = ((talkSay sx wt lg to bs).2.1).length := by exact congrArg List.length e8
   have e10 : false = (talkSay sx wt lg to bs).2.2 := by rw [e1]
   exact ⟨none, 0, none, 0, none, 0, (tup3 (aggv (lc (congrArg (Value.int .i64) e2) (lc (slv rfl e4 rfl) (lc (slv rfl e6 rfl) (lc (congrArg (Str) e7) rfl))))) (slv rfl e9 rfl) (congrArg (Value.bool) e10)), ((hs7.pick [2, 3, 4] rfl (by decide)).cast (lc (own_eq (g := I) rfl e4 rfl e3) (lc (own_eqf (g := gLogin) rfl e6 rfl e5) (lc (own_eq (g := I) rfl e9 rfl e8) rfl))))⟩
 · have h3 : (talkOk sx wt lg to) = true := by simpa using h1
   refine q ⟨_, rfl, rfl⟩ rfl rfl (mv (v := .slice Abs bs.length cbs) rfl) (cl ⟨_, rfl, rfl⟩ rfl (iBytesValid (Azs := Abs) (czs := cbs) (zs := bs) (w := _) (hzs := (hbs.up0 hs3))) ?_)
   rintro _ w5 ⟨rfl, hs8'⟩
   have hs8 := hs3.call0 hs8'
   clear hs8'
   refine q ⟨_, rfl, rfl⟩ rfl rfl (nt (b := isBytes bs) rfl) (qt rfl (pf (v := .bool (!(isBytes bs))) rfl rfl) (qt rfl (mv (v := .bool (!(isBytes bs))) rfl) ?_))
   refine spl (b := !(isBytes bs)) 18 rfl (fun h4 => ?_) (fun h4 => ?_)
   · have h5 : (isBytes bs) = false := by simpa using h4
     refine gk true rfl rfl rfl rfl rfl (gk true rfl rfl rfl rfl rfl (gk true rfl rfl rfl rfl rfl (qt rfl (pt (v := .bool true) rfl rfl) (nl (nN (cdt rfl (sq ?_)))))))
     refine rg (qt rfl (bdv (v := .agg #[I 0, ns, ns, Str []]) [] rfl (fun _ => by kernel_rfl)) (stg (vs := [I 0, ns, ns, Str []]) hs8 1 rfl rfl rfl rfl rfl rfl rfl ag29 trivial (fun w6 (hs9 : SH w w6 [] [.blk b1 29 [I sx, .slice Awt wt.length cwt, .slice Alg lg.length clg, Str to], .blk b2 29 [I 0, ns, ns, Str []]]) => ?_)))
     refine qt rfl (asg (v := ns) rfl) (qt rfl (asg (v := .bool false) rfl) (nl (nN (rt (tR ?_)))))
     refine fret (v := .tuple #[.agg #[I 0, ns, ns, Str []], ns, .bool false]) (resC hs9 1 rfl rfl ag29 rfl (.tmp (.tmp .nil))) rfl ?_
     have hs10 : SH w w6 [] [.blk b1 29 [I sx, .slice Awt wt.length cwt, .slice Alg lg.length clg, Str to], .blk b2 29 [I 0, ns, ns, Str []], .own none (([] : List Int).length) 0 3 1 (([] : List Int).map I)] := SH.nils (by intro i hi; simp at hi; subst hi; exact nilItem) hs9
     have hs11 : SH w w6 [] [.blk b1 29 [I sx, .slice Awt wt.length cwt, .slice Alg lg.length clg, Str to], .blk b2 29 [I 0, ns, ns, Str []], .own none (([] : List Int).length) 0 3 1 (([] : List Int).map I), .own none (([] : List (List UInt8 × List UInt8)).length) 0 51 2 (([] : List (List UInt8 × List UInt8)).flatMap gLogin)] := SH.nils (by intro i hi; simp at hi; subst hi; exact nilItemF) hs10
     have hs12 : SH w w6 [] [.blk b1 29 [I sx, .slice Awt wt.length cwt, .slice Alg lg.length clg, Str to], .blk b2 29 [I 0, ns, ns, Str []], .own none (([] : List Int).length) 0 3 1 (([] : List Int).map I), .own none (([] : List (List UInt8 × List UInt8)).length) 0 51 2 (([] : List (List UInt8 × List UInt8)).flatMap gLogin), .own none (([] : List Int).length) 0 3 1 (([] : List Int).map I)] := SH.nils (by intro i hi; simp at hi; subst hi; exact nilItem) hs11
     have e11 : talkSay sx wt lg to bs = ((0, ([] : List Int), ([] : List (List UInt8 × List UInt8)), []), ([] : List Int), false) := by exact talkSay_no (.inr (.inl (by assumption)))
     have e12 : 0 = (talkSay sx wt lg to bs).1.1 := by rw [e11]
     have e13 : ([] : List Int) = (talkSay sx wt lg to bs).1.2.1 := by rw [e11]
     have e14 : ([] : List Int).length = ((talkSay sx wt lg to bs).1.2.1).length := by exact congrArg List.length e13
     have e15 : ([] : List (List UInt8 × List UInt8)) = (talkSay sx wt lg to bs).1.2.2.1 := by rw [e11]
     have e16 : ([] : List (List UInt8 × List UInt8)).length = ((talkSay sx wt lg to bs).1.2.2.1).length := by exact congrArg List.length e15
     have e17 : [] = (talkSay sx wt lg to bs).1.2.2.2 := by rw [e11]
     have e18 : ([] : List Int) = (talkSay sx wt lg to bs).2.1 := by rw [e11]
     have e19 : ([] : List Int).length = ((talkSay sx wt lg to bs).2.1).length := by exact congrArg List.length e18
     have e20 : false = (talkSay sx wt lg to bs).2.2 := by rw [e11]
     exact ⟨none, 0, none, 0, none, 0, (tup3 (aggv (lc (congrArg (Value.int .i64) e12) (lc (slv rfl e14 rfl) (lc (slv rfl e16 rfl) (lc (congrArg (Str) e17) rfl))))) (slv rfl e19 rfl) (congrArg (Value.bool) e20)), ((hs12.pick [2, 3, 4] rfl (by decide)).cast (lc (own_eq (g := I) rfl e14 rfl e13) (lc (own_eqf (g := gLogin) rfl e16 rfl e15) (lc (own_eq (g := I) rfl e19 rfl e18) rfl))))⟩
   · have h6 : (isBytes bs) = true := by simpa using h4
     refine q ⟨_, rfl, rfl⟩ rfl rfl (fa 0 fo29_0 rfl) (q ⟨_, rfl, rfl⟩ rfl rfl (ld (v := I sx) hs8 0 rfl rfl rfl one3) (q ⟨_, rfl, rfl⟩ rfl rfl (geq (k := .i64) (a := sx) (b := 3) rfl rfl) (qt rfl (pf (v := .bool (decide ((3 : Int) ≤ sx))) rfl rfl) (nl (nN ?_)))))
     refine cdd (p := (3 : Int) ≤ sx) rfl (fun h7 => ?_) (fun h7 => ?_)
     · refine sq (rg (qt rfl (bdv (v := .agg #[I 0, ns, ns, Str []]) [] rfl (fun _ => by kernel_rfl)) (stg (vs := [I 0, ns, ns, Str []]) hs8 1 rfl rfl rfl rfl rfl rfl rfl ag29 trivial (fun w7 (hs13 : SH w w7 [] [.blk b1 29 [I sx, .slice Awt wt.length cwt, .slice Alg lg.length clg, Str to], .blk b2 29 [I 0, ns, ns, Str []]]) => ?_))))
       refine qt rfl (asg (v := ns) rfl) (qt rfl (asg (v := .bool false) rfl) (nl (nN (rt (tR ?_)))))
       refine fret (v := .tuple #[.agg #[I 0, ns, ns, Str []], ns, .bool false]) (resC hs13 1 rfl rfl ag29 rfl (.tmp (.tmp .nil))) rfl ?_
       have hs14 : SH w w7 [] [.blk b1 29 [I sx, .slice Awt wt.length cwt, .slice Alg lg.length clg, Str to], .blk b2 29 [I 0, ns, ns, Str []], .own none (([] : List Int).length) 0 3 1 (([] : List Int).map I)] := SH.nils (by intro i hi; simp at hi; subst hi; exact nilItem) hs13
       have hs15 : SH w w7 [] [.blk b1 29 [I sx, .slice Awt wt.length cwt, .slice Alg lg.length clg, Str to], .blk b2 29 [I 0, ns, ns, Str []], .own none (([] : List Int).length) 0 3 1 (([] : List Int).map I), .own none (([] : List (List UInt8 × List UInt8)).length) 0 51 2 (([] : List (List UInt8 × List UInt8)).flatMap gLogin)] := SH.nils (by intro i hi; simp at hi; subst hi; exact nilItemF) hs14
       have hs16 : SH w w7 [] [.blk b1 29 [I sx, .slice Awt wt.length cwt, .slice Alg lg.length clg, Str to], .blk b2 29 [I 0, ns, ns, Str []], .own none (([] : List Int).length) 0 3 1 (([] : List Int).map I), .own none (([] : List (List UInt8 × List UInt8)).length) 0 51 2 (([] : List (List UInt8 × List UInt8)).flatMap gLogin), .own none (([] : List Int).length) 0 3 1 (([] : List Int).map I)] := SH.nils (by intro i hi; simp at hi; subst hi; exact nilItem) hs15
       have e21 : talkSay sx wt lg to bs = ((0, ([] : List Int), ([] : List (List UInt8 × List UInt8)), []), ([] : List Int), false) := by exact talkSay_no (.inr (.inr (by assumption)))
       have e22 : 0 = (talkSay sx wt lg to bs).1.1 := by rw [e21]
       have e23 : ([] : List Int) = (talkSay sx wt lg to bs).1.2.1 := by rw [e21]
       have e24 : ([] : List Int).length = ((talkSay sx wt lg to bs).1.2.1).length := by exact congrArg List.length e23
       have e25 : ([] : List (List UInt8 × List UInt8)) = (talkSay sx wt lg to bs).1.2.2.1 := by rw [e21]
       have e26 : ([] : List (List UInt8 × List UInt8)).length = ((talkSay sx wt lg to bs).1.2.2.1).length := by exact congrArg List.length e25
       have e27 : [] = (talkSay sx wt lg to bs).1.2.2.2 := by rw [e21]
       have e28 : ([] : List Int) = (talkSay sx wt lg to bs).2.1 := by rw [e21]
       have e29 : ([] : List Int).length = ((talkSay sx wt lg to bs).2.1).length := by exact congrArg List.length e28
       have e30 : false = (talkSay sx wt lg to bs).2.2 := by rw [e21]
       exact ⟨none, 0, none, 0, none, 0, (tup3 (aggv (lc (congrArg (Value.int .i64) e22) (lc (slv rfl e24 rfl) (lc (slv rfl e26 rfl) (lc (congrArg (Str) e27) rfl))))) (slv rfl e29 rfl) (congrArg (Value.bool) e30)), ((hs16.pick [2, 3, 4] rfl (by decide)).cast (lc (own_eq (g := I) rfl e24 rfl e23) (lc (own_eqf (g := gLogin) rfl e26 rfl e25) (lc (own_eq (g := I) rfl e29 rfl e28) rfl))))⟩
     · refine sk (nN (sq (rg (qt rfl (fa 0 fo29_0 rfl) (qt rfl (ld (v := I sx) hs8 0 rfl rfl rfl one3) (qt rfl (asg (v := I sx) rfl) (nl ?_)))))))
       refine nN (sq (rg (qt rfl (ldg (vs := [I sx, .slice Awt wt.length cwt, .slice Alg lg.length clg, Str to]) hs8 0 rfl rfl rfl rfl ag29) (cl trivial rfl (iCloneTalk (sx := sx) (Awt := Awt) (cwt := cwt) (wt := wt) (Alg := Alg) (clg := clg) (lg := lg) (to := to) (w := _) (hwt := (hwt.up0 hs8)) (hwt_n := (by (have htp := talkOk_parts (by assumption : talkOk sx wt lg to = true); have hmw := methOk_len htp.2.1; first | omega | (simp; done) | (simp; omega)))) (hlg := (hlg.up0 hs8)) (hlg_e := hlg_e) (hlg_n := (by (have htp := talkOk_parts (by assumption : talkOk sx wt lg to = true); have hmw := methOk_len htp.2.1; first | omega | (simp; done) | (simp; omega))))) ?_))))
       rintro _ w8 ⟨Aw1, cw1, Al1, cl1, rfl, hs17'⟩
       have hs17 := hs8.call0 hs17'
       clear hs17'
       refine al (v := .agg #[I 0, ns, ns, Str []]) (cs := [I 0, ns, ns, Str []]) hs17 tz29 rfl trivial rfl (fun b3 w9 (hs18 : SH w w9 [] [.blk b1 29 [I sx, .slice Awt wt.length cwt, .slice Alg lg.length clg, Str to], .blk b2 29 [I 0, ns, ns, Str []], .own Aw1 wt.length cw1 3 1 (wt.map I), .own Al1 lg.length cl1 51 2 (lg.flatMap gLogin), .blk b3 29 [I 0, ns, ns, Str []]]) => ?_)
       refine stg (vs := [I sx, .slice Aw1 wt.length cw1, .slice Al1 lg.length cl1, Str to]) hs18 4 rfl rfl rfl rfl rfl rfl rfl ag29 trivial (fun w10 (hs19 : SH w w10 [] [.blk b1 29 [I sx, .slice Awt wt.length cwt, .slice Alg lg.length clg, Str to], .blk b2 29 [I 0, ns, ns, Str []], .own Aw1 wt.length cw1 3 1 (wt.map I), .own Al1 lg.length cl1 51 2 (lg.flatMap gLogin), .blk b3 29 [I sx, .slice Aw1 wt.length cw1, .slice Al1 lg.length cl1, Str to]]) => ?_)
       refine nl (nN (sq (rg (qt rfl (fa 0 fo29_0 rfl) (st (v := I 4) hs19 4 rfl rfl rfl rfl rfl one3 trivial (fun w11 (hs20 : SH w w11 [] [.blk b1 29 [I sx, .slice Awt wt.length cwt, .slice Alg lg.length clg, Str to], .blk b2 29 [I 0, ns, ns, Str []], .own Aw1 wt.length cw1 3 1 (wt.map I), .own Al1 lg.length cl1 51 2 (lg.flatMap gLogin), .blk b3 29 [I 4, .slice Aw1 wt.length cw1, .slice Al1 lg.length cl1, Str to]]) => ?_))))))
       refine nl (nN (sq (rg (qt rfl (asg (v := ns) rfl) (nl (nN (sq ?_)))))))
       refine sq (rg (qt rfl (mv (v := I sx) rfl) (nl (nN (bl (sq (rg ?_)))))))
       refine qt rfl (eqi (k := .i64) (a := sx) (b := 0) rfl rfl) (qt rfl (asg (v := .bool (decide (sx = 0))) rfl) (nl (nN ?_)))
       refine cdd (p := sx = 0) rfl (fun h8 => ?_) (fun h8 => ?_)
       · refine rg (qt rfl (mv (v := .slice Abs bs.length cbs) rfl) (cl trivial rfl (tkHello (tb := b3) (Awt := Aw1) (cwt := cw1) (Alg := Al1) (clg := cl1) (sx := 4) (wt := wt) (lg := lg) (to := to) (Abs := Abs) (cbs := cbs) (bs := bs) (w := _) (htk := (blk_heap hs20 4 rfl)) (hwt := (hs20.sl 2 rfl (by intro k hk; simp at hk; subst hk; exact ⟨_, memi 3 rfl, rfl⟩))) (hlg := (hs20.sl 3 rfl (by intro k hk; simp at hk; subst hk; exact ⟨_, memi 3 rfl, rfl⟩))) (hlg_e := (by (first | assumption | (simp; done) | exact fun u hu => Nat.le_trans (by first | exact p1 u hu | exact p2 u hu | exact p3 u hu) (by decide) | (intro u hu; simp at hu; simp [hu])))) (hbs := (hbs.up hs20 (by simp) (fun k h => .inr (hs20.lo1 4 rfl k h)))) (hst := (by rfl)) (hto := (by have htp := talkOk_parts (by assumption : talkOk sx wt lg to = true); have hmw := methOk_len htp.2.1; exact htp.2.2.2.2.2.2.2 (by omega)))) ?_))
         rintro _ w12 ⟨A1, c1, rfl, hs21'⟩
         have hs21 : SH w w12 [] [.blk b1 29 [I sx, .slice Awt wt.length cwt, .slice Alg lg.length clg, Str to], .blk b2 29 [I 0, ns, ns, Str []], .own Aw1 wt.length cw1 3 1 (wt.map I), .own Al1 lg.length cl1 51 2 (lg.flatMap gLogin), .blk b3 29 [I ((sayHello wt bs).1), .slice Aw1 wt.length cw1, .slice Al1 lg.length cl1, Str to], .own A1 (((sayHello wt bs).2).length) c1 3 1 (((sayHello wt bs).2).map I)] := SH.callK (K := [.blk b3 29 [I 4, .slice Aw1 wt.length cw1, .slice Al1 lg.length cl1, Str to]]) (R := [.blk b1 29 [I sx, .slice Awt wt.length cwt, .slice Alg lg.length clg, Str to], .blk b2 29 [I 0, ns, ns, Str []], .own Aw1 wt.length cw1 3 1 (wt.map I), .own Al1 lg.length cl1 51 2 (lg.flatMap gLogin)]) (hs20.pick [4, 0, 1, 2, 3] rfl (by decide)) hs21' rfl
         clear hs21'
         refine qt rfl (asg (v := .slice A1 (((sayHello wt bs).2).length) c1) rfl) (nl (bN (nN (sq (rg (qt rfl (ldg (vs := [I ((sayHello wt bs).1), .slice Aw1 wt.length cw1, .slice Al1 lg.length cl1, Str to]) hs21 4 rfl rfl rfl rfl ag29) (qt rfl (mv (v := .slice A1 (((sayHello wt bs).2).length) c1) rfl) ?_)))))))
         refine stg (vs := [I ((sayHello wt bs).1), .slice Aw1 wt.length cw1, .slice Al1 lg.length cl1, Str to]) hs21 1 rfl rfl rfl rfl rfl rfl rfl ag29 trivial (fun w13 (hs22 : SH w w13 [] [.blk b1 29 [I sx, .slice Awt wt.length cwt, .slice Alg lg.length clg, Str to], .own Aw1 wt.length cw1 3 1 (wt.map I), .own Al1 lg.length cl1 51 2 (lg.flatMap gLogin), .blk b3 29 [I ((sayHello wt bs).1), .slice Aw1 wt.length cw1, .slice Al1 lg.length cl1, Str to], .own A1 (((sayHello wt bs).2).length) c1 3 1 (((sayHello wt bs).2).map I), .blk b2 29 [I ((sayHello wt bs).1), .slice Aw1 wt.length cw1, .slice Al1 lg.length cl1, Str to]]) => ?_)
         refine qt rfl (asg (v := .slice A1 (((sayHello wt bs).2).length) c1) rfl) (qt rfl (asg (v := .bool true) rfl) (nl (nN ?_)))
         have hs23 : SH w w13 [] [.own Aw1 wt.length cw1 3 1 (wt.map I), .own Al1 lg.length cl1 51 2 (lg.flatMap gLogin), .own A1 (((sayHello wt bs).2).length) c1 3 1 (((sayHello wt bs).2).map I), .blk b2 29 [I ((sayHello wt bs).1), .slice Aw1 wt.length cw1, .slice Al1 lg.length cl1, Str to]] := hs22.pick [1, 2, 4, 5] rfl (by decide)
         refine rt (fret (v := .tuple #[.agg #[I ((sayHello wt bs).1), .slice Aw1 wt.length cw1, .slice Al1 lg.length cl1, Str to], .slice A1 (((sayHello wt bs).2).length) c1, .bool true]) (resC hs23 3 rfl rfl ag29 rfl (.tmp (.tmp .nil))) rfl ?_)
         have e31 : talkSay sx wt lg to bs = (((sayHello wt bs).1, wt, lg, to), (sayHello wt bs).2, true) := by exact talkSay_0 (by assumption) (by assumption) (by assumption)
         have e32 : (sayHello wt bs).1 = (talkSay sx wt lg to bs).1.1 := by rw [e31]
         have e33 : wt = (talkSay sx wt lg to bs).1.2.1 := by rw [e31]
         have e34 : wt.length = ((talkSay sx wt lg to bs).1.2.1).length := by exact congrArg List.length e33
         have e35 : lg = (talkSay sx wt lg to bs).1.2.2.1 := by rw [e31]
         have e36 : lg.length = ((talkSay sx wt lg to bs).1.2.2.1).length := by exact congrArg List.length e35
         have e37 : to = (talkSay sx wt lg to bs).1.2.2.2 := by rw [e31]
         have e38 : (sayHello wt bs).2 = (talkSay sx wt lg to bs).2.1 := by rw [e31]
         have e39 : ((sayHello wt bs).2).length = ((talkSay sx wt lg to bs).2.1).length := by exact congrArg List.length e38
         have e40 : true = (talkSay sx wt lg to bs).2.2 := by rw [e31]
         exact ⟨Aw1, cw1, Al1, cl1, A1, c1, (tup3 (aggv (lc (congrArg (Value.int .i64) e32) (lc (slv rfl e34 rfl) (lc (slv rfl e36 rfl) (lc (congrArg (Str) e37) rfl))))) (slv rfl e39 rfl) (congrArg (Value.bool) e40)), ((hs23.pick [0, 1, 2] rfl (by decide)).cast (lc (own_eq (g := I) rfl e34 rfl e33) (lc (own_eqf (g := gLogin) rfl e36 rfl e35) (lc (own_eq (g := I) rfl e39 rfl e38) rfl))))⟩
       · refine sq (rg (qt rfl (eqi (k := .i64) (a := sx) (b := 1) rfl rfl) (qt rfl (asg (v := .bool (decide (sx = 1))) rfl) (nl (nN ?_)))))
         refine cdd (p := sx = 1) rfl (fun h9 => ?_) (fun h9 => ?_)
         · refine rg (qt rfl (mv (v := .slice Abs bs.length cbs) rfl) (cl trivial rfl (tkLogin (tb := b3) (Awt := Aw1) (cwt := cw1) (Alg := Al1) (clg := cl1) (sx := 4) (wt := wt) (lg := lg) (to := to) (Abs := Abs) (cbs := cbs) (bs := bs) (w := _) (htk := (blk_heap hs20 4 rfl)) (hwt := (hs20.sl 2 rfl (by intro k hk; simp at hk; subst hk; exact ⟨_, memi 3 rfl, rfl⟩))) (hlg := (hs20.sl 3 rfl (by intro k hk; simp at hk; subst hk; exact ⟨_, memi 3 rfl, rfl⟩))) (hlg_e := (by (first | assumption | (simp; done) | exact fun u hu => Nat.le_trans (by first | exact p1 u hu | exact p2 u hu | exact p3 u hu) (by decide) | (intro u hu; simp at hu; simp [hu])))) (hbs := (hbs.up hs20 (by simp) (fun k h => .inr (hs20.lo1 4 rfl k h)))) (hst := (by rfl)) (hto := (by have htp := talkOk_parts (by assumption : talkOk sx wt lg to = true); have hmw := methOk_len htp.2.1; exact htp.2.2.2.2.2.2.2 (by omega)))) ?_))
           rintro _ w14 ⟨A2, c2, rfl, hs24'⟩
           have hs24 : SH w w14 [] [.blk b1 29 [I sx, .slice Awt wt.length cwt, .slice Alg lg.length clg, Str to], .blk b2 29 [I 0, ns, ns, Str []], .own Aw1 wt.length cw1 3 1 (wt.map I), .own Al1 lg.length cl1 51 2 (lg.flatMap gLogin), .blk b3 29 [I ((sayLogin lg bs).1), .slice Aw1 wt.length cw1, .slice Al1 lg.length cl1, Str to], .own A2 (((sayLogin lg bs).2).length) c2 3 1 (((sayLogin lg bs).2).map I)] := SH.callK (K := [.blk b3 29 [I 4, .slice Aw1 wt.length cw1, .slice Al1 lg.length cl1, Str to]]) (R := [.blk b1 29 [I sx, .slice Awt wt.length cwt, .slice Alg lg.length clg, Str to], .blk b2 29 [I 0, ns, ns, Str []], .own Aw1 wt.length cw1 3 1 (wt.map I), .own Al1 lg.length cl1 51 2 (lg.flatMap gLogin)]) (hs20.pick [4, 0, 1, 2, 3] rfl (by decide)) hs24' rfl
           clear hs24'
           refine qt rfl (asg (v := .slice A2 (((sayLogin lg bs).2).length) c2) rfl) (nl (bN (nN (sq (rg (qt rfl (ldg (vs := [I ((sayLogin lg bs).1), .slice Aw1 wt.length cw1, .slice Al1 lg.length cl1, Str to]) hs24 4 rfl rfl rfl rfl ag29) (qt rfl (mv (v := .slice A2 (((sayLogin lg bs).2).length) c2) rfl) ?_)))))))
           refine stg (vs := [I ((sayLogin lg bs).1), .slice Aw1 wt.length cw1, .slice Al1 lg.length cl1, Str to]) hs24 1 rfl rfl rfl rfl rfl rfl rfl ag29 trivial (fun w15 (hs25 : SH w w15 [] [.blk b1 29 [I sx, .slice Awt wt.length cwt, .slice Alg lg.length clg, Str to], .own Aw1 wt.length cw1 3 1 (wt.map I), .own Al1 lg.length cl1 51 2 (lg.flatMap gLogin), .blk b3 29 [I ((sayLogin lg bs).1), .slice Aw1 wt.length cw1, .slice Al1 lg.length cl1, Str to], .own A2 (((sayLogin lg bs).2).length) c2 3 1 (((sayLogin lg bs).2).map I), .blk b2 29 [I ((sayLogin lg bs).1), .slice Aw1 wt.length cw1, .slice Al1 lg.length cl1, Str to]]) => ?_)
           refine qt rfl (asg (v := .slice A2 (((sayLogin lg bs).2).length) c2) rfl) (qt rfl (asg (v := .bool true) rfl) (nl (nN ?_)))
           have hs26 : SH w w15 [] [.own Aw1 wt.length cw1 3 1 (wt.map I), .own Al1 lg.length cl1 51 2 (lg.flatMap gLogin), .own A2 (((sayLogin lg bs).2).length) c2 3 1 (((sayLogin lg bs).2).map I), .blk b2 29 [I ((sayLogin lg bs).1), .slice Aw1 wt.length cw1, .slice Al1 lg.length cl1, Str to]] := hs25.pick [1, 2, 4, 5] rfl (by decide)
           refine rt (fret (v := .tuple #[.agg #[I ((sayLogin lg bs).1), .slice Aw1 wt.length cw1, .slice Al1 lg.length cl1, Str to], .slice A2 (((sayLogin lg bs).2).length) c2, .bool true]) (resC hs26 3 rfl rfl ag29 rfl (.tmp (.tmp .nil))) rfl ?_)
           have e41 : talkSay sx wt lg to bs = (((sayLogin lg bs).1, wt, lg, to), (sayLogin lg bs).2, true) := by exact talkSay_1 (by assumption) (by assumption) (by assumption)
           have e42 : (sayLogin lg bs).1 = (talkSay sx wt lg to bs).1.1 := by rw [e41]
           have e43 : wt = (talkSay sx wt lg to bs).1.2.1 := by rw [e41]
           have e44 : wt.length = ((talkSay sx wt lg to bs).1.2.1).length := by exact congrArg List.length e43
           have e45 : lg = (talkSay sx wt lg to bs).1.2.2.1 := by rw [e41]
           have e46 : lg.length = ((talkSay sx wt lg to bs).1.2.2.1).length := by exact congrArg List.length e45
           have e47 : to = (talkSay sx wt lg to bs).1.2.2.2 := by rw [e41]
           have e48 : (sayLogin lg bs).2 = (talkSay sx wt lg to bs).2.1 := by rw [e41]
           have e49 : ((sayLogin lg bs).2).length = ((talkSay sx wt lg to bs).2.1).length := by exact congrArg List.length e48
           have e50 : true = (talkSay sx wt lg to bs).2.2 := by rw [e41]
           exact ⟨Aw1, cw1, Al1, cl1, A2, c2, (tup3 (aggv (lc (congrArg (Value.int .i64) e42) (lc (slv rfl e44 rfl) (lc (slv rfl e46 rfl) (lc (congrArg (Str) e47) rfl))))) (slv rfl e49 rfl) (congrArg (Value.bool) e50)), ((hs26.pick [0, 1, 2] rfl (by decide)).cast (lc (own_eq (g := I) rfl e44 rfl e43) (lc (own_eqf (g := gLogin) rfl e46 rfl e45) (lc (own_eq (g := I) rfl e49 rfl e48) rfl))))⟩
         · refine sq (rg (qt rfl (eqi (k := .i64) (a := sx) (b := 2) rfl rfl) (qt rfl (asg (v := .bool (decide (sx = 2))) rfl) (nl (nN ?_)))))
           refine cdd (p := sx = 2) rfl (fun h10 => ?_) (fun h10 => ?_)
           · refine rg (qt rfl (mv (v := .slice Abs bs.length cbs) rfl) (cl trivial rfl (tkRequest (tb := b3) (Awt := Aw1) (cwt := cw1) (Alg := Al1) (clg := cl1) (sx := 4) (wt := wt) (lg := lg) (to := to) (Abs := Abs) (cbs := cbs) (bs := bs) (w := _) (htk := (blk_heap hs20 4 rfl)) (hwt := (hs20.sl 2 rfl (by intro k hk; simp at hk; subst hk; exact ⟨_, memi 3 rfl, rfl⟩))) (hlg := (hs20.sl 3 rfl (by intro k hk; simp at hk; subst hk; exact ⟨_, memi 3 rfl, rfl⟩))) (hlg_e := (by (first | assumption | (simp; done) | exact fun u hu => Nat.le_trans (by first | exact p1 u hu | exact p2 u hu | exact p3 u hu) (by decide) | (intro u hu; simp at hu; simp [hu])))) (hbs := (hbs.up hs20 (by simp) (fun k h => .inr (hs20.lo1 4 rfl k h)))) (hst := (by rfl)) (hto := (by have htp := talkOk_parts (by assumption : talkOk sx wt lg to = true); have hmw := methOk_len htp.2.1; exact htp.2.2.2.2.2.2.2 (by omega))) (hGp := (hGp.up hs20 (by simp) (fun k h => .inr (hs20.lo1 4 rfl k h))))) ?_))
             rintro _ w16 ⟨A3, c3, rfl, hs27'⟩
             have hs27 : SH w w16 [] [.blk b1 29 [I sx, .slice Awt wt.length cwt, .slice Alg lg.length clg, Str to], .blk b2 29 [I 0, ns, ns, Str []], .own Aw1 wt.length cw1 3 1 (wt.map I), .own Al1 lg.length cl1 51 2 (lg.flatMap gLogin), .blk b3 29 [I ((sayReq bs).1), .slice Aw1 wt.length cw1, .slice Al1 lg.length cl1, Str ((sayReq bs).2.1)], .own A3 (((sayReq bs).2.2).length) c3 3 1 (((sayReq bs).2.2).map I)] := SH.callK (K := [.blk b3 29 [I 4, .slice Aw1 wt.length cw1, .slice Al1 lg.length cl1, Str to]]) (R := [.blk b1 29 [I sx, .slice Awt wt.length cwt, .slice Alg lg.length clg, Str to], .blk b2 29 [I 0, ns, ns, Str []], .own Aw1 wt.length cw1 3 1 (wt.map I), .own Al1 lg.length cl1 51 2 (lg.flatMap gLogin)]) (hs20.pick [4, 0, 1, 2, 3] rfl (by decide)) hs27' rfl
             clear hs27'
             refine qt rfl (asg (v := .slice A3 (((sayReq bs).2.2).length) c3) rfl) (nl (bN (nN (sq (rg (qt rfl (ldg (vs := [I ((sayReq bs).1), .slice Aw1 wt.length cw1, .slice Al1 lg.length cl1, Str ((sayReq bs).2.1)]) hs27 4 rfl rfl rfl rfl ag29) (qt rfl (mv (v := .slice A3 (((sayReq bs).2.2).length) c3) rfl) ?_)))))))
             refine stg (vs := [I ((sayReq bs).1), .slice Aw1 wt.length cw1, .slice Al1 lg.length cl1, Str ((sayReq bs).2.1)]) hs27 1 rfl rfl rfl rfl rfl rfl rfl ag29 trivial (fun w17 (hs28 : SH w w17 [] [.blk b1 29 [I sx, .slice Awt wt.length cwt, .slice Alg lg.length clg, Str to], .own Aw1 wt.length cw1 3 1 (wt.map I), .own Al1 lg.length cl1 51 2 (lg.flatMap gLogin), .blk b3 29 [I ((sayReq bs).1), .slice Aw1 wt.length cw1, .slice Al1 lg.length cl1, Str ((sayReq bs).2.1)], .own A3 (((sayReq bs).2.2).length) c3 3 1 (((sayReq bs).2.2).map I), .blk b2 29 [I ((sayReq bs).1), .slice Aw1 wt.length cw1, .slice Al1 lg.length cl1, Str ((sayReq bs).2.1)]]) => ?_)
             refine qt rfl (asg (v := .slice A3 (((sayReq bs).2.2).length) c3) rfl) (qt rfl (asg (v := .bool true) rfl) (nl (nN ?_)))
             have hs29 : SH w w17 [] [.own Aw1 wt.length cw1 3 1 (wt.map I), .own Al1 lg.length cl1 51 2 (lg.flatMap gLogin), .own A3 (((sayReq bs).2.2).length) c3 3 1 (((sayReq bs).2.2).map I), .blk b2 29 [I ((sayReq bs).1), .slice Aw1 wt.length cw1, .slice Al1 lg.length cl1, Str ((sayReq bs).2.1)]] := hs28.pick [1, 2, 4, 5] rfl (by decide)
             refine rt (fret (v := .tuple #[.agg #[I ((sayReq bs).1), .slice Aw1 wt.length cw1, .slice Al1 lg.length cl1, Str ((sayReq bs).2.1)], .slice A3 (((sayReq bs).2.2).length) c3, .bool true]) (resC hs29 3 rfl rfl ag29 rfl (.tmp (.tmp .nil))) rfl ?_)
             have e51 : talkSay sx wt lg to bs = (((sayReq bs).1, wt, lg, (sayReq bs).2.1), (sayReq bs).2.2, true) := by exact talkSay_2 (by assumption) (by assumption) (by assumption)
             have e52 : (sayReq bs).1 = (talkSay sx wt lg to bs).1.1 := by rw [e51]
             have e53 : wt = (talkSay sx wt lg to bs).1.2.1 := by rw [e51]
             have e54 : wt.length = ((talkSay sx wt lg to bs).1.2.1).length := by exact congrArg List.length e53
             have e55 : lg = (talkSay sx wt lg to bs).1.2.2.1 := by rw [e51]
             have e56 : lg.length = ((talkSay sx wt lg to bs).1.2.2.1).length := by exact congrArg List.length e55
             have e57 : (sayReq bs).2.1 = (talkSay sx wt lg to bs).1.2.2.2 := by rw [e51]
             have e58 : (sayReq bs).2.2 = (talkSay sx wt lg to bs).2.1 := by rw [e51]
             have e59 : ((sayReq bs).2.2).length = ((talkSay sx wt lg to bs).2.1).length := by exact congrArg List.length e58
             have e60 : true = (talkSay sx wt lg to bs).2.2 := by rw [e51]
             exact ⟨Aw1, cw1, Al1, cl1, A3, c3, (tup3 (aggv (lc (congrArg (Value.int .i64) e52) (lc (slv rfl e54 rfl) (lc (slv rfl e56 rfl) (lc (congrArg (Str) e57) rfl))))) (slv rfl e59 rfl) (congrArg (Value.bool) e60)), ((hs29.pick [0, 1, 2] rfl (by decide)).cast (lc (own_eq (g := I) rfl e54 rfl e53) (lc (own_eqf (g := gLogin) rfl e56 rfl e55) (lc (own_eq (g := I) rfl e59 rfl e58) rfl))))⟩
           · refine sk (bN (nN (sq (rg (qt rfl (ldg (vs := [I 4, .slice Aw1 wt.length cw1, .slice Al1 lg.length cl1, Str to]) hs20 4 rfl rfl rfl rfl ag29) (qt rfl (mv (v := ns) rfl) (stg (vs := [I 4, .slice Aw1 wt.length cw1, .slice Al1 lg.length cl1, Str to]) hs20 1 rfl rfl rfl rfl rfl rfl rfl ag29 trivial (fun w18 (hs30 : SH w w18 [] [.blk b1 29 [I sx, .slice Awt wt.length cwt, .slice Alg lg.length clg, Str to], .own Aw1 wt.length cw1 3 1 (wt.map I), .own Al1 lg.length cl1 51 2 (lg.flatMap gLogin), .blk b3 29 [I 4, .slice Aw1 wt.length cw1, .slice Al1 lg.length cl1, Str to], .blk b2 29 [I 4, .slice Aw1 wt.length cw1, .slice Al1 lg.length cl1, Str to]]) => ?_))))))))
             refine qt rfl (asg (v := ns) rfl) (qt rfl (asg (v := .bool true) rfl) (nl (nN ?_)))
             have hs31 : SH w w18 [] [.own Aw1 wt.length cw1 3 1 (wt.map I), .own Al1 lg.length cl1 51 2 (lg.flatMap gLogin), .blk b2 29 [I 4, .slice Aw1 wt.length cw1, .slice Al1 lg.length cl1, Str to]] := hs30.pick [1, 2, 4] rfl (by decide)
             refine rt (fret (v := .tuple #[.agg #[I 4, .slice Aw1 wt.length cw1, .slice Al1 lg.length cl1, Str to], ns, .bool true]) (resC hs31 2 rfl rfl ag29 rfl (.tmp (.tmp .nil))) rfl ?_)
             have hs32 : SH w w18 [] [.own Aw1 wt.length cw1 3 1 (wt.map I), .own Al1 lg.length cl1 51 2 (lg.flatMap gLogin), .blk b2 29 [I 4, .slice Aw1 wt.length cw1, .slice Al1 lg.length cl1, Str to], .own none (([] : List Int).length) 0 3 1 (([] : List Int).map I)] := SH.nils (by intro i hi; simp at hi; subst hi; exact nilItem) hs31
             have e61 : talkSay sx wt lg to bs = ((4, wt, lg, to), ([] : List Int), true) := by (exfalso; have htp := talkOk_parts (by assumption : talkOk sx wt lg to = true); have hmw := methOk_len htp.2.1; omega)
             have e62 : 4 = (talkSay sx wt lg to bs).1.1 := by rw [e61]
             have e63 : wt = (talkSay sx wt lg to bs).1.2.1 := by rw [e61]
             have e64 : wt.length = ((talkSay sx wt lg to bs).1.2.1).length := by exact congrArg List.length e63
             have e65 : lg = (talkSay sx wt lg to bs).1.2.2.1 := by rw [e61]
             have e66 : lg.length = ((talkSay sx wt lg to bs).1.2.2.1).length := by exact congrArg List.length e65
             have e67 : to = (talkSay sx wt lg to bs).1.2.2.2 := by rw [e61]
             have e68 : ([] : List Int) = (talkSay sx wt lg to bs).2.1 := by rw [e61]
             have e69 : ([] : List Int).length = ((talkSay sx wt lg to bs).2.1).length := by exact congrArg List.length e68
             have e70 : true = (talkSay sx wt lg to bs).2.2 := by rw [e61]
             exact ⟨Aw1, cw1, Al1, cl1, none, 0, (tup3 (aggv (lc (congrArg (Value.int .i64) e62) (lc (slv rfl e64 rfl) (lc (slv rfl e66 rfl) (lc (congrArg (Str) e67) rfl))))) (slv rfl e69 rfl) (congrArg (Value.bool) e70)), ((hs32.pick [0, 1, 3] rfl (by decide)).cast (lc (own_eq (g := I) rfl e64 rfl e63) (lc (own_eqf (g := gLogin) rfl e66 rfl e65) (lc (own_eq (g := I) rfl e69 rfl e68) rfl))))⟩
theorem sL23Hello (sx : Int) {Awt : Option Addr} {cwt : Nat} (wt : List Int) {Alg : Option Addr} {clg : Nat} (lg : List (List UInt8 × List UInt8)) (to : List UInt8) {Abs : Option Addr} {cbs : Nat} (bs : List Int) (w : World) (hwt : Sl w [] 1 Awt wt.length cwt (wt.map I)) (hwt_n : wt.length ≤ 1099511627776) (hlg : Sl w [] 2 Alg lg.length clg (lg.flatMap gLogin)) (hlg_e : ∀ u ∈ lg, u.1.length ≤ 9223372036854775807 ∧ u.2.length ≤ 9223372036854775807) (hlg_n : lg.length ≤ 1099511627776) (hbs : Sl w [] 1 Abs bs.length cbs (bs.map I)) : Does Tryz.prog 42 [.agg #[I sx, .slice Awt wt.length cwt, .slice Alg lg.length clg, Str to], .slice Abs bs.length cbs] w (fun v w' => ∃ Awr : Option Addr, ∃ cwr : Nat, ∃ Alr : Option Addr, ∃ clr : Nat, ∃ Ayr : Option Addr, ∃ cyr : Nat, v = .tuple #[.agg #[.int .i64 ((sayHello wt bs).1), .slice Awr wt.length cwr, .slice Alr lg.length clr, Str []], .slice Ayr ((sayHello wt bs).2).length cyr] ∧ SH w w' [] [.own Awr wt.length cwr 3 1 (wt.map I), .own Alr lg.length clr 51 2 (lg.flatMap gLogin), .own Ayr (((sayHello wt bs).2).length) cyr 3 1 (((sayHello wt bs).2).map I)]) := by
 refine fn_enter (N := 52) Tryz.func42 rfl (by kernel_rfl) rfl rfl rfl ?_
 have hs0 : SH w w [] [] := SH.refl w []
 have hwt_m : wt.length ≤ 9223372036854775807 := Nat.le_trans hwt.cap hwt.capMax
 have hlg_m : lg.length ≤ 9223372036854775807 := Nat.le_trans hlg.cap hlg.capMax
 have hbs_m : bs.length ≤ 9223372036854775807 := Nat.le_trans hbs.cap hbs.capMax
 refine sq (rg (bx (v := .agg #[I sx, .slice Awt wt.length cwt, .slice Alg lg.length clg, Str to]) (cs := [I sx, .slice Awt wt.length cwt, .slice Alg lg.length clg, Str to]) hs0 rfl rfl trivial rfl (fun b1 w1 (hs1 : SH w w1 [] [.blk b1 29 [I sx, .slice Awt wt.length cwt, .slice Alg lg.length clg, Str to]]) => ?_)))
 refine al (v := .agg #[I 0, ns, ns, Str []]) (cs := [I 0, ns, ns, Str []]) hs1 tz29 rfl trivial rfl (fun b2 w2 (hs2 : SH w w2 [] [.blk b1 29 [I sx, .slice Awt wt.length cwt, .slice Alg lg.length clg, Str to], .blk b2 29 [I 0, ns, ns, Str []]]) => ?_)
 refine qt rfl (asg (v := ns) rfl) (nl (nN (sq (rg (qt rfl (mv (v := .slice Abs bs.length cbs) rfl) (cl trivial rfl (sHelloFrom (Abs := Abs) (cbs := cbs) (bs := bs) (w := _) (hbs := (hbs.up0 hs2))) ?_))))))
 rintro _ w3 ⟨A1, c1, rfl, hs3'⟩
 have hs3 := hs2.call0 hs3'
 clear hs3'
 refine qt rfl (mv (v := .tuple #[.slice A1 (((helloFrom bs).1).length) c1, I ((helloFrom bs).2.1), .bool ((helloFrom bs).2.2)]) rfl) (qt rfl (xt 0 (v := .slice A1 (((helloFrom bs).1).length) c1) rfl rfl) (qt rfl (xt 1 (v := I ((helloFrom bs).2.1)) rfl rfl) (qt rfl (xt 2 (v := .bool ((helloFrom bs).2.2)) rfl rfl) (qt rfl (asg (v := .slice A1 (((helloFrom bs).1).length) c1) rfl) (qt rfl (asg (v := I ((helloFrom bs).2.1)) rfl) (qt rfl (asg (v := .bool ((helloFrom bs).2.2)) rfl) (nl ?_)))))))
 refine nN (sq (sq (rg (qt rfl (mv (v := .bool ((helloFrom bs).2.2)) rfl) (qt rfl (nt (b := (helloFrom bs).2.2) rfl) (qt rfl (mv (v := .bool (!((helloFrom bs).2.2))) rfl) ?_))))))
 refine spl (b := !((helloFrom bs).2.2)) 20 rfl (fun h1 => ?_) (fun h1 => ?_)
 · have h2 : ((helloFrom bs).2.2) = false := by simpa using h1
   refine gk true rfl rfl rfl rfl rfl (gk true rfl rfl rfl rfl rfl (gk true rfl rfl rfl rfl rfl (gk true rfl rfl rfl rfl rfl (qt rfl (pt (v := .bool true) rfl rfl) (nl (nN (cdt rfl ?_)))))))
   refine sq (rg (qt rfl (ldg (vs := [I sx, .slice Awt wt.length cwt, .slice Alg lg.length clg, Str to]) hs3 0 rfl rfl rfl rfl ag29) (cl trivial rfl (sL23Next (sx := sx) (Awt := Awt) (cwt := cwt) (wt := wt) (Alg := Alg) (clg := clg) (lg := lg) (to := to) (nst := 4) (w := _) (hwt := (hwt.up0 hs3)) (hwt_n := (by omega)) (hlg := (hlg.up0 hs3)) (hlg_e := hlg_e) (hlg_n := (by omega))) ?_)))
   rintro _ w4 ⟨Aw1, cw1, Al1, cl1, rfl, hs4'⟩
   have hs4 := hs3.call0 hs4'
   clear hs4'
   refine bsk hs4 sl22 [] [] trivial rfl (fun b3 w5 (hs5 : SH w w5 [] [.blk b1 29 [I sx, .slice Awt wt.length cwt, .slice Alg lg.length clg, Str to], .blk b2 29 [I 0, ns, ns, Str []], .own A1 (((helloFrom bs).1).length) c1 3 1 (((helloFrom bs).1).map I), .own Aw1 wt.length cw1 3 1 (wt.map I), .own Al1 lg.length cl1 51 2 (lg.flatMap gLogin), oI b3 ([] : List Int) 0 3]) => ?_)
   refine stg (vs := [I 4, .slice Aw1 wt.length cw1, .slice Al1 lg.length cl1, Str []]) hs5 1 rfl rfl rfl rfl rfl rfl rfl ag29 trivial (fun w6 (hs6 : SH w w6 [] [.blk b1 29 [I sx, .slice Awt wt.length cwt, .slice Alg lg.length clg, Str to], .own A1 (((helloFrom bs).1).length) c1 3 1 (((helloFrom bs).1).map I), .own Aw1 wt.length cw1 3 1 (wt.map I), .own Al1 lg.length cl1 51 2 (lg.flatMap gLogin), oI b3 ([] : List Int) 0 3, .blk b2 29 [I 4, .slice Aw1 wt.length cw1, .slice Al1 lg.length cl1, Str []]]) => ?_)
   refine qt rfl (asg (v := sb b3 (([] : List Int).length) 0) rfl) (nl (nN ?_))
   have hs7 : SH w w6 [] [.own Aw1 wt.length cw1 3 1 (wt.map I), .own Al1 lg.length cl1 51 2 (lg.flatMap gLogin), oI b3 ([] : List Int) 0 3, .blk b2 29 [I 4, .slice Aw1 wt.length cw1, .slice Al1 lg.length cl1, Str []]] := hs6.pick [2, 3, 4, 5] rfl (by decide)
   refine rt (tR ?_)
   refine fret (v := .tuple #[.agg #[I 4, .slice Aw1 wt.length cw1, .slice Al1 lg.length cl1, Str []], sb b3 (([] : List Int).length) 0]) (resC hs7 3 rfl rfl ag29 rfl (.tmp .nil)) rfl ?_
   have e1 : 4 = (sayHello wt bs).1 := by (rw [sayH_no1 (by assumption)]; done)
   have e2 : ([] : List Int) = (sayHello wt bs).2 := by (rw [sayH_no1 (by assumption)]; done)
   have e3 : ([] : List Int).length = ((sayHello wt bs).2).length := by exact congrArg List.length e2
   exact ⟨Aw1, cw1, Al1, cl1, (some ⟨b3, 0, none⟩), 0, (tup2 (aggv (lc (congrArg (Value.int .i64) e1) (lc rfl (lc rfl (lc rfl rfl))))) (slv rfl e3 rfl)), ((hs7.pick [0, 1, 2] rfl (by decide)).cast (lc rfl (lc rfl (lc (own_eq (g := I) rfl e3 rfl e2) rfl))))⟩
 · have h3 : ((helloFrom bs).2.2) = true := by simpa using h1
   refine q ⟨_, rfl, rfl⟩ rfl rfl (mv (v := I ((helloFrom bs).2.1)) rfl) (q ⟨_, rfl, rfl⟩ rfl rfl (mv (v := .slice Abs bs.length cbs) rfl) (q ⟨_, rfl, rfl⟩ rfl rfl (lnA (n := bs.length) sl22 rfl) (q ⟨_, rfl, rfl⟩ rfl rfl (nei (k := .i64) (a := (helloFrom bs).2.1) (b := ((bs.length : Nat) : Int)) rfl rfl) (qt rfl (pf (v := .bool (decide (((helloFrom bs).2.1) ≠ ((bs.length : Nat) : Int)))) rfl rfl) (nl (nN ?_))))))
   refine cdd (p := ((helloFrom bs).2.1) ≠ ((bs.length : Nat) : Int)) rfl (fun h4 => ?_) (fun h4 => ?_)
   · refine sq (rg (qt rfl (ldg (vs := [I sx, .slice Awt wt.length cwt, .slice Alg lg.length clg, Str to]) hs3 0 rfl rfl rfl rfl ag29) (cl trivial rfl (sL23Next (sx := sx) (Awt := Awt) (cwt := cwt) (wt := wt) (Alg := Alg) (clg := clg) (lg := lg) (to := to) (nst := 4) (w := _) (hwt := (hwt.up0 hs3)) (hwt_n := (by omega)) (hlg := (hlg.up0 hs3)) (hlg_e := hlg_e) (hlg_n := (by omega))) ?_)))
     rintro _ w7 ⟨Aw2, cw2, Al2, cl2, rfl, hs8'⟩
     have hs8 := hs3.call0 hs8'
     clear hs8'
     refine bsk hs8 sl22 [] [] trivial rfl (fun b4 w8 (hs9 : SH w w8 [] [.blk b1 29 [I sx, .slice Awt wt.length cwt, .slice Alg lg.length clg, Str to], .blk b2 29 [I 0, ns, ns, Str []], .own A1 (((helloFrom bs).1).length) c1 3 1 (((helloFrom bs).1).map I), .own Aw2 wt.length cw2 3 1 (wt.map I), .own Al2 lg.length cl2 51 2 (lg.flatMap gLogin), oI b4 ([] : List Int) 0 3]) => ?_)
     refine stg (vs := [I 4, .slice Aw2 wt.length cw2, .slice Al2 lg.length cl2, Str []]) hs9 1 rfl rfl rfl rfl rfl rfl rfl ag29 trivial (fun w9 (hs10 : SH w w9 [] [.blk b1 29 [I sx, .slice Awt wt.length cwt, .slice Alg lg.length clg, Str to], .own A1 (((helloFrom bs).1).length) c1 3 1 (((helloFrom bs).1).map I), .own Aw2 wt.length cw2 3 1 (wt.map I), .own Al2 lg.length cl2 51 2 (lg.flatMap gLogin), oI b4 ([] : List Int) 0 3, .blk b2 29 [I 4, .slice Aw2 wt.length cw2, .slice Al2 lg.length cl2, Str []]]) => ?_)
     refine qt rfl (asg (v := sb b4 (([] : List Int).length) 0) rfl) (nl (nN ?_))
     have hs11 : SH w w9 [] [.own Aw2 wt.length cw2 3 1 (wt.map I), .own Al2 lg.length cl2 51 2 (lg.flatMap gLogin), oI b4 ([] : List Int) 0 3, .blk b2 29 [I 4, .slice Aw2 wt.length cw2, .slice Al2 lg.length cl2, Str []]] := hs10.pick [2, 3, 4, 5] rfl (by decide)
     refine rt (tR ?_)
     refine fret (v := .tuple #[.agg #[I 4, .slice Aw2 wt.length cw2, .slice Al2 lg.length cl2, Str []], sb b4 (([] : List Int).length) 0]) (resC hs11 3 rfl rfl ag29 rfl (.tmp .nil)) rfl ?_
     have e4 : 4 = (sayHello wt bs).1 := by (rw [sayH_no3 (by assumption)]; done)
     have e5 : ([] : List Int) = (sayHello wt bs).2 := by (rw [sayH_no3 (by assumption)]; done)
     have e6 : ([] : List Int).length = ((sayHello wt bs).2).length := by exact congrArg List.length e5
     exact ⟨Aw2, cw2, Al2, cl2, (some ⟨b4, 0, none⟩), 0, (tup2 (aggv (lc (congrArg (Value.int .i64) e4) (lc rfl (lc rfl (lc rfl rfl))))) (slv rfl e6 rfl)), ((hs11.pick [0, 1, 2] rfl (by decide)).cast (lc rfl (lc rfl (lc (own_eq (g := I) rfl e6 rfl e5) rfl))))⟩
   · refine sk (nN (sq (rg (qt rfl (fa 1 fo29_1 rfl) (qt rfl (ld (v := .slice Awt wt.length cwt) hs3 0 rfl rfl rfl one22) (qt rfl (mv (v := .slice A1 (((helloFrom bs).1).length) c1) rfl) (cl trivial rfl (sHelloPick (Awt := Awt) (cwt := cwt) (wt := wt) (Ams := A1) (cms := c1) (ms := (helloFrom bs).1) (w := _) (hwt := (hwt.up0 hs3)) (hms := (hs3.sl0 2 rfl))) ?_)))))))
     rintro _ w10 ⟨rfl, hs12'⟩
     have hs12 := hs3.call0 hs12'
     clear hs12'
     refine qt rfl (asg (v := I (helloPick wt ((helloFrom bs).1))) rfl) (nl (nN (sq (rg (qt rfl (mv (v := I (helloPick wt ((helloFrom bs).1))) rfl) (cl trivial rfl (sPickBytes (m := helloPick wt ((helloFrom bs).1)) (w := _) (hm := (by exact pick_bd _ _))) ?_))))))
     rintro _ w11 ⟨A2, c2, rfl, hs13'⟩
     have hs13 := hs12.call0 hs13'
     clear hs13'
     refine qt rfl (mv (v := .tuple #[.slice A2 ([5, (helloPick wt ((helloFrom bs).1))].length) c2, .bool true]) rfl) (qt rfl (xt 0 (v := .slice A2 ([5, (helloPick wt ((helloFrom bs).1))].length) c2) rfl rfl) (qt rfl (xt 1 (v := .bool true) rfl rfl) (qt rfl (asg (v := .slice A2 ([5, (helloPick wt ((helloFrom bs).1))].length) c2) rfl) (qt rfl (asg (v := .bool true) rfl) (nl (nN (sq ?_)))))))
     refine sq (rg (qt rfl (mv (v := I (helloPick wt ((helloFrom bs).1))) rfl) (nl (nN (bl (sq (rg ?_)))))))
     refine qt rfl (eqi (k := .i64) (a := helloPick wt ((helloFrom bs).1)) (b := 0) rfl rfl) (qt rfl (asg (v := .bool (decide ((helloPick wt ((helloFrom bs).1)) = 0))) rfl) (nl (nN ?_)))
     refine cdd (p := (helloPick wt ((helloFrom bs).1)) = 0) rfl (fun h5 => ?_) (fun h5 => ?_)
     · refine sq (rg (qt rfl (ldg (vs := [I sx, .slice Awt wt.length cwt, .slice Alg lg.length clg, Str to]) hs13 0 rfl rfl rfl rfl ag29) (cl trivial rfl (sL23Next (sx := sx) (Awt := Awt) (cwt := cwt) (wt := wt) (Alg := Alg) (clg := clg) (lg := lg) (to := to) (nst := 2) (w := _) (hwt := (hwt.up0 hs13)) (hwt_n := (by omega)) (hlg := (hlg.up0 hs13)) (hlg_e := hlg_e) (hlg_n := (by omega))) ?_)))
       rintro _ w12 ⟨Aw3, cw3, Al3, cl3, rfl, hs14'⟩
       have hs14 := hs13.call0 hs14'
       clear hs14'
       refine qt rfl (mv (v := .slice A2 ([5, (helloPick wt ((helloFrom bs).1))].length) c2) rfl) (stg (vs := [I 2, .slice Aw3 wt.length cw3, .slice Al3 lg.length cl3, Str []]) hs14 1 rfl rfl rfl rfl rfl rfl rfl ag29 trivial (fun w13 (hs15 : SH w w13 [] [.blk b1 29 [I sx, .slice Awt wt.length cwt, .slice Alg lg.length clg, Str to], .own A1 (((helloFrom bs).1).length) c1 3 1 (((helloFrom bs).1).map I), .own A2 ([5, (helloPick wt ((helloFrom bs).1))].length) c2 3 1 ([5, (helloPick wt ((helloFrom bs).1))].map I), .own Aw3 wt.length cw3 3 1 (wt.map I), .own Al3 lg.length cl3 51 2 (lg.flatMap gLogin), .blk b2 29 [I 2, .slice Aw3 wt.length cw3, .slice Al3 lg.length cl3, Str []]]) => ?_))
       refine qt rfl (asg (v := .slice A2 ([5, (helloPick wt ((helloFrom bs).1))].length) c2) rfl) (nl (nN ?_))
       have hs16 : SH w w13 [] [.own A2 ([5, (helloPick wt ((helloFrom bs).1))].length) c2 3 1 ([5, (helloPick wt ((helloFrom bs).1))].map I), .own Aw3 wt.length cw3 3 1 (wt.map I), .own Al3 lg.length cl3 51 2 (lg.flatMap gLogin), .blk b2 29 [I 2, .slice Aw3 wt.length cw3, .slice Al3 lg.length cl3, Str []]] := hs15.pick [2, 3, 4, 5] rfl (by decide)
       refine rt (bR (tR ?_))
       refine fret (v := .tuple #[.agg #[I 2, .slice Aw3 wt.length cw3, .slice Al3 lg.length cl3, Str []], .slice A2 ([5, (helloPick wt ((helloFrom bs).1))].length) c2]) (resC hs16 3 rfl rfl ag29 rfl (.tmp .nil)) rfl ?_
       have e7 : 2 = (sayHello wt bs).1 := by (rw [sayH_y2 (by assumption) (by assumption)]; simp [h3, h4, h5]; done)
       have e8 : [5, (helloPick wt ((helloFrom bs).1))] = (sayHello wt bs).2 := by (rw [sayH_y2 (by assumption) (by assumption)]; done)
       have e9 : [5, (helloPick wt ((helloFrom bs).1))].length = ((sayHello wt bs).2).length := by exact congrArg List.length e8
       exact ⟨Aw3, cw3, Al3, cl3, A2, c2, (tup2 (aggv (lc (congrArg (Value.int .i64) e7) (lc rfl (lc rfl (lc rfl rfl))))) (slv rfl e9 rfl)), ((hs16.pick [1, 2, 0] rfl (by decide)).cast (lc rfl (lc rfl (lc (own_eq (g := I) rfl e9 rfl e8) rfl))))⟩
     · refine sq (rg (qt rfl (eqi (k := .i64) (a := helloPick wt ((helloFrom bs).1)) (b := 2) rfl rfl) (qt rfl (asg (v := .bool (decide ((helloPick wt ((helloFrom bs).1)) = 2))) rfl) (nl (nN ?_)))))
       refine cdd (p := (helloPick wt ((helloFrom bs).1)) = 2) rfl (fun h6 => ?_) (fun h6 => ?_)
       · refine sq (rg (qt rfl (ldg (vs := [I sx, .slice Awt wt.length cwt, .slice Alg lg.length clg, Str to]) hs13 0 rfl rfl rfl rfl ag29) (cl trivial rfl (sL23Next (sx := sx) (Awt := Awt) (cwt := cwt) (wt := wt) (Alg := Alg) (clg := clg) (lg := lg) (to := to) (nst := 1) (w := _) (hwt := (hwt.up0 hs13)) (hwt_n := (by omega)) (hlg := (hlg.up0 hs13)) (hlg_e := hlg_e) (hlg_n := (by omega))) ?_)))
         rintro _ w14 ⟨Aw4, cw4, Al4, cl4, rfl, hs17'⟩
         have hs17 := hs13.call0 hs17'
         clear hs17'
         refine qt rfl (mv (v := .slice A2 ([5, (helloPick wt ((helloFrom bs).1))].length) c2) rfl) (stg (vs := [I 1, .slice Aw4 wt.length cw4, .slice Al4 lg.length cl4, Str []]) hs17 1 rfl rfl rfl rfl rfl rfl rfl ag29 trivial (fun w15 (hs18 : SH w w15 [] [.blk b1 29 [I sx, .slice Awt wt.length cwt, .slice Alg lg.length clg, Str to], .own A1 (((helloFrom bs).1).length) c1 3 1 (((helloFrom bs).1).map I), .own A2 ([5, (helloPick wt ((helloFrom bs).1))].length) c2 3 1 ([5, (helloPick wt ((helloFrom bs).1))].map I), .own Aw4 wt.length cw4 3 1 (wt.map I), .own Al4 lg.length cl4 51 2 (lg.flatMap gLogin), .blk b2 29 [I 1, .slice Aw4 wt.length cw4, .slice Al4 lg.length cl4, Str []]]) => ?_))
         refine qt rfl (asg (v := .slice A2 ([5, (helloPick wt ((helloFrom bs).1))].length) c2) rfl) (nl (nN ?_))
         have hs19 : SH w w15 [] [.own A2 ([5, (helloPick wt ((helloFrom bs).1))].length) c2 3 1 ([5, (helloPick wt ((helloFrom bs).1))].map I), .own Aw4 wt.length cw4 3 1 (wt.map I), .own Al4 lg.length cl4 51 2 (lg.flatMap gLogin), .blk b2 29 [I 1, .slice Aw4 wt.length cw4, .slice Al4 lg.length cl4, Str []]] := hs18.pick [2, 3, 4, 5] rfl (by decide)
         refine rt (bR (tR ?_))
         refine fret (v := .tuple #[.agg #[I 1, .slice Aw4 wt.length cw4, .slice Al4 lg.length cl4, Str []], .slice A2 ([5, (helloPick wt ((helloFrom bs).1))].length) c2]) (resC hs19 3 rfl rfl ag29 rfl (.tmp .nil)) rfl ?_
         have e10 : 1 = (sayHello wt bs).1 := by (rw [sayH_y2 (by assumption) (by assumption)]; simp [h3, h4, h5, h6]; done)
         have e11 : [5, (helloPick wt ((helloFrom bs).1))] = (sayHello wt bs).2 := by (rw [sayH_y2 (by assumption) (by assumption)]; done)
         have e12 : [5, (helloPick wt ((helloFrom bs).1))].length = ((sayHello wt bs).2).length := by exact congrArg List.length e11
         exact ⟨Aw4, cw4, Al4, cl4, A2, c2, (tup2 (aggv (lc (congrArg (Value.int .i64) e10) (lc rfl (lc rfl (lc rfl rfl))))) (slv rfl e12 rfl)), ((hs19.pick [1, 2, 0] rfl (by decide)).cast (lc rfl (lc rfl (lc (own_eq (g := I) rfl e12 rfl e11) rfl))))⟩
       · refine sk (bN (nN (sq (rg (qt rfl (ldg (vs := [I sx, .slice Awt wt.length cwt, .slice Alg lg.length clg, Str to]) hs13 0 rfl rfl rfl rfl ag29) (cl trivial rfl (sL23Next (sx := sx) (Awt := Awt) (cwt := cwt) (wt := wt) (Alg := Alg) (clg := clg) (lg := lg) (to := to) (nst := 4) (w := _) (hwt := (hwt.up0 hs13)) (hwt_n := (by omega)) (hlg := (hlg.up0 hs13)) (hlg_e := hlg_e) (hlg_n := (by omega))) ?_))))))
         rintro _ w16 ⟨Aw5, cw5, Al5, cl5, rfl, hs20'⟩
         have hs20 := hs13.call0 hs20'
         clear hs20'
         refine qt rfl (mv (v := .slice A2 ([5, (helloPick wt ((helloFrom bs).1))].length) c2) rfl) (stg (vs := [I 4, .slice Aw5 wt.length cw5, .slice Al5 lg.length cl5, Str []]) hs20 1 rfl rfl rfl rfl rfl rfl rfl ag29 trivial (fun w17 (hs21 : SH w w17 [] [.blk b1 29 [I sx, .slice Awt wt.length cwt, .slice Alg lg.length clg, Str to], .own A1 (((helloFrom bs).1).length) c1 3 1 (((helloFrom bs).1).map I), .own A2 ([5, (helloPick wt ((helloFrom bs).1))].length) c2 3 1 ([5, (helloPick wt ((helloFrom bs).1))].map I), .own Aw5 wt.length cw5 3 1 (wt.map I), .own Al5 lg.length cl5 51 2 (lg.flatMap gLogin), .blk b2 29 [I 4, .slice Aw5 wt.length cw5, .slice Al5 lg.length cl5, Str []]]) => ?_))
         refine qt rfl (asg (v := .slice A2 ([5, (helloPick wt ((helloFrom bs).1))].length) c2) rfl) (nl (nN ?_))
         have hs22 : SH w w17 [] [.own A2 ([5, (helloPick wt ((helloFrom bs).1))].length) c2 3 1 ([5, (helloPick wt ((helloFrom bs).1))].map I), .own Aw5 wt.length cw5 3 1 (wt.map I), .own Al5 lg.length cl5 51 2 (lg.flatMap gLogin), .blk b2 29 [I 4, .slice Aw5 wt.length cw5, .slice Al5 lg.length cl5, Str []]] := hs21.pick [2, 3, 4, 5] rfl (by decide)
         refine rt (fret (v := .tuple #[.agg #[I 4, .slice Aw5 wt.length cw5, .slice Al5 lg.length cl5, Str []], .slice A2 ([5, (helloPick wt ((helloFrom bs).1))].length) c2]) (resC hs22 3 rfl rfl ag29 rfl (.tmp .nil)) rfl ?_)
         have e13 : 4 = (sayHello wt bs).1 := by (rw [sayH_y2 (by assumption) (by assumption)]; simp [h3, h4, h5, h6]; done)
         have e14 : [5, (helloPick wt ((helloFrom bs).1))] = (sayHello wt bs).2 := by (rw [sayH_y2 (by assumption) (by assumption)]; done)
         have e15 : [5, (helloPick wt ((helloFrom bs).1))].length = ((sayHello wt bs).2).length := by exact congrArg List.length e14
         exact ⟨Aw5, cw5, Al5, cl5, A2, c2, (tup2 (aggv (lc (congrArg (Value.int .i64) e13) (lc rfl (lc rfl (lc rfl rfl))))) (slv rfl e15 rfl)), ((hs22.pick [1, 2, 0] rfl (by decide)).cast (lc rfl (lc rfl (lc (own_eq (g := I) rfl e15 rfl e14) rfl))))⟩
theorem sL23Login (sx : Int) {Awt : Option Addr} {cwt : Nat} (wt : List Int) {Alg : Option Addr} {clg : Nat} (lg : List (List UInt8 × List UInt8)) (to : List UInt8) {Abs : Option Addr} {cbs : Nat} (bs : List Int) (w : World) (hwt : Sl w [] 1 Awt wt.length cwt (wt.map I)) (hwt_n : wt.length ≤ 1099511627776) (hlg : Sl w [] 2 Alg lg.length clg (lg.flatMap gLogin)) (hlg_e : ∀ u ∈ lg, u.1.length ≤ 9223372036854775807 ∧ u.2.length ≤ 9223372036854775807) (hlg_n : lg.length ≤ 1099511627776) (hbs : Sl w [] 1 Abs bs.length cbs (bs.map I)) : Does Tryz.prog 43 [.agg #[I sx, .slice Awt wt.length cwt, .slice Alg lg.length clg, Str to], .slice Abs bs.length cbs] w (fun v w' => ∃ Awr : Option Addr, ∃ cwr : Nat, ∃ Alr : Option Addr, ∃ clr : Nat, ∃ Ayr : Option Addr, ∃ cyr : Nat, v = .tuple #[.agg #[.int .i64 ((sayLogin lg bs).1), .slice Awr wt.length cwr, .slice Alr lg.length clr, Str []], .slice Ayr ((sayLogin lg bs).2).length cyr] ∧ SH w w' [] [.own Awr wt.length cwr 3 1 (wt.map I), .own Alr lg.length clr 51 2 (lg.flatMap gLogin), .own Ayr (((sayLogin lg bs).2).length) cyr 3 1 (((sayLogin lg bs).2).map I)]) := by
 refine fn_enter (N := 37) Tryz.func43 rfl (by kernel_rfl) rfl rfl rfl ?_
 have hs0 : SH w w [] [] := SH.refl w []
 have hwt_m : wt.length ≤ 9223372036854775807 := Nat.le_trans hwt.cap hwt.capMax
 have hlg_m : lg.length ≤ 9223372036854775807 := Nat.le_trans hlg.cap hlg.capMax
 have hbs_m : bs.length ≤ 9223372036854775807 := Nat.le_trans hbs.cap hbs.capMax
 refine sq (rg (bx (v := .agg #[I sx, .slice Awt wt.length cwt, .slice Alg lg.length clg, Str to]) (cs := [I sx, .slice Awt wt.length cwt, .slice Alg lg.length clg, Str to]) hs0 rfl rfl trivial rfl (fun b1 w1 (hs1 : SH w w1 [] [.blk b1 29 [I sx, .slice Awt wt.length cwt, .slice Alg lg.length clg, Str to]]) => ?_)))
 refine al (v := .agg #[I 0, ns, ns, Str []]) (cs := [I 0, ns, ns, Str []]) hs1 tz29 rfl trivial rfl (fun b2 w2 (hs2 : SH w w2 [] [.blk b1 29 [I sx, .slice Awt wt.length cwt, .slice Alg lg.length clg, Str to], .blk b2 29 [I 0, ns, ns, Str []]]) => ?_)
 refine qt rfl (asg (v := ns) rfl) (nl (nN (sq (rg (qt rfl (mv (v := .slice Abs bs.length cbs) rfl) (cl trivial rfl (sLoginFrom (Abs := Abs) (cbs := cbs) (bs := bs) (w := _) (hbs := (hbs.up0 hs2))) ?_))))))
 rintro _ w3 ⟨rfl, hs3'⟩
 have hs3 := hs2.call0 hs3'
 clear hs3'
 refine qt rfl (mv (v := .tuple #[.agg #[Str ((loginFrom bs).1.1), Str ((loginFrom bs).1.2)], I ((loginFrom bs).2.1), .bool ((loginFrom bs).2.2)]) rfl) (qt rfl (xt 0 (v := .agg #[Str ((loginFrom bs).1.1), Str ((loginFrom bs).1.2)]) rfl rfl) (qt rfl (xt 1 (v := I ((loginFrom bs).2.1)) rfl rfl) (qt rfl (xt 2 (v := .bool ((loginFrom bs).2.2)) rfl rfl) (al (v := .agg #[Str [], Str []]) (cs := [Str [], Str []]) hs3 tz51 rfl trivial rfl (fun b3 w4 (hs4 : SH w w4 [] [.blk b1 29 [I sx, .slice Awt wt.length cwt, .slice Alg lg.length clg, Str to], .blk b2 29 [I 0, ns, ns, Str []], .blk b3 51 [Str [], Str []]]) => ?_)))))
 refine stg (vs := [Str ((loginFrom bs).1.1), Str ((loginFrom bs).1.2)]) hs4 2 rfl rfl rfl rfl rfl rfl rfl ag51 trivial (fun w5 (hs5 : SH w w5 [] [.blk b1 29 [I sx, .slice Awt wt.length cwt, .slice Alg lg.length clg, Str to], .blk b2 29 [I 0, ns, ns, Str []], .blk b3 51 [Str ((loginFrom bs).1.1), Str ((loginFrom bs).1.2)]]) => ?_)
 refine qt rfl (asg (v := I ((loginFrom bs).2.1)) rfl) (qt rfl (asg (v := .bool ((loginFrom bs).2.2)) rfl) (nl (nN (sq (sq (rg (qt rfl (mv (v := .bool ((loginFrom bs).2.2)) rfl) ?_)))))))
 refine qt rfl (nt (b := (loginFrom bs).2.2) rfl) (qt rfl (mv (v := .bool (!((loginFrom bs).2.2))) rfl) ?_)
 refine spl (b := !((loginFrom bs).2.2)) 17 rfl (fun h1 => ?_) (fun h1 => ?_)
 · have h2 : ((loginFrom bs).2.2) = false := by simpa using h1
   refine gk true rfl rfl rfl rfl rfl (gk true rfl rfl rfl rfl rfl (gk true rfl rfl rfl rfl rfl (gk true rfl rfl rfl rfl rfl (qt rfl (pt (v := .bool true) rfl rfl) (nl (nN (cdt rfl ?_)))))))
   refine sq (rg (qt rfl (ldg (vs := [I sx, .slice Awt wt.length cwt, .slice Alg lg.length clg, Str to]) hs5 0 rfl rfl rfl rfl ag29) (cl trivial rfl (sL23Next (sx := sx) (Awt := Awt) (cwt := cwt) (wt := wt) (Alg := Alg) (clg := clg) (lg := lg) (to := to) (nst := 4) (w := _) (hwt := (hwt.up0 hs5)) (hwt_n := (by (first | omega | (simp; done) | (simp; omega)))) (hlg := (hlg.up0 hs5)) (hlg_e := hlg_e) (hlg_n := (by (first | omega | (simp; done) | (simp; omega))))) ?_)))
   rintro _ w6 ⟨Aw1, cw1, Al1, cl1, rfl, hs6'⟩
   have hs6 := hs5.call0 hs6'
   clear hs6'
   refine bsk hs6 sl22 [] [] trivial rfl (fun b4 w7 (hs7 : SH w w7 [] [.blk b1 29 [I sx, .slice Awt wt.length cwt, .slice Alg lg.length clg, Str to], .blk b2 29 [I 0, ns, ns, Str []], .blk b3 51 [Str ((loginFrom bs).1.1), Str ((loginFrom bs).1.2)], .own Aw1 wt.length cw1 3 1 (wt.map I), .own Al1 lg.length cl1 51 2 (lg.flatMap gLogin), oI b4 ([] : List Int) 0 3]) => ?_)
   refine stg (vs := [I 4, .slice Aw1 wt.length cw1, .slice Al1 lg.length cl1, Str []]) hs7 1 rfl rfl rfl rfl rfl rfl rfl ag29 trivial (fun w8 (hs8 : SH w w8 [] [.blk b1 29 [I sx, .slice Awt wt.length cwt, .slice Alg lg.length clg, Str to], .blk b3 51 [Str ((loginFrom bs).1.1), Str ((loginFrom bs).1.2)], .own Aw1 wt.length cw1 3 1 (wt.map I), .own Al1 lg.length cl1 51 2 (lg.flatMap gLogin), oI b4 ([] : List Int) 0 3, .blk b2 29 [I 4, .slice Aw1 wt.length cw1, .slice Al1 lg.length cl1, Str []]]) => ?_)
   refine qt rfl (asg (v := sb b4 (([] : List Int).length) 0) rfl) (nl (nN ?_))
   have hs9 : SH w w8 [] [.own Aw1 wt.length cw1 3 1 (wt.map I), .own Al1 lg.length cl1 51 2 (lg.flatMap gLogin), oI b4 ([] : List Int) 0 3, .blk b2 29 [I 4, .slice Aw1 wt.length cw1, .slice Al1 lg.length cl1, Str []]] := hs8.pick [2, 3, 4, 5] rfl (by decide)
   refine rt (tR ?_)
   refine fret (v := .tuple #[.agg #[I 4, .slice Aw1 wt.length cw1, .slice Al1 lg.length cl1, Str []], sb b4 (([] : List Int).length) 0]) (resC hs9 3 rfl rfl ag29 rfl (.tmp .nil)) rfl ?_
   have e1 : 4 = (sayLogin lg bs).1 := by (rw [sayL_no1 (by assumption)]; done)
   have e2 : ([] : List Int) = (sayLogin lg bs).2 := by (rw [sayL_no1 (by assumption)]; done)
   have e3 : ([] : List Int).length = ((sayLogin lg bs).2).length := by exact congrArg List.length e2
   exact ⟨Aw1, cw1, Al1, cl1, (some ⟨b4, 0, none⟩), 0, (tup2 (aggv (lc (congrArg (Value.int .i64) e1) (lc rfl (lc rfl (lc rfl rfl))))) (slv rfl e3 rfl)), ((hs9.pick [0, 1, 2] rfl (by decide)).cast (lc rfl (lc rfl (lc (own_eq (g := I) rfl e3 rfl e2) rfl))))⟩
 · have h3 : ((loginFrom bs).2.2) = true := by simpa using h1
   refine q ⟨_, rfl, rfl⟩ rfl rfl (mv (v := I ((loginFrom bs).2.1)) rfl) (q ⟨_, rfl, rfl⟩ rfl rfl (mv (v := .slice Abs bs.length cbs) rfl) (q ⟨_, rfl, rfl⟩ rfl rfl (lnA (n := bs.length) sl22 rfl) (q ⟨_, rfl, rfl⟩ rfl rfl (nei (k := .i64) (a := (loginFrom bs).2.1) (b := ((bs.length : Nat) : Int)) rfl rfl) (qt rfl (pf (v := .bool (decide (((loginFrom bs).2.1) ≠ ((bs.length : Nat) : Int)))) rfl rfl) (nl (nN ?_))))))
   refine cdd (p := ((loginFrom bs).2.1) ≠ ((bs.length : Nat) : Int)) rfl (fun h4 => ?_) (fun h4 => ?_)
   · refine sq (rg (qt rfl (ldg (vs := [I sx, .slice Awt wt.length cwt, .slice Alg lg.length clg, Str to]) hs5 0 rfl rfl rfl rfl ag29) (cl trivial rfl (sL23Next (sx := sx) (Awt := Awt) (cwt := cwt) (wt := wt) (Alg := Alg) (clg := clg) (lg := lg) (to := to) (nst := 4) (w := _) (hwt := (hwt.up0 hs5)) (hwt_n := (by (first | omega | (simp; done) | (simp; omega)))) (hlg := (hlg.up0 hs5)) (hlg_e := hlg_e) (hlg_n := (by (first | omega | (simp; done) | (simp; omega))))) ?_)))
     rintro _ w9 ⟨Aw2, cw2, Al2, cl2, rfl, hs10'⟩
     have hs10 := hs5.call0 hs10'
     clear hs10'
     refine bsk hs10 sl22 [] [] trivial rfl (fun b5 w10 (hs11 : SH w w10 [] [.blk b1 29 [I sx, .slice Awt wt.length cwt, .slice Alg lg.length clg, Str to], .blk b2 29 [I 0, ns, ns, Str []], .blk b3 51 [Str ((loginFrom bs).1.1), Str ((loginFrom bs).1.2)], .own Aw2 wt.length cw2 3 1 (wt.map I), .own Al2 lg.length cl2 51 2 (lg.flatMap gLogin), oI b5 ([] : List Int) 0 3]) => ?_)
     refine stg (vs := [I 4, .slice Aw2 wt.length cw2, .slice Al2 lg.length cl2, Str []]) hs11 1 rfl rfl rfl rfl rfl rfl rfl ag29 trivial (fun w11 (hs12 : SH w w11 [] [.blk b1 29 [I sx, .slice Awt wt.length cwt, .slice Alg lg.length clg, Str to], .blk b3 51 [Str ((loginFrom bs).1.1), Str ((loginFrom bs).1.2)], .own Aw2 wt.length cw2 3 1 (wt.map I), .own Al2 lg.length cl2 51 2 (lg.flatMap gLogin), oI b5 ([] : List Int) 0 3, .blk b2 29 [I 4, .slice Aw2 wt.length cw2, .slice Al2 lg.length cl2, Str []]]) => ?_)
     refine qt rfl (asg (v := sb b5 (([] : List Int).length) 0) rfl) (nl (nN ?_))
     have hs13 : SH w w11 [] [.own Aw2 wt.length cw2 3 1 (wt.map I), .own Al2 lg.length cl2 51 2 (lg.flatMap gLogin), oI b5 ([] : List Int) 0 3, .blk b2 29 [I 4, .slice Aw2 wt.length cw2, .slice Al2 lg.length cl2, Str []]] := hs12.pick [2, 3, 4, 5] rfl (by decide)
     refine rt (tR ?_)
     refine fret (v := .tuple #[.agg #[I 4, .slice Aw2 wt.length cw2, .slice Al2 lg.length cl2, Str []], sb b5 (([] : List Int).length) 0]) (resC hs13 3 rfl rfl ag29 rfl (.tmp .nil)) rfl ?_
     have e4 : 4 = (sayLogin lg bs).1 := by (rw [sayL_no3 (by assumption)]; done)
     have e5 : ([] : List Int) = (sayLogin lg bs).2 := by (rw [sayL_no3 (by assumption)]; done)
     have e6 : ([] : List Int).length = ((sayLogin lg bs).2).length := by exact congrArg List.length e5
     exact ⟨Aw2, cw2, Al2, cl2, (some ⟨b5, 0, none⟩), 0, (tup2 (aggv (lc (congrArg (Value.int .i64) e4) (lc rfl (lc rfl (lc rfl rfl))))) (slv rfl e6 rfl)), ((hs13.pick [0, 1, 2] rfl (by decide)).cast (lc rfl (lc rfl (lc (own_eq (g := I) rfl e6 rfl e5) rfl))))⟩
   · refine sk (nN (sq (sq (rg (qt rfl (fa 2 fo29_2 rfl) (qt rfl (ld (v := .slice Alg lg.length clg) hs5 0 rfl rfl rfl one27) (qt rfl (ldg (vs := [Str ((loginFrom bs).1.1), Str ((loginFrom bs).1.2)]) hs5 2 rfl rfl rfl rfl ag51) ?_)))))))
     refine cl trivial rfl (sLoginFits (Alg := Alg) (clg := clg) (lg := lg) (lu := (loginFrom bs).1.1) (lw := (loginFrom bs).1.2) (w := _) (hlg := (hlg.up0 hs5)) (hlg_e := hlg_e) (hlu_n := (by (have hlk := loginOk_fit (loginFrom_ok (by assumption : (loginFrom bs).2.2 = true)).2.1; first | omega | (simp; done) | (simp; omega)))) (hlw_n := (by (have hlk := loginOk_fit (loginFrom_ok (by assumption : (loginFrom bs).2.2 = true)).2.1; first | omega | (simp; done) | (simp; omega))))) ?_
     rintro _ w12 ⟨rfl, hs14'⟩
     have hs14 := hs5.call0 hs14'
     clear hs14'
     refine qt rfl (nt (b := fitsL lg ((loginFrom bs).1.1) ((loginFrom bs).1.2)) rfl) (nl (nN ?_))
     refine cd (b := !(fitsL lg ((loginFrom bs).1.1) ((loginFrom bs).1.2))) rfl (fun h5 => ?_) (fun h5 => ?_)
     · have h6 : (fitsL lg ((loginFrom bs).1.1) ((loginFrom bs).1.2)) = false := by simpa using h5
       refine sq (rg (qt rfl (ldg (vs := [I sx, .slice Awt wt.length cwt, .slice Alg lg.length clg, Str to]) hs14 0 rfl rfl rfl rfl ag29) (cl trivial rfl (sL23Next (sx := sx) (Awt := Awt) (cwt := cwt) (wt := wt) (Alg := Alg) (clg := clg) (lg := lg) (to := to) (nst := 4) (w := _) (hwt := (hwt.up0 hs14)) (hwt_n := (by (first | omega | (simp; done) | (simp; omega)))) (hlg := (hlg.up0 hs14)) (hlg_e := hlg_e) (hlg_n := (by (first | omega | (simp; done) | (simp; omega))))) ?_)))
       rintro _ w13 ⟨Aw3, cw3, Al3, cl3, rfl, hs15'⟩
       have hs15 := hs14.call0 hs15'
       clear hs15'
       refine cl trivial rfl (sLoginReply (f := false) (w := _)) ?_
       rintro _ w14 ⟨A1, c1, rfl, hs16'⟩
       have hs16 := hs15.call0 hs16'
       clear hs16'
       refine stg (vs := [I 4, .slice Aw3 wt.length cw3, .slice Al3 lg.length cl3, Str []]) hs16 1 rfl rfl rfl rfl rfl rfl rfl ag29 trivial (fun w15 (hs17 : SH w w15 [] [.blk b1 29 [I sx, .slice Awt wt.length cwt, .slice Alg lg.length clg, Str to], .blk b3 51 [Str ((loginFrom bs).1.1), Str ((loginFrom bs).1.2)], .own Aw3 wt.length cw3 3 1 (wt.map I), .own Al3 lg.length cl3 51 2 (lg.flatMap gLogin), .own A1 ((lrB false).length) c1 3 1 ((lrB false).map I), .blk b2 29 [I 4, .slice Aw3 wt.length cw3, .slice Al3 lg.length cl3, Str []]]) => ?_)
       refine qt rfl (asg (v := .slice A1 ((lrB false).length) c1) rfl) (nl (nN ?_))
       have hs18 : SH w w15 [] [.own Aw3 wt.length cw3 3 1 (wt.map I), .own Al3 lg.length cl3 51 2 (lg.flatMap gLogin), .own A1 ((lrB false).length) c1 3 1 ((lrB false).map I), .blk b2 29 [I 4, .slice Aw3 wt.length cw3, .slice Al3 lg.length cl3, Str []]] := hs17.pick [2, 3, 4, 5] rfl (by decide)
       refine rt (tR ?_)
       refine fret (v := .tuple #[.agg #[I 4, .slice Aw3 wt.length cw3, .slice Al3 lg.length cl3, Str []], .slice A1 ((lrB false).length) c1]) (resC hs18 3 rfl rfl ag29 rfl (.tmp .nil)) rfl ?_
       have e7 : 4 = (sayLogin lg bs).1 := by (rw [sayL_y2 (by assumption) (by assumption)]; simp [h3, h4, h6]; done)
       have e8 : lrB false = (sayLogin lg bs).2 := by (rw [sayL_y2 (by assumption) (by assumption)]; simp [h3, h4, h6]; done)
       have e9 : (lrB false).length = ((sayLogin lg bs).2).length := by exact congrArg List.length e8
       exact ⟨Aw3, cw3, Al3, cl3, A1, c1, (tup2 (aggv (lc (congrArg (Value.int .i64) e7) (lc rfl (lc rfl (lc rfl rfl))))) (slv rfl e9 rfl)), ((hs18.pick [0, 1, 2] rfl (by decide)).cast (lc rfl (lc rfl (lc (own_eq (g := I) rfl e9 rfl e8) rfl))))⟩
     · have h7 : (fitsL lg ((loginFrom bs).1.1) ((loginFrom bs).1.2)) = true := by simpa using h5
       refine sk (nN (sq (rg (qt rfl (ldg (vs := [I sx, .slice Awt wt.length cwt, .slice Alg lg.length clg, Str to]) hs14 0 rfl rfl rfl rfl ag29) (cl trivial rfl (sL23Next (sx := sx) (Awt := Awt) (cwt := cwt) (wt := wt) (Alg := Alg) (clg := clg) (lg := lg) (to := to) (nst := 2) (w := _) (hwt := (hwt.up0 hs14)) (hwt_n := (by (first | omega | (simp; done) | (simp; omega)))) (hlg := (hlg.up0 hs14)) (hlg_e := hlg_e) (hlg_n := (by (first | omega | (simp; done) | (simp; omega))))) ?_)))))
       rintro _ w16 ⟨Aw4, cw4, Al4, cl4, rfl, hs19'⟩
       have hs19 := hs14.call0 hs19'
       clear hs19'
       refine cl trivial rfl (sLoginReply (f := true) (w := _)) ?_
       rintro _ w17 ⟨A2, c2, rfl, hs20'⟩
       have hs20 := hs19.call0 hs20'
       clear hs20'
       refine stg (vs := [I 2, .slice Aw4 wt.length cw4, .slice Al4 lg.length cl4, Str []]) hs20 1 rfl rfl rfl rfl rfl rfl rfl ag29 trivial (fun w18 (hs21 : SH w w18 [] [.blk b1 29 [I sx, .slice Awt wt.length cwt, .slice Alg lg.length clg, Str to], .blk b3 51 [Str ((loginFrom bs).1.1), Str ((loginFrom bs).1.2)], .own Aw4 wt.length cw4 3 1 (wt.map I), .own Al4 lg.length cl4 51 2 (lg.flatMap gLogin), .own A2 ((lrB true).length) c2 3 1 ((lrB true).map I), .blk b2 29 [I 2, .slice Aw4 wt.length cw4, .slice Al4 lg.length cl4, Str []]]) => ?_)
       refine qt rfl (asg (v := .slice A2 ((lrB true).length) c2) rfl) (nl (nN ?_))
       have hs22 : SH w w18 [] [.own Aw4 wt.length cw4 3 1 (wt.map I), .own Al4 lg.length cl4 51 2 (lg.flatMap gLogin), .own A2 ((lrB true).length) c2 3 1 ((lrB true).map I), .blk b2 29 [I 2, .slice Aw4 wt.length cw4, .slice Al4 lg.length cl4, Str []]] := hs21.pick [2, 3, 4, 5] rfl (by decide)
       refine rt (fret (v := .tuple #[.agg #[I 2, .slice Aw4 wt.length cw4, .slice Al4 lg.length cl4, Str []], .slice A2 ((lrB true).length) c2]) (resC hs22 3 rfl rfl ag29 rfl (.tmp .nil)) rfl ?_)
       have e10 : 2 = (sayLogin lg bs).1 := by (rw [sayL_y2 (by assumption) (by assumption)]; simp [h3, h4, h7]; done)
       have e11 : lrB true = (sayLogin lg bs).2 := by (rw [sayL_y2 (by assumption) (by assumption)]; simp [h3, h4, h7]; done)
       have e12 : (lrB true).length = ((sayLogin lg bs).2).length := by exact congrArg List.length e11
       exact ⟨Aw4, cw4, Al4, cl4, A2, c2, (tup2 (aggv (lc (congrArg (Value.int .i64) e10) (lc rfl (lc rfl (lc rfl rfl))))) (slv rfl e12 rfl)), ((hs22.pick [0, 1, 2] rfl (by decide)).cast (lc rfl (lc rfl (lc (own_eq (g := I) rfl e12 rfl e11) rfl))))⟩
theorem sL23Request (sx : Int) {Awt : Option Addr} {cwt : Nat} (wt : List Int) {Alg : Option Addr} {clg : Nat} (lg : List (List UInt8 × List UInt8)) (to : List UInt8) {Abs : Option Addr} {cbs : Nat} (bs : List Int) (w : World) (hwt : Sl w [] 1 Awt wt.length cwt (wt.map I)) (hwt_n : wt.length ≤ 1099511627776) (hlg : Sl w [] 2 Alg lg.length clg (lg.flatMap gLogin)) (hlg_e : ∀ u ∈ lg, u.1.length ≤ 9223372036854775807 ∧ u.2.length ≤ 9223372036854775807) (hlg_n : lg.length ≤ 1099511627776) (hbs : Sl w [] 1 Abs bs.length cbs (bs.map I)) : Does Tryz.prog 44 [.agg #[I sx, .slice Awt wt.length cwt, .slice Alg lg.length clg, Str to], .slice Abs bs.length cbs] w (fun v w' => ∃ Awr : Option Addr, ∃ cwr : Nat, ∃ Alr : Option Addr, ∃ clr : Nat, ∃ Ayr : Option Addr, ∃ cyr : Nat, v = .tuple #[.agg #[.int .i64 ((sayReq bs).1), .slice Awr wt.length cwr, .slice Alr lg.length clr, Str ((sayReq bs).2.1)], .slice Ayr ((sayReq bs).2.2).length cyr] ∧ SH w w' [] [.own Awr wt.length cwr 3 1 (wt.map I), .own Alr lg.length clr 51 2 (lg.flatMap gLogin), .own Ayr (((sayReq bs).2.2).length) cyr 3 1 (((sayReq bs).2.2).map I)]) := by
 refine fn_enter (N := 57) Tryz.func44 rfl (by kernel_rfl) rfl rfl rfl ?_
 have hs0 : SH w w [] [] := SH.refl w []
 have hwt_m : wt.length ≤ 9223372036854775807 := Nat.le_trans hwt.cap hwt.capMax
 have hlg_m : lg.length ≤ 9223372036854775807 := Nat.le_trans hlg.cap hlg.capMax
 have hbs_m : bs.length ≤ 9223372036854775807 := Nat.le_trans hbs.cap hbs.capMax
 refine sq (rg (bx (v := .agg #[I sx, .slice Awt wt.length cwt, .slice Alg lg.length clg, Str to]) (cs := [I sx, .slice Awt wt.length cwt, .slice Alg lg.length clg, Str to]) hs0 rfl rfl trivial rfl (fun b1 w1 (hs1 : SH w w1 [] [.blk b1 29 [I sx, .slice Awt wt.length cwt, .slice Alg lg.length clg, Str to]]) => ?_)))
 refine al (v := .agg #[I 0, ns, ns, Str []]) (cs := [I 0, ns, ns, Str []]) hs1 tz29 rfl trivial rfl (fun b2 w2 (hs2 : SH w w2 [] [.blk b1 29 [I sx, .slice Awt wt.length cwt, .slice Alg lg.length clg, Str to], .blk b2 29 [I 0, ns, ns, Str []]]) => ?_)
 refine qt rfl (asg (v := ns) rfl) (nl (nN (sq (rg (qt rfl (mv (v := .slice Abs bs.length cbs) rfl) (cl trivial rfl (sRequestFrom (Abs := Abs) (cbs := cbs) (bs := bs) (w := _) (hbs := (hbs.up0 hs2))) ?_))))))
 rintro _ w3 ⟨Aq1, cq1, rfl, hs3'⟩
 have hs3 := hs2.call0 hs3'
 clear hs3'
 refine qt rfl (mv (v := .tuple #[.agg #[I ((reqFrom bs).1.1), I ((reqFrom bs).1.2.1), .slice Aq1 (((reqFrom bs).1.2.2.1).length) cq1, Str ((reqFrom bs).1.2.2.2.1), I ((reqFrom bs).1.2.2.2.2)], I ((reqFrom bs).2.1), .bool ((reqFrom bs).2.2)]) rfl) (qt rfl (xt 0 (v := .agg #[I ((reqFrom bs).1.1), I ((reqFrom bs).1.2.1), .slice Aq1 (((reqFrom bs).1.2.2.1).length) cq1, Str ((reqFrom bs).1.2.2.2.1), I ((reqFrom bs).1.2.2.2.2)]) rfl rfl) (qt rfl (xt 1 (v := I ((reqFrom bs).2.1)) rfl rfl) (qt rfl (xt 2 (v := .bool ((reqFrom bs).2.2)) rfl rfl) (al (v := .agg #[I 0, I 0, ns, Str [], I 0]) (cs := [I 0, I 0, ns, Str [], I 0]) hs3 tz45 rfl trivial rfl (fun b3 w4 (hs4 : SH w w4 [] [.blk b1 29 [I sx, .slice Awt wt.length cwt, .slice Alg lg.length clg, Str to], .blk b2 29 [I 0, ns, ns, Str []], .own Aq1 (((reqFrom bs).1.2.2.1).length) cq1 3 1 (((reqFrom bs).1.2.2.1).map I), .blk b3 45 [I 0, I 0, ns, Str [], I 0]]) => ?_)))))
 refine stg (vs := [I ((reqFrom bs).1.1), I ((reqFrom bs).1.2.1), .slice Aq1 (((reqFrom bs).1.2.2.1).length) cq1, Str ((reqFrom bs).1.2.2.2.1), I ((reqFrom bs).1.2.2.2.2)]) hs4 3 rfl rfl rfl rfl rfl rfl rfl ag45 trivial (fun w5 (hs5 : SH w w5 [] [.blk b1 29 [I sx, .slice Awt wt.length cwt, .slice Alg lg.length clg, Str to], .blk b2 29 [I 0, ns, ns, Str []], .own Aq1 (((reqFrom bs).1.2.2.1).length) cq1 3 1 (((reqFrom bs).1.2.2.1).map I), .blk b3 45 [I ((reqFrom bs).1.1), I ((reqFrom bs).1.2.1), .slice Aq1 (((reqFrom bs).1.2.2.1).length) cq1, Str ((reqFrom bs).1.2.2.2.1), I ((reqFrom bs).1.2.2.2.2)]]) => ?_)
 refine qt rfl (asg (v := I ((reqFrom bs).2.1)) rfl) (qt rfl (asg (v := .bool ((reqFrom bs).2.2)) rfl) (nl (nN (sq (sq (rg (qt rfl (mv (v := .bool ((reqFrom bs).2.2)) rfl) ?_)))))))
 refine qt rfl (nt (b := (reqFrom bs).2.2) rfl) (qt rfl (mv (v := .bool (!((reqFrom bs).2.2))) rfl) ?_)
 refine spl (b := !((reqFrom bs).2.2)) 22 rfl (fun h1 => ?_) (fun h1 => ?_)
 · have h2 : ((reqFrom bs).2.2) = false := by simpa using h1
   refine gk true rfl rfl rfl rfl rfl (gk true rfl rfl rfl rfl rfl (gk true rfl rfl rfl rfl rfl (gk true rfl rfl rfl rfl rfl (qt rfl (pt (v := .bool true) rfl rfl) (nl (nN (cdt rfl ?_)))))))
   refine sq (rg (qt rfl (ldg (vs := [I sx, .slice Awt wt.length cwt, .slice Alg lg.length clg, Str to]) hs5 0 rfl rfl rfl rfl ag29) (cl trivial rfl (sL23Next (sx := sx) (Awt := Awt) (cwt := cwt) (wt := wt) (Alg := Alg) (clg := clg) (lg := lg) (to := to) (nst := 4) (w := _) (hwt := (hwt.up0 hs5)) (hwt_n := (by (first | omega | (simp; done) | (simp; omega)))) (hlg := (hlg.up0 hs5)) (hlg_e := hlg_e) (hlg_n := (by (first | omega | (simp; done) | (simp; omega))))) ?_)))
   rintro _ w6 ⟨Aw1, cw1, Al1, cl1, rfl, hs6'⟩
   have hs6 := hs5.call0 hs6'
   clear hs6'
   refine bsk hs6 sl22 [] [] trivial rfl (fun b4 w7 (hs7 : SH w w7 [] [.blk b1 29 [I sx, .slice Awt wt.length cwt, .slice Alg lg.length clg, Str to], .blk b2 29 [I 0, ns, ns, Str []], .own Aq1 (((reqFrom bs).1.2.2.1).length) cq1 3 1 (((reqFrom bs).1.2.2.1).map I), .blk b3 45 [I ((reqFrom bs).1.1), I ((reqFrom bs).1.2.1), .slice Aq1 (((reqFrom bs).1.2.2.1).length) cq1, Str ((reqFrom bs).1.2.2.2.1), I ((reqFrom bs).1.2.2.2.2)], .own Aw1 wt.length cw1 3 1 (wt.map I), .own Al1 lg.length cl1 51 2 (lg.flatMap gLogin), oI b4 ([] : List Int) 0 3]) => ?_)
   refine stg (vs := [I 4, .slice Aw1 wt.length cw1, .slice Al1 lg.length cl1, Str []]) hs7 1 rfl rfl rfl rfl rfl rfl rfl ag29 trivial (fun w8 (hs8 : SH w w8 [] [.blk b1 29 [I sx, .slice Awt wt.length cwt, .slice Alg lg.length clg, Str to], .own Aq1 (((reqFrom bs).1.2.2.1).length) cq1 3 1 (((reqFrom bs).1.2.2.1).map I), .blk b3 45 [I ((reqFrom bs).1.1), I ((reqFrom bs).1.2.1), .slice Aq1 (((reqFrom bs).1.2.2.1).length) cq1, Str ((reqFrom bs).1.2.2.2.1), I ((reqFrom bs).1.2.2.2.2)], .own Aw1 wt.length cw1 3 1 (wt.map I), .own Al1 lg.length cl1 51 2 (lg.flatMap gLogin), oI b4 ([] : List Int) 0 3, .blk b2 29 [I 4, .slice Aw1 wt.length cw1, .slice Al1 lg.length cl1, Str []]]) => ?_)
   refine qt rfl (asg (v := sb b4 (([] : List Int).length) 0) rfl) (nl (nN ?_))
   have hs9 : SH w w8 [] [.own Aw1 wt.length cw1 3 1 (wt.map I), .own Al1 lg.length cl1 51 2 (lg.flatMap gLogin), oI b4 ([] : List Int) 0 3, .blk b2 29 [I 4, .slice Aw1 wt.length cw1, .slice Al1 lg.length cl1, Str []]] := hs8.pick [3, 4, 5, 6] rfl (by decide)
   refine rt (tR ?_)
   refine fret (v := .tuple #[.agg #[I 4, .slice Aw1 wt.length cw1, .slice Al1 lg.length cl1, Str []], sb b4 (([] : List Int).length) 0]) (resC hs9 3 rfl rfl ag29 rfl (.tmp .nil)) rfl ?_
   have e1 : 4 = (sayReq bs).1 := by (rw [sayR_no1 (by assumption)]; done)
   have e2 : [] = (sayReq bs).2.1 := by (rw [sayR_no1 (by assumption)]; done)
   have e3 : ([] : List Int) = (sayReq bs).2.2 := by (rw [sayR_no1 (by assumption)]; done)
   have e4 : ([] : List Int).length = ((sayReq bs).2.2).length := by exact congrArg List.length e3
   exact ⟨Aw1, cw1, Al1, cl1, (some ⟨b4, 0, none⟩), 0, (tup2 (aggv (lc (congrArg (Value.int .i64) e1) (lc rfl (lc rfl (lc (congrArg (Str) e2) rfl))))) (slv rfl e4 rfl)), ((hs9.pick [0, 1, 2] rfl (by decide)).cast (lc rfl (lc rfl (lc (own_eq (g := I) rfl e4 rfl e3) rfl))))⟩
 · have h3 : ((reqFrom bs).2.2) = true := by simpa using h1
   refine q ⟨_, rfl, rfl⟩ rfl rfl (mv (v := I ((reqFrom bs).2.1)) rfl) (q ⟨_, rfl, rfl⟩ rfl rfl (mv (v := .slice Abs bs.length cbs) rfl) (q ⟨_, rfl, rfl⟩ rfl rfl (lnA (n := bs.length) sl22 rfl) (q ⟨_, rfl, rfl⟩ rfl rfl (nei (k := .i64) (a := (reqFrom bs).2.1) (b := ((bs.length : Nat) : Int)) rfl rfl) (qt rfl (pf (v := .bool (decide (((reqFrom bs).2.1) ≠ ((bs.length : Nat) : Int)))) rfl rfl) (nl (nN ?_))))))
   refine cdd (p := ((reqFrom bs).2.1) ≠ ((bs.length : Nat) : Int)) rfl (fun h4 => ?_) (fun h4 => ?_)
   · refine sq (rg (qt rfl (ldg (vs := [I sx, .slice Awt wt.length cwt, .slice Alg lg.length clg, Str to]) hs5 0 rfl rfl rfl rfl ag29) (cl trivial rfl (sL23Next (sx := sx) (Awt := Awt) (cwt := cwt) (wt := wt) (Alg := Alg) (clg := clg) (lg := lg) (to := to) (nst := 4) (w := _) (hwt := (hwt.up0 hs5)) (hwt_n := (by (first | omega | (simp; done) | (simp; omega)))) (hlg := (hlg.up0 hs5)) (hlg_e := hlg_e) (hlg_n := (by (first | omega | (simp; done) | (simp; omega))))) ?_)))
     rintro _ w9 ⟨Aw2, cw2, Al2, cl2, rfl, hs10'⟩
     have hs10 := hs5.call0 hs10'
     clear hs10'
     refine bsk hs10 sl22 [] [] trivial rfl (fun b5 w10 (hs11 : SH w w10 [] [.blk b1 29 [I sx, .slice Awt wt.length cwt, .slice Alg lg.length clg, Str to], .blk b2 29 [I 0, ns, ns, Str []], .own Aq1 (((reqFrom bs).1.2.2.1).length) cq1 3 1 (((reqFrom bs).1.2.2.1).map I), .blk b3 45 [I ((reqFrom bs).1.1), I ((reqFrom bs).1.2.1), .slice Aq1 (((reqFrom bs).1.2.2.1).length) cq1, Str ((reqFrom bs).1.2.2.2.1), I ((reqFrom bs).1.2.2.2.2)], .own Aw2 wt.length cw2 3 1 (wt.map I), .own Al2 lg.length cl2 51 2 (lg.flatMap gLogin), oI b5 ([] : List Int) 0 3]) => ?_)
     refine stg (vs := [I 4, .slice Aw2 wt.length cw2, .slice Al2 lg.length cl2, Str []]) hs11 1 rfl rfl rfl rfl rfl rfl rfl ag29 trivial (fun w11 (hs12 : SH w w11 [] [.blk b1 29 [I sx, .slice Awt wt.length cwt, .slice Alg lg.length clg, Str to], .own Aq1 (((reqFrom bs).1.2.2.1).length) cq1 3 1 (((reqFrom bs).1.2.2.1).map I), .blk b3 45 [I ((reqFrom bs).1.1), I ((reqFrom bs).1.2.1), .slice Aq1 (((reqFrom bs).1.2.2.1).length) cq1, Str ((reqFrom bs).1.2.2.2.1), I ((reqFrom bs).1.2.2.2.2)], .own Aw2 wt.length cw2 3 1 (wt.map I), .own Al2 lg.length cl2 51 2 (lg.flatMap gLogin), oI b5 ([] : List Int) 0 3, .blk b2 29 [I 4, .slice Aw2 wt.length cw2, .slice Al2 lg.length cl2, Str []]]) => ?_)
     refine qt rfl (asg (v := sb b5 (([] : List Int).length) 0) rfl) (nl (nN ?_))
     have hs13 : SH w w11 [] [.own Aw2 wt.length cw2 3 1 (wt.map I), .own Al2 lg.length cl2 51 2 (lg.flatMap gLogin), oI b5 ([] : List Int) 0 3, .blk b2 29 [I 4, .slice Aw2 wt.length cw2, .slice Al2 lg.length cl2, Str []]] := hs12.pick [3, 4, 5, 6] rfl (by decide)
     refine rt (tR ?_)
     refine fret (v := .tuple #[.agg #[I 4, .slice Aw2 wt.length cw2, .slice Al2 lg.length cl2, Str []], sb b5 (([] : List Int).length) 0]) (resC hs13 3 rfl rfl ag29 rfl (.tmp .nil)) rfl ?_
     have e5 : 4 = (sayReq bs).1 := by (rw [sayR_no3 (by assumption)]; done)
     have e6 : [] = (sayReq bs).2.1 := by (rw [sayR_no3 (by assumption)]; done)
     have e7 : ([] : List Int) = (sayReq bs).2.2 := by (rw [sayR_no3 (by assumption)]; done)
     have e8 : ([] : List Int).length = ((sayReq bs).2.2).length := by exact congrArg List.length e7
     exact ⟨Aw2, cw2, Al2, cl2, (some ⟨b5, 0, none⟩), 0, (tup2 (aggv (lc (congrArg (Value.int .i64) e5) (lc rfl (lc rfl (lc (congrArg (Str) e6) rfl))))) (slv rfl e8 rfl)), ((hs13.pick [0, 1, 2] rfl (by decide)).cast (lc rfl (lc rfl (lc (own_eq (g := I) rfl e8 rfl e7) rfl))))⟩
   · refine sk (nN (sq (sq (rg (qt rfl (fa 0 fo45_0 rfl) (qt rfl (ld (v := I ((reqFrom bs).1.1)) hs5 3 rfl rfl rfl one3) (qt rfl (nei (k := .i64) (a := (reqFrom bs).1.1) (b := 1) rfl rfl) ?_)))))))
     refine nl (nN ?_)
     refine cdd (p := ((reqFrom bs).1.1) ≠ 1) rfl (fun h5 => ?_) (fun h5 => ?_)
     · refine sq (rg (qt rfl (fa 1 fo45_1 rfl) (qt rfl (ldg (vs := [I ((reqFrom bs).1.2.1), .slice Aq1 (((reqFrom bs).1.2.2.1).length) cq1, Str ((reqFrom bs).1.2.2.2.1), I ((reqFrom bs).1.2.2.2.2)]) hs5 3 rfl rfl rfl rfl ag43) (cl trivial rfl (sReplyBytes (c := 7) (ak := (reqFrom bs).1.2.1) (Aaq := Aq1) (caq := cq1) (aq := (reqFrom bs).1.2.2.1) (an := (reqFrom bs).1.2.2.2.1) (apt := (reqFrom bs).1.2.2.2.2) (w := _) (haq := (hs5.sl0 2 rfl)) (han_n := (by (have hrn := reqFrom_nm bs; first | omega | (simp; done) | (simp; omega))))) ?_))))
       rintro _ w12 ⟨A1, c1, rfl, hs14'⟩
       have hs14 := hs5.call0 hs14'
       clear hs14'
       refine qt rfl (mv (v := .tuple #[.slice A1 (((replyP 7 ((reqFrom bs).1.2.1) ((reqFrom bs).1.2.2.1) ((reqFrom bs).1.2.2.2.1) ((reqFrom bs).1.2.2.2.2)).1).length) c1, .bool ((replyP 7 ((reqFrom bs).1.2.1) ((reqFrom bs).1.2.2.1) ((reqFrom bs).1.2.2.2.1) ((reqFrom bs).1.2.2.2.2)).2)]) rfl) (qt rfl (xt 0 (v := .slice A1 (((replyP 7 ((reqFrom bs).1.2.1) ((reqFrom bs).1.2.2.1) ((reqFrom bs).1.2.2.2.1) ((reqFrom bs).1.2.2.2.2)).1).length) c1) rfl rfl) (qt rfl (xt 1 (v := .bool ((replyP 7 ((reqFrom bs).1.2.1) ((reqFrom bs).1.2.2.1) ((reqFrom bs).1.2.2.2.1) ((reqFrom bs).1.2.2.2.2)).2)) rfl rfl) (qt rfl (asg (v := .slice A1 (((replyP 7 ((reqFrom bs).1.2.1) ((reqFrom bs).1.2.2.1) ((reqFrom bs).1.2.2.2.1) ((reqFrom bs).1.2.2.2.2)).1).length) c1) rfl) (qt rfl (asg (v := .bool ((replyP 7 ((reqFrom bs).1.2.1) ((reqFrom bs).1.2.2.1) ((reqFrom bs).1.2.2.2.1) ((reqFrom bs).1.2.2.2.2)).2)) rfl) (nl (nN ?_))))))
       have hs15 : SH w w12 [] [.blk b1 29 [I sx, .slice Awt wt.length cwt, .slice Alg lg.length clg, Str to], .blk b2 29 [I 0, ns, ns, Str []], .own A1 (((replyP 7 ((reqFrom bs).1.2.1) ((reqFrom bs).1.2.2.1) ((reqFrom bs).1.2.2.2.1) ((reqFrom bs).1.2.2.2.2)).1).length) c1 3 1 (((replyP 7 ((reqFrom bs).1.2.1) ((reqFrom bs).1.2.2.1) ((reqFrom bs).1.2.2.2.1) ((reqFrom bs).1.2.2.2.2)).1).map I)] := hs14.pick [0, 1, 4] rfl (by decide)
       refine sq (rg (qt rfl (ldg (vs := [I sx, .slice Awt wt.length cwt, .slice Alg lg.length clg, Str to]) hs15 0 rfl rfl rfl rfl ag29) (cl trivial rfl (sL23Next (sx := sx) (Awt := Awt) (cwt := cwt) (wt := wt) (Alg := Alg) (clg := clg) (lg := lg) (to := to) (nst := 4) (w := _) (hwt := (hwt.up0 hs15)) (hwt_n := (by (first | omega | (simp; done) | (simp; omega)))) (hlg := (hlg.up0 hs15)) (hlg_e := hlg_e) (hlg_n := (by (first | omega | (simp; done) | (simp; omega))))) ?_)))
       rintro _ w13 ⟨Aw3, cw3, Al3, cl3, rfl, hs16'⟩
       have hs16 := hs15.call0 hs16'
       clear hs16'
       refine qt rfl (mv (v := .slice A1 (((replyP 7 ((reqFrom bs).1.2.1) ((reqFrom bs).1.2.2.1) ((reqFrom bs).1.2.2.2.1) ((reqFrom bs).1.2.2.2.2)).1).length) c1) rfl) (stg (vs := [I 4, .slice Aw3 wt.length cw3, .slice Al3 lg.length cl3, Str []]) hs16 1 rfl rfl rfl rfl rfl rfl rfl ag29 trivial (fun w14 (hs17 : SH w w14 [] [.blk b1 29 [I sx, .slice Awt wt.length cwt, .slice Alg lg.length clg, Str to], .own A1 (((replyP 7 ((reqFrom bs).1.2.1) ((reqFrom bs).1.2.2.1) ((reqFrom bs).1.2.2.2.1) ((reqFrom bs).1.2.2.2.2)).1).length) c1 3 1 (((replyP 7 ((reqFrom bs).1.2.1) ((reqFrom bs).1.2.2.1) ((reqFrom bs).1.2.2.2.1) ((reqFrom bs).1.2.2.2.2)).1).map I), .own Aw3 wt.length cw3 3 1 (wt.map I), .own Al3 lg.length cl3 51 2 (lg.flatMap gLogin), .blk b2 29 [I 4, .slice Aw3 wt.length cw3, .slice Al3 lg.length cl3, Str []]]) => ?_))
       refine qt rfl (asg (v := .slice A1 (((replyP 7 ((reqFrom bs).1.2.1) ((reqFrom bs).1.2.2.1) ((reqFrom bs).1.2.2.2.1) ((reqFrom bs).1.2.2.2.2)).1).length) c1) rfl) (nl (nN (rt (tR ?_))))
       refine fret (v := .tuple #[.agg #[I 4, .slice Aw3 wt.length cw3, .slice Al3 lg.length cl3, Str []], .slice A1 (((replyP 7 ((reqFrom bs).1.2.1) ((reqFrom bs).1.2.2.1) ((reqFrom bs).1.2.2.2.1) ((reqFrom bs).1.2.2.2.2)).1).length) c1]) (resC hs17 4 rfl rfl ag29 rfl (.tmp .nil)) rfl ?_
       have e9 : 4 = (sayReq bs).1 := by (rw [sayR_n (by assumption) (Decidable.not_not.1 (by assumption)) (by assumption)]; done)
       have e10 : [] = (sayReq bs).2.1 := by (rw [sayR_n (by assumption) (Decidable.not_not.1 (by assumption)) (by assumption)]; done)
       have e11 : (replyP 7 ((reqFrom bs).1.2.1) ((reqFrom bs).1.2.2.1) ((reqFrom bs).1.2.2.2.1) ((reqFrom bs).1.2.2.2.2)).1 = (sayReq bs).2.2 := by (rw [sayR_n (by assumption) (Decidable.not_not.1 (by assumption)) (by assumption)]; done)
       have e12 : ((replyP 7 ((reqFrom bs).1.2.1) ((reqFrom bs).1.2.2.1) ((reqFrom bs).1.2.2.2.1) ((reqFrom bs).1.2.2.2.2)).1).length = ((sayReq bs).2.2).length := by exact congrArg List.length e11
       exact ⟨Aw3, cw3, Al3, cl3, A1, c1, (tup2 (aggv (lc (congrArg (Value.int .i64) e9) (lc rfl (lc rfl (lc (congrArg (Str) e10) rfl))))) (slv rfl e12 rfl)), ((hs17.pick [2, 3, 1] rfl (by decide)).cast (lc rfl (lc rfl (lc (own_eq (g := I) rfl e12 rfl e11) rfl))))⟩
     · refine sk (nN (sq (rg (qt rfl (fa 1 fo45_1 rfl) (qt rfl (ldg (vs := [I ((reqFrom bs).1.2.1), .slice Aq1 (((reqFrom bs).1.2.2.1).length) cq1, Str ((reqFrom bs).1.2.2.2.1), I ((reqFrom bs).1.2.2.2.2)]) hs5 3 rfl rfl rfl rfl ag43) (cl trivial rfl (sReplyBytes (c := 0) (ak := (reqFrom bs).1.2.1) (Aaq := Aq1) (caq := cq1) (aq := (reqFrom bs).1.2.2.1) (an := (reqFrom bs).1.2.2.2.1) (apt := (reqFrom bs).1.2.2.2.2) (w := _) (haq := (hs5.sl0 2 rfl)) (han_n := (by (have hrn := reqFrom_nm bs; first | omega | (simp; done) | (simp; omega))))) ?_))))))
       rintro _ w15 ⟨A2, c2, rfl, hs18'⟩
       have hs18 := hs5.call0 hs18'
       clear hs18'
       refine qt rfl (mv (v := .tuple #[.slice A2 (((replyP 0 ((reqFrom bs).1.2.1) ((reqFrom bs).1.2.2.1) ((reqFrom bs).1.2.2.2.1) ((reqFrom bs).1.2.2.2.2)).1).length) c2, .bool ((replyP 0 ((reqFrom bs).1.2.1) ((reqFrom bs).1.2.2.1) ((reqFrom bs).1.2.2.2.1) ((reqFrom bs).1.2.2.2.2)).2)]) rfl) (qt rfl (xt 0 (v := .slice A2 (((replyP 0 ((reqFrom bs).1.2.1) ((reqFrom bs).1.2.2.1) ((reqFrom bs).1.2.2.2.1) ((reqFrom bs).1.2.2.2.2)).1).length) c2) rfl rfl) (qt rfl (xt 1 (v := .bool ((replyP 0 ((reqFrom bs).1.2.1) ((reqFrom bs).1.2.2.1) ((reqFrom bs).1.2.2.2.1) ((reqFrom bs).1.2.2.2.2)).2)) rfl rfl) (qt rfl (asg (v := .slice A2 (((replyP 0 ((reqFrom bs).1.2.1) ((reqFrom bs).1.2.2.1) ((reqFrom bs).1.2.2.2.1) ((reqFrom bs).1.2.2.2.2)).1).length) c2) rfl) (qt rfl (asg (v := .bool ((replyP 0 ((reqFrom bs).1.2.1) ((reqFrom bs).1.2.2.1) ((reqFrom bs).1.2.2.2.1) ((reqFrom bs).1.2.2.2.2)).2)) rfl) (nl (nN (sq ?_)))))))
       refine rg (qt rfl (ldg (vs := [I sx, .slice Awt wt.length cwt, .slice Alg lg.length clg, Str to]) hs18 0 rfl rfl rfl rfl ag29) (cl trivial rfl (sL23Next (sx := sx) (Awt := Awt) (cwt := cwt) (wt := wt) (Alg := Alg) (clg := clg) (lg := lg) (to := to) (nst := 3) (w := _) (hwt := (hwt.up0 hs18)) (hwt_n := (by (first | omega | (simp; done) | (simp; omega)))) (hlg := (hlg.up0 hs18)) (hlg_e := hlg_e) (hlg_n := (by (first | omega | (simp; done) | (simp; omega))))) ?_))
       rintro _ w16 ⟨Aw4, cw4, Al4, cl4, rfl, hs19'⟩
       have hs19 := hs18.call0 hs19'
       clear hs19'
       refine al (v := .agg #[I 0, ns, ns, Str []]) (cs := [I 0, ns, ns, Str []]) hs19 tz29 rfl trivial rfl (fun b6 w17 (hs20 : SH w w17 [] [.blk b1 29 [I sx, .slice Awt wt.length cwt, .slice Alg lg.length clg, Str to], .blk b2 29 [I 0, ns, ns, Str []], .own Aq1 (((reqFrom bs).1.2.2.1).length) cq1 3 1 (((reqFrom bs).1.2.2.1).map I), .blk b3 45 [I ((reqFrom bs).1.1), I ((reqFrom bs).1.2.1), .slice Aq1 (((reqFrom bs).1.2.2.1).length) cq1, Str ((reqFrom bs).1.2.2.2.1), I ((reqFrom bs).1.2.2.2.2)], .own A2 (((replyP 0 ((reqFrom bs).1.2.1) ((reqFrom bs).1.2.2.1) ((reqFrom bs).1.2.2.2.1) ((reqFrom bs).1.2.2.2.2)).1).length) c2 3 1 (((replyP 0 ((reqFrom bs).1.2.1) ((reqFrom bs).1.2.2.1) ((reqFrom bs).1.2.2.2.1) ((reqFrom bs).1.2.2.2.2)).1).map I), .own Aw4 wt.length cw4 3 1 (wt.map I), .own Al4 lg.length cl4 51 2 (lg.flatMap gLogin), .blk b6 29 [I 0, ns, ns, Str []]]) => ?_)
       refine stg (vs := [I 3, .slice Aw4 wt.length cw4, .slice Al4 lg.length cl4, Str []]) hs20 7 rfl rfl rfl rfl rfl rfl rfl ag29 trivial (fun w18 (hs21 : SH w w18 [] [.blk b1 29 [I sx, .slice Awt wt.length cwt, .slice Alg lg.length clg, Str to], .blk b2 29 [I 0, ns, ns, Str []], .own Aq1 (((reqFrom bs).1.2.2.1).length) cq1 3 1 (((reqFrom bs).1.2.2.1).map I), .blk b3 45 [I ((reqFrom bs).1.1), I ((reqFrom bs).1.2.1), .slice Aq1 (((reqFrom bs).1.2.2.1).length) cq1, Str ((reqFrom bs).1.2.2.2.1), I ((reqFrom bs).1.2.2.2.2)], .own A2 (((replyP 0 ((reqFrom bs).1.2.1) ((reqFrom bs).1.2.2.1) ((reqFrom bs).1.2.2.2.1) ((reqFrom bs).1.2.2.2.2)).1).length) c2 3 1 (((replyP 0 ((reqFrom bs).1.2.1) ((reqFrom bs).1.2.2.1) ((reqFrom bs).1.2.2.2.1) ((reqFrom bs).1.2.2.2.2)).1).map I), .own Aw4 wt.length cw4 3 1 (wt.map I), .own Al4 lg.length cl4 51 2 (lg.flatMap gLogin), .blk b6 29 [I 3, .slice Aw4 wt.length cw4, .slice Al4 lg.length cl4, Str []]]) => ?_)
       refine nl (nN (sq (rg (qt rfl (fa 1 fo45_1 rfl) (qt rfl (ldg (vs := [I ((reqFrom bs).1.2.1), .slice Aq1 (((reqFrom bs).1.2.2.1).length) cq1, Str ((reqFrom bs).1.2.2.2.1), I ((reqFrom bs).1.2.2.2.2)]) hs21 3 rfl rfl rfl rfl ag43) (cl trivial rfl (sAddressText (ak := (reqFrom bs).1.2.1) (Aaq := Aq1) (caq := cq1) (aq := (reqFrom bs).1.2.2.1) (an := (reqFrom bs).1.2.2.2.1) (apt := (reqFrom bs).1.2.2.2.2) (w := _) (haq := (hs21.sl0 2 rfl)) (han_n := (by (have hrn := reqFrom_nm bs; first | omega | (simp; done) | (simp; omega))))) ?_))))))
       rintro _ w19 ⟨rfl, hs22'⟩
       have hs22 := hs21.call0 hs22'
       clear hs22'
       refine qt rfl (fa 3 fo29_3 rfl) (st (v := Str (addrT ((reqFrom bs).1.2.1) ((reqFrom bs).1.2.2.1) ((reqFrom bs).1.2.2.2.1) ((reqFrom bs).1.2.2.2.2))) hs22 7 rfl rfl rfl rfl rfl one9 trivial (fun w20 (hs23 : SH w w20 [] [.blk b1 29 [I sx, .slice Awt wt.length cwt, .slice Alg lg.length clg, Str to], .blk b2 29 [I 0, ns, ns, Str []], .own Aq1 (((reqFrom bs).1.2.2.1).length) cq1 3 1 (((reqFrom bs).1.2.2.1).map I), .blk b3 45 [I ((reqFrom bs).1.1), I ((reqFrom bs).1.2.1), .slice Aq1 (((reqFrom bs).1.2.2.1).length) cq1, Str ((reqFrom bs).1.2.2.2.1), I ((reqFrom bs).1.2.2.2.2)], .own A2 (((replyP 0 ((reqFrom bs).1.2.1) ((reqFrom bs).1.2.2.1) ((reqFrom bs).1.2.2.2.1) ((reqFrom bs).1.2.2.2.2)).1).length) c2 3 1 (((replyP 0 ((reqFrom bs).1.2.1) ((reqFrom bs).1.2.2.1) ((reqFrom bs).1.2.2.2.1) ((reqFrom bs).1.2.2.2.2)).1).map I), .own Aw4 wt.length cw4 3 1 (wt.map I), .own Al4 lg.length cl4 51 2 (lg.flatMap gLogin), .blk b6 29 [I 3, .slice Aw4 wt.length cw4, .slice Al4 lg.length cl4, Str (addrT ((reqFrom bs).1.2.1) ((reqFrom bs).1.2.2.1) ((reqFrom bs).1.2.2.2.1) ((reqFrom bs).1.2.2.2.2))]]) => ?_))
       refine nl (nN ?_)
       have hs24 : SH w w20 [] [.blk b2 29 [I 0, ns, ns, Str []], .own A2 (((replyP 0 ((reqFrom bs).1.2.1) ((reqFrom bs).1.2.2.1) ((reqFrom bs).1.2.2.2.1) ((reqFrom bs).1.2.2.2.2)).1).length) c2 3 1 (((replyP 0 ((reqFrom bs).1.2.1) ((reqFrom bs).1.2.2.1) ((reqFrom bs).1.2.2.2.1) ((reqFrom bs).1.2.2.2.2)).1).map I), .own Aw4 wt.length cw4 3 1 (wt.map I), .own Al4 lg.length cl4 51 2 (lg.flatMap gLogin), .blk b6 29 [I 3, .slice Aw4 wt.length cw4, .slice Al4 lg.length cl4, Str (addrT ((reqFrom bs).1.2.1) ((reqFrom bs).1.2.2.1) ((reqFrom bs).1.2.2.2.1) ((reqFrom bs).1.2.2.2.2))]] := hs23.pick [1, 4, 5, 6, 7] rfl (by decide)
       refine sq (rg (qt rfl (ldg (vs := [I 3, .slice Aw4 wt.length cw4, .slice Al4 lg.length cl4, Str (addrT ((reqFrom bs).1.2.1) ((reqFrom bs).1.2.2.1) ((reqFrom bs).1.2.2.2.1) ((reqFrom bs).1.2.2.2.2))]) hs24 4 rfl rfl rfl rfl ag29) (qt rfl (mv (v := .slice A2 (((replyP 0 ((reqFrom bs).1.2.1) ((reqFrom bs).1.2.2.1) ((reqFrom bs).1.2.2.2.1) ((reqFrom bs).1.2.2.2.2)).1).length) c2) rfl) (stg (vs := [I 3, .slice Aw4 wt.length cw4, .slice Al4 lg.length cl4, Str (addrT ((reqFrom bs).1.2.1) ((reqFrom bs).1.2.2.1) ((reqFrom bs).1.2.2.2.1) ((reqFrom bs).1.2.2.2.2))]) hs24 0 rfl rfl rfl rfl rfl rfl rfl ag29 trivial (fun w21 (hs25 : SH w w21 [] [.own A2 (((replyP 0 ((reqFrom bs).1.2.1) ((reqFrom bs).1.2.2.1) ((reqFrom bs).1.2.2.2.1) ((reqFrom bs).1.2.2.2.2)).1).length) c2 3 1 (((replyP 0 ((reqFrom bs).1.2.1) ((reqFrom bs).1.2.2.1) ((reqFrom bs).1.2.2.2.1) ((reqFrom bs).1.2.2.2.2)).1).map I), .own Aw4 wt.length cw4 3 1 (wt.map I), .own Al4 lg.length cl4 51 2 (lg.flatMap gLogin), .blk b6 29 [I 3, .slice Aw4 wt.length cw4, .slice Al4 lg.length cl4, Str (addrT ((reqFrom bs).1.2.1) ((reqFrom bs).1.2.2.1) ((reqFrom bs).1.2.2.2.1) ((reqFrom bs).1.2.2.2.2))], .blk b2 29 [I 3, .slice Aw4 wt.length cw4, .slice Al4 lg.length cl4, Str (addrT ((reqFrom bs).1.2.1) ((reqFrom bs).1.2.2.1) ((reqFrom bs).1.2.2.2.1) ((reqFrom bs).1.2.2.2.2))]]) => ?_)))))
       refine qt rfl (asg (v := .slice A2 (((replyP 0 ((reqFrom bs).1.2.1) ((reqFrom bs).1.2.2.1) ((reqFrom bs).1.2.2.2.1) ((reqFrom bs).1.2.2.2.2)).1).length) c2) rfl) (nl (nN (rt (fret (v := .tuple #[.agg #[I 3, .slice Aw4 wt.length cw4, .slice Al4 lg.length cl4, Str (addrT ((reqFrom bs).1.2.1) ((reqFrom bs).1.2.2.1) ((reqFrom bs).1.2.2.2.1) ((reqFrom bs).1.2.2.2.2))], .slice A2 (((replyP 0 ((reqFrom bs).1.2.1) ((reqFrom bs).1.2.2.1) ((reqFrom bs).1.2.2.2.1) ((reqFrom bs).1.2.2.2.2)).1).length) c2]) (resC hs25 4 rfl rfl ag29 rfl (.tmp .nil)) rfl ?_))))
       have e13 : 3 = (sayReq bs).1 := by (rw [sayR_c (by assumption) (Decidable.not_not.1 (by assumption)) (Decidable.not_not.1 (by assumption))]; done)
       have e14 : addrT ((reqFrom bs).1.2.1) ((reqFrom bs).1.2.2.1) ((reqFrom bs).1.2.2.2.1) ((reqFrom bs).1.2.2.2.2) = (sayReq bs).2.1 := by (rw [sayR_c (by assumption) (Decidable.not_not.1 (by assumption)) (Decidable.not_not.1 (by assumption))]; done)
       have e15 : (replyP 0 ((reqFrom bs).1.2.1) ((reqFrom bs).1.2.2.1) ((reqFrom bs).1.2.2.2.1) ((reqFrom bs).1.2.2.2.2)).1 = (sayReq bs).2.2 := by (rw [sayR_c (by assumption) (Decidable.not_not.1 (by assumption)) (Decidable.not_not.1 (by assumption))]; done)
       have e16 : ((replyP 0 ((reqFrom bs).1.2.1) ((reqFrom bs).1.2.2.1) ((reqFrom bs).1.2.2.2.1) ((reqFrom bs).1.2.2.2.2)).1).length = ((sayReq bs).2.2).length := by exact congrArg List.length e15
       exact ⟨Aw4, cw4, Al4, cl4, A2, c2, (tup2 (aggv (lc (congrArg (Value.int .i64) e13) (lc rfl (lc rfl (lc (congrArg (Str) e14) rfl))))) (slv rfl e16 rfl)), ((hs25.pick [1, 2, 0] rfl (by decide)).cast (lc rfl (lc rfl (lc (own_eq (g := I) rfl e16 rfl e15) rfl))))⟩

end Go.Proofs.YtjehmnojfpedjaaGreatDoor
