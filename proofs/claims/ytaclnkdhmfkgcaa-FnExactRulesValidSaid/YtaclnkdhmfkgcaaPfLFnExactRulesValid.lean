/-
  Part of the proofs over this seat: what each function of the program computes, function by function (the text is written by a program of this hand-in's own).
  Conditions: each theorem states its own.
-/
import Derived.Test.YtaclnkdhmfkgcaaPfWalks
namespace Go.Proofs.Ytaclnkdhmfkgcaa
open Go.PF
set_option maxRecDepth 100000
set_option linter.unusedSimpArgs false
set_option linter.unusedVariables false

theorem lExactRulesValid {Azs : Option Addr} {czs : Nat} (zs : List (List UInt8 × Int × Bool)) (w : World) (hzs : Sl w [] 3 Azs zs.length czs (zs.flatMap gRule)) (hzs_e : ∀ u ∈ zs, u.1.length ≤ 9223372036854775807) : Does Try.prog 4 [.slice Azs zs.length czs] w (fun v w' => v = .bool true ∧ SH w w' [] []) := by
  refine fn_enter (N := 27) Try.func4 rfl (by kernel_rfl) rfl rfl rfl ?_
  have hs0 : SH w w [] [] := SH.refl w []
  have hzs_m : zs.length ≤ 9223372036854775807 := Nat.le_trans hzs.cap hzs.capMax
  refine sq ?_
  refine rg ?_
  refine q trivial rfl rfl (asg (v := .bool false) rfl) ?_
  refine nl ?_
  refine nN ?_
  refine sq ?_
  refine rg ?_
  refine q trivial rfl rfl (asg (v := .int .i64 1048576) rfl) ?_
  refine nl ?_
  refine nN ?_
  refine sq ?_
  refine rg ?_
  refine q trivial rfl rfl (mv (v := .slice Azs zs.length czs) rfl) ?_
  refine q trivial rfl rfl (mv (v := .int .i64 1048576) rfl) ?_
  refine cl trivial rfl (szRuleS (Axs := Azs) (cxs := czs) (xs := zs) (z := 1048576) (w := _) (hxs := (hzs.up0 hs0)) (hxs_e := hzs_e) (hz := (by first | omega | assumption | (simp; done) | (simp; omega)))) ?_
  rintro _ w1 ⟨r1, rfl, p1, hs1'⟩
  have hs1 : SH w w1 [] [] := hs0.call0 hs1'
  clear hs1'
  refine q trivial rfl rfl (asg (v := .int .i64 r1) rfl) ?_
  refine nl ?_
  refine nN ?_
  refine sq ?_
  refine sq ?_
  refine rg ?_
  refine q trivial rfl rfl (mv (v := .int .i64 r1) rfl) ?_
  refine q trivial rfl rfl (lss (k := .i64) (a := r1) (b := 0) rfl rfl) ?_
  refine nl ?_
  refine nN ?_
  refine cdd (p := r1 < 0) rfl (fun h1 => ?_) (fun h1 => ?_)
  · refine sq ?_
    refine rg ?_
    refine q trivial rfl rfl (asg (v := .bool true) rfl) ?_
    refine nl ?_
    refine nN ?_
    refine rt (tR ?_)
    refine fret (v := .bool true) (.tmp .nil) rfl ?_
    exact ⟨rfl, hs1⟩
  · refine sk ?_
    refine nN ?_
    refine sq ?_
    refine rg ?_
    refine q trivial rfl rfl (mv (v := .slice Azs zs.length czs) rfl) ?_
    refine cl trivial rfl (toRuleS (Axs := Azs) (cxs := czs) (xs := zs) (w := _) (hxs := (hzs.up0 hs1)) (hxs_e := hzs_e) (hxs_n := (by first | omega | (simp; omega)))) ?_
    rintro _ w2 ⟨A1, c1, rfl, hs2'⟩
    have hs2 : SH w w2 [] [.own A1 zs.length c1 27 3 (zs.flatMap gRule)] := hs1.call0 hs2'
    clear hs2'
    refine cl trivial rfl (sRulesValid (Azs := A1) (czs := c1) (zs := zs) (w := _) (hzs := (hs2.sl0 0 rfl)) (hzs_e := (by first | assumption | exact fun u hu => Nat.le_trans (by first | exact p1 u hu | exact p2 u hu | exact p3 u hu) (by decide) | (intro u hu; simp at hu; simp [hu])))) ?_
    rintro _ w3 ⟨rfl, hs3'⟩
    have hs3 : SH w w3 [] [.own A1 zs.length c1 27 3 (zs.flatMap gRule)] := hs2.call0 hs3'
    clear hs3'
    refine q trivial rfl rfl (asg (v := .bool (rulesOk zs)) rfl) ?_
    refine nl ?_
    refine nN ?_
    refine sq ?_
    refine rg ?_
    refine q trivial rfl rfl (mv (v := .slice Azs zs.length czs) rfl) ?_
    refine cl trivial rfl (toRuleS (Axs := Azs) (cxs := czs) (xs := zs) (w := _) (hxs := (hzs.up0 hs3)) (hxs_e := hzs_e) (hxs_n := (by first | omega | (simp; omega)))) ?_
    rintro _ w4 ⟨A2, c2, rfl, hs4'⟩
    have hs4 : SH w w4 [] [.own A1 zs.length c1 27 3 (zs.flatMap gRule), .own A2 zs.length c2 27 3 (zs.flatMap gRule)] := hs3.call0 hs4'
    clear hs4'
    refine q trivial rfl rfl (asg (v := .slice A2 zs.length c2) rfl) ?_
    refine nl ?_
    refine nN ?_
    refine sq ?_
    refine rg ?_
    refine q trivial rfl rfl (mv (v := .slice A2 zs.length c2) rfl) ?_
    refine cl trivial rfl (iRulesValid (Azs := A2) (czs := c2) (zs := zs) (w := _) (hzs := (hs4.sl0 1 rfl)) (hzs_e := (by first | assumption | exact fun u hu => Nat.le_trans (by first | exact p1 u hu | exact p2 u hu | exact p3 u hu) (by decide) | (intro u hu; simp at hu; simp [hu])))) ?_
    rintro _ w5 ⟨rfl, hs5'⟩
    have hs5 : SH w w5 [] [.own A1 zs.length c1 27 3 (zs.flatMap gRule), .own A2 zs.length c2 27 3 (zs.flatMap gRule)] := hs4.call0 hs5'
    clear hs5'
    refine q trivial rfl rfl (asg (v := .bool (rulesOk zs)) rfl) ?_
    refine nl ?_
    refine nN ?_
    refine sq ?_
    refine sq ?_
    refine rg ?_
    refine q trivial rfl rfl (mv (v := .bool (rulesOk zs)) rfl) ?_
    refine q trivial rfl rfl (mv (v := .bool (rulesOk zs)) rfl) ?_
    refine q trivial rfl rfl (neb (a := (rulesOk zs)) (b := (rulesOk zs)) tb4 rfl rfl) ?_
    refine nl ?_
    refine nN ?_
    refine cdd (p := (rulesOk zs) ≠ (rulesOk zs)) rfl (fun h2 => absurd h2 (by exact fun h => h rfl)) (fun h2 => ?_)
    refine sk ?_
    refine nN ?_
    refine sq ?_
    refine sq ?_
    refine rg ?_
    refine q trivial rfl rfl (mv (v := .slice A2 zs.length c2) rfl) ?_
    refine q trivial rfl rfl (mv (v := .slice Azs zs.length czs) rfl) ?_
    refine cl trivial rfl (toRuleS (Axs := Azs) (cxs := czs) (xs := zs) (w := _) (hxs := (hzs.up0 hs5)) (hxs_e := hzs_e) (hxs_n := (by first | omega | (simp; omega)))) ?_
    rintro _ w6 ⟨A3, c3, rfl, hs6'⟩
    have hs6 : SH w w6 [] [.own A1 zs.length c1 27 3 (zs.flatMap gRule), .own A2 zs.length c2 27 3 (zs.flatMap gRule), .own A3 zs.length c3 27 3 (zs.flatMap gRule)] := hs5.call0 hs6'
    clear hs6'
    refine cl trivial rfl (eqRuleS (Axs := A2) (cxs := c2) (xs := zs) (Ays := A3) (cys := c3) (ys := zs) (w := _) (hxs := (hs6.sl0 1 rfl)) (hxs_e := (by first | assumption | exact fun u hu => Nat.le_trans (by first | exact p1 u hu | exact p2 u hu | exact p3 u hu) (by decide) | (intro u hu; simp at hu; simp [hu]))) (hys := (hs6.sl0 2 rfl)) (hys_e := (by first | assumption | exact fun u hu => Nat.le_trans (by first | exact p1 u hu | exact p2 u hu | exact p3 u hu) (by decide) | (intro u hu; simp at hu; simp [hu])))) ?_
    rintro _ w7 ⟨rfl, hs7'⟩
    have hs7 : SH w w7 [] [.own A1 zs.length c1 27 3 (zs.flatMap gRule), .own A2 zs.length c2 27 3 (zs.flatMap gRule), .own A3 zs.length c3 27 3 (zs.flatMap gRule)] := hs6.call0 hs7'
    clear hs7'
    refine q trivial rfl rfl (nd (p := zs = zs) rfl) ?_
    refine nl ?_
    refine nN ?_
    refine cdd (p := ¬ (zs = zs)) rfl (fun h3 => absurd h3 (by exact fun h => h rfl)) (fun h3 => ?_)
    refine sk ?_
    refine nN ?_
    refine sq ?_
    refine rg ?_
    refine q trivial rfl rfl (asg (v := .bool true) rfl) ?_
    refine nl ?_
    refine nN ?_
    refine rt ?_
    refine fret (v := .bool true) (.tmp .nil) rfl ?_
    exact ⟨rfl, (hs7.pick [] rfl (by decide))⟩

end Go.Proofs.Ytaclnkdhmfkgcaa
