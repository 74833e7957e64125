/-
  Part of the proofs over this seat: what each function of the program computes, function by function (the text is written by a program of this hand-in's own).
  Conditions: each theorem states its own.
-/
import Derived.Test.YthpdfolobbacpaaDoorPfWalks
namespace Go.Proofs.YthpdfolobbacpaaDoor
open Go.PF
set_option maxRecDepth 100000
set_option linter.unusedSimpArgs false
set_option linter.unusedVariables false

theorem lKindNone {Acs : Option Addr} {ccs : Nat} (cs : List UInt8) (w : World) (hcs : Sl w [] 1 Acs cs.length ccs (cs.map U)) (hGk : PA w [] ⟨0, 0, none⟩ (kindTs.map Str)) : Does Tryd.prog 4 [.slice Acs cs.length ccs] w (fun v w' => v = .bool true ∧ SH w w' [] []) := by
  refine fn_enter (N := 30) Tryd.func4 rfl (by kernel_rfl) rfl rfl rfl ?_
  have hs0 : SH w w [] [] := SH.refl w []
  have hcs_m : cs.length ≤ 9223372036854775807 := Nat.le_trans hcs.cap hcs.capMax
  refine sq ?_
  refine rg ?_
  refine q trivial rfl rfl (asg (v := .bool false) rfl) ?_
  refine nl ?_
  refine nN ?_
  refine sq ?_
  refine sq ?_
  refine rg ?_
  refine q trivial rfl rfl (mv (v := .slice Acs cs.length ccs) rfl) ?_
  refine q trivial rfl rfl (lnA (n := cs.length) sl24 rfl) ?_
  refine q trivial rfl rfl (gtr (k := .i64) (a := ((cs.length : Nat) : Int)) (b := 1048576) rfl rfl) ?_
  refine nl ?_
  refine nN ?_
  refine cdd (p := (1048576 : Int) < ((cs.length : Nat) : Int)) rfl (fun h1 => ?_) (fun h1 => ?_)
  · refine sq ?_
    refine rg ?_
    refine q trivial rfl rfl (asg (v := .bool true) rfl) ?_
    refine nl ?_
    refine nN ?_
    refine rt (tR ?_)
    refine fret (v := .bool true) (.tmp .nil) rfl ?_
    exact ⟨rfl, hs0⟩
  · refine sk ?_
    refine nN ?_
    refine sq ?_
    refine rg ?_
    refine q trivial rfl rfl (mv (v := .slice Acs cs.length ccs) rfl) ?_
    refine cl trivial rfl (drawKindText (Acs := Acs) (ccs := ccs) (cs := cs) (w := _) (hcs := (hcs.up0 hs0))) ?_
    rintro _ w1 ⟨r1, rfl, p1, hs1'⟩
    have hs1 : SH w w1 [] [] := hs0.call0 hs1'
    clear hs1'
    refine q trivial rfl rfl (asg (v := .int .i64 r1) rfl) ?_
    refine nl ?_
    refine nN ?_
    refine sq ?_
    refine rg ?_
    refine q trivial rfl rfl (mv (v := .int .i64 r1) rfl) ?_
    refine cl trivial rfl (iKindText (z := r1) (w := _) (hGk := (hGk.up0 hs1))) ?_
    rintro _ w2 ⟨rfl, hs2'⟩
    have hs2 : SH w w2 [] [] := hs1.call0 hs2'
    clear hs2'
    refine q trivial rfl rfl (asg (v := Str (kindText r1)) rfl) ?_
    refine nl ?_
    refine nN ?_
    refine sq ?_
    refine rg ?_
    refine q trivial rfl rfl (mv (v := .int .i64 r1) rfl) ?_
    refine cl trivial rfl (sKindText (z := r1) (w := _)) ?_
    rintro _ w3 ⟨rfl, hs3'⟩
    have hs3 : SH w w3 [] [] := hs2.call0 hs3'
    clear hs3'
    refine q trivial rfl rfl (asg (v := Str (kindText r1)) rfl) ?_
    refine nl ?_
    refine nN ?_
    refine sq ?_
    refine sq ?_
    refine rg ?_
    refine q trivial rfl rfl (mv (v := Str (kindText r1)) rfl) ?_
    refine q trivial rfl rfl (mv (v := Str (kindText r1)) rfl) ?_
    refine q trivial rfl rfl (nes (l := kindText r1) (m := kindText r1) rfl rfl) ?_
    refine nl ?_
    refine nN ?_
    refine cdd (p := kindText r1 ≠ kindText r1) rfl (fun h2 => absurd h2 (by exact fun h => h rfl)) (fun h2 => ?_)
    refine sk ?_
    refine nN ?_
    refine sq ?_
    refine rg ?_
    refine q trivial rfl rfl (mv (v := Str (kindText r1)) rfl) ?_
    refine q trivial rfl rfl (eqs (l := kindText r1) (m := []) rfl rfl) ?_
    refine q trivial rfl rfl (mv (v := .int .i64 r1) rfl) ?_
    refine q trivial rfl rfl (lss (k := .i64) (a := r1) (b := 0) rfl rfl) ?_
    refine q trivial rfl rfl (mv (v := .bool (decide (r1 < 0))) rfl) ?_
    refine spd (p := r1 < 0) 25 rfl (fun h3 => ?_) (fun h3 => ?_)
    · refine gk true rfl rfl rfl rfl rfl ?_
      refine gk true rfl rfl rfl rfl rfl ?_
      refine q trivial rfl rfl (pt (v := .bool true) rfl rfl) ?_
      refine q trivial rfl rfl (eqb (a := (decide (kindText r1 = []))) (b := true) tb4 rfl rfl) ?_
      refine q trivial rfl rfl (asg (v := .bool (decide ((decide (kindText r1 = [])) = true))) rfl) ?_
      refine nl ?_
      refine nN ?_
      refine rt ?_
      refine fret (v := .bool (decide ((decide (kindText r1 = [])) = true))) (.tmp .nil) rfl ?_
      have e1 : (decide ((decide (kindText r1 = [])) = true)) = true := by first | rfl | (simp; done) | (have := kindText_none r1; simp [this]; try omega)
      exact ⟨(congrArg (Value.bool) e1), hs3⟩
    · refine q ⟨_, rfl, rfl⟩ rfl rfl (mv (v := .int .i64 r1) rfl) ?_
      refine q ⟨_, rfl, rfl⟩ rfl rfl (gtr (k := .i64) (a := r1) (b := 6) rfl rfl) ?_
      refine q trivial rfl rfl (pf (v := .bool (decide ((6 : Int) < r1))) rfl rfl) ?_
      refine q trivial rfl rfl (eqb (a := (decide (kindText r1 = []))) (b := (decide ((6 : Int) < r1))) tb4 rfl rfl) ?_
      refine q trivial rfl rfl (asg (v := .bool (decide ((decide (kindText r1 = [])) = (decide ((6 : Int) < r1))))) rfl) ?_
      refine nl ?_
      refine nN ?_
      refine rt ?_
      refine fret (v := .bool (decide ((decide (kindText r1 = [])) = (decide ((6 : Int) < r1))))) (.tmp .nil) rfl ?_
      have e2 : (decide ((decide (kindText r1 = [])) = (decide ((6 : Int) < r1)))) = true := by first | rfl | (simp; done) | (have := kindText_none r1; simp [this]; try omega)
      exact ⟨(congrArg (Value.bool) e2), hs3⟩

end Go.Proofs.YthpdfolobbacpaaDoor
