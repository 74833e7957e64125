/-
  Part of the proofs over this seat: what each function of the program computes, function by function (the text is written by a program of this hand-in's own).
  Conditions: each theorem states its own.
-/
import Derived.Test.YthpdfolobbacpaaDoorPfWalks
namespace Go.Proofs.YthpdfolobbacpaaDoor
open Go.PF
set_option maxRecDepth 100000
set_option linter.unusedSimpArgs false
set_option linter.unusedVariables false

theorem lKindText {Acs : Option Addr} {ccs : Nat} (cs : List UInt8) (w : World) (hcs : Sl w [] 1 Acs cs.length ccs (cs.map U)) (hGk : PA w [] ⟨0, 0, none⟩ (kindTs.map Str)) : Does Tryd.prog 5 [.slice Acs cs.length ccs] w (fun v w' => v = .bool true ∧ SH w w' [] []) := by
  refine fn_enter (N := 45) Tryd.func5 rfl (by kernel_rfl) rfl rfl rfl ?_
  have hs0 : SH w w [] [] := SH.refl w []
  have hcs_m : cs.length ≤ 9223372036854775807 := Nat.le_trans hcs.cap hcs.capMax
  refine sq ?_
  refine rg ?_
  refine q trivial rfl rfl (asg (v := .bool false) rfl) ?_
  refine nl ?_
  refine nN ?_
  refine sq ?_
  refine sq ?_
  refine rg ?_
  refine q trivial rfl rfl (mv (v := .slice Acs cs.length ccs) rfl) ?_
  refine q trivial rfl rfl (lnA (n := cs.length) sl24 rfl) ?_
  refine q trivial rfl rfl (gtr (k := .i64) (a := ((cs.length : Nat) : Int)) (b := 1048576) rfl rfl) ?_
  refine nl ?_
  refine nN ?_
  refine cdd (p := (1048576 : Int) < ((cs.length : Nat) : Int)) rfl (fun h1 => ?_) (fun h1 => ?_)
  · refine sq ?_
    refine rg ?_
    refine q trivial rfl rfl (asg (v := .bool true) rfl) ?_
    refine nl ?_
    refine nN ?_
    refine rt (tR ?_)
    refine fret (v := .bool true) (.tmp .nil) rfl ?_
    exact ⟨rfl, hs0⟩
  · refine sk ?_
    refine nN ?_
    refine sq ?_
    refine rg ?_
    refine q trivial rfl rfl (mv (v := .slice Acs cs.length ccs) rfl) ?_
    refine cl trivial rfl (drawKindText (Acs := Acs) (ccs := ccs) (cs := cs) (w := _) (hcs := (hcs.up0 hs0))) ?_
    rintro _ w1 ⟨r1, rfl, p1, hs1'⟩
    have hs1 : SH w w1 [] [] := hs0.call0 hs1'
    clear hs1'
    refine q trivial rfl rfl (asg (v := .int .i64 r1) rfl) ?_
    refine nl ?_
    refine nN ?_
    refine sq ?_
    refine rg ?_
    refine q trivial rfl rfl (mv (v := .int .i64 r1) rfl) ?_
    refine cl trivial rfl (iKindText (z := r1) (w := _) (hGk := (hGk.up0 hs1))) ?_
    rintro _ w2 ⟨rfl, hs2'⟩
    have hs2 : SH w w2 [] [] := hs1.call0 hs2'
    clear hs2'
    refine q trivial rfl rfl (asg (v := Str (kindText r1)) rfl) ?_
    refine nl ?_
    refine nN ?_
    refine sq ?_
    refine rg ?_
    refine q trivial rfl rfl (mv (v := .int .i64 r1) rfl) ?_
    refine cl trivial rfl (sKindText (z := r1) (w := _)) ?_
    rintro _ w3 ⟨rfl, hs3'⟩
    have hs3 : SH w w3 [] [] := hs2.call0 hs3'
    clear hs3'
    refine q trivial rfl rfl (asg (v := Str (kindText r1)) rfl) ?_
    refine nl ?_
    refine nN ?_
    refine sq ?_
    refine sq ?_
    refine rg ?_
    refine q trivial rfl rfl (mv (v := Str (kindText r1)) rfl) ?_
    refine q trivial rfl rfl (mv (v := Str (kindText r1)) rfl) ?_
    refine q trivial rfl rfl (nes (l := kindText r1) (m := kindText r1) rfl rfl) ?_
    refine q trivial rfl rfl (mv (v := .bool (decide (kindText r1 ≠ kindText r1))) rfl) ?_
    refine spd (p := kindText r1 ≠ kindText r1) 19 rfl (fun h2 => absurd h2 (by exact fun h => h rfl)) (fun h2 => ?_)
    refine q ⟨_, rfl, rfl⟩ rfl rfl (mv (v := Str (kindText r1)) rfl) ?_
    refine q ⟨_, rfl, rfl⟩ rfl rfl (eqs (l := kindText r1) (m := []) rfl rfl) ?_
    refine q trivial rfl rfl (pf (v := .bool (decide (kindText r1 = []))) rfl rfl) ?_
    refine nl ?_
    refine nN ?_
    refine cdd (p := kindText r1 = []) rfl (fun h3 => ?_) (fun h3 => ?_)
    · refine sq ?_
      refine rg ?_
      refine q trivial rfl rfl (mv (v := Str (kindText r1)) rfl) ?_
      refine q trivial rfl rfl (mv (v := Str (kindText r1)) rfl) ?_
      refine q trivial rfl rfl (eqs (l := kindText r1) (m := kindText r1) rfl rfl) ?_
      refine q trivial rfl rfl (asg (v := .bool (decide (kindText r1 = kindText r1))) rfl) ?_
      refine nl ?_
      refine nN ?_
      refine rt (tR ?_)
      refine fret (v := .bool (decide (kindText r1 = kindText r1))) (.tmp .nil) rfl ?_
      have e1 : (decide (kindText r1 = kindText r1)) = true := by first | rfl | (simp; done) | (have hz : 0 ≤ r1 ∧ r1 ≤ 6 := (by rcases Decidable.em (0 ≤ r1 ∧ r1 ≤ 6) with h | h; exact h; exact absurd (kindText_no h) (by assumption)); first | (simp; omega) | (exfalso; omega) | exact absurd (kindText_inj (a := (k : Int)) (by omega) hz (by assumption)) (by assumption))
      exact ⟨(congrArg (Value.bool) e1), hs3⟩
    · refine sk ?_
      refine nN ?_
      refine sq ?_
      refine sq ?_
      refine rg ?_
      refine q trivial rfl rfl (asg (v := .int .i64 0) rfl) ?_
      refine nl ?_
      refine nN ?_
      refine bl ?_
      refine lp (σ := Nat) (fun (k : Nat) f w' => Has f [(3, .int .i64 r1), (4, Str (kindText r1)), (6, .int .i64 ((k : Nat) : Int))] ∧ (k ≤ 7) ∧ SH w w' [] []) (fun k => 7 - k) 0 ⟨⟨rfl, rfl, rfl, trivial⟩, (by simp), hs3⟩ ?_
      rintro k f w4 ⟨hf, hk, hs4⟩
      obtain ⟨g1, rfl⟩ := has_upd hf
      clear hf
      refine sq ?_
      refine sq ?_
      refine rg ?_
      refine q trivial rfl rfl (mv (v := .int .i64 ((k : Nat) : Int)) rfl) ?_
      refine q trivial rfl rfl (leq (k := .i64) (a := ((k : Nat) : Int)) (b := 6) rfl rfl) ?_
      refine nl ?_
      refine nN ?_
      refine cdd (p := ((k : Nat) : Int) ≤ 6) rfl (fun h4 => ?_) (fun h4 => ?_)
      · refine sk ?_
        refine nN ?_
        refine sq ?_
        refine bl ?_
        refine sq ?_
        refine rg ?_
        refine q trivial rfl rfl (mv (v := .int .i64 ((k : Nat) : Int)) rfl) ?_
        refine q trivial rfl rfl (mv (v := .int .i64 r1) rfl) ?_
        refine q trivial rfl rfl (nei (k := .i64) (a := ((k : Nat) : Int)) (b := r1) rfl rfl) ?_
        refine q trivial rfl rfl (mv (v := .bool (decide (((k : Nat) : Int) ≠ r1))) rfl) ?_
        refine spd (p := ((k : Nat) : Int) ≠ r1) 33 rfl (fun h5 => ?_) (fun h5 => ?_)
        · refine q ⟨_, rfl, rfl⟩ rfl rfl (mv (v := .int .i64 ((k : Nat) : Int)) rfl) ?_
          refine cl ⟨_, rfl, rfl⟩ rfl (iKindText (z := ((k : Nat) : Int)) (w := _) (hGk := (hGk.up0 hs4))) ?_
          rintro _ w5 ⟨rfl, hs5'⟩
          have hs5 : SH w w5 [] [] := hs4.call0 hs5'
          clear hs5'
          refine q ⟨_, rfl, rfl⟩ rfl rfl (mv (v := Str (kindText r1)) rfl) ?_
          refine q ⟨_, rfl, rfl⟩ rfl rfl (eqs (l := kindText ((k : Nat) : Int)) (m := kindText r1) rfl rfl) ?_
          refine q trivial rfl rfl (pt (v := .bool (decide (kindText ((k : Nat) : Int) = kindText r1))) rfl rfl) ?_
          refine nl ?_
          refine nN ?_
          refine cdd (p := kindText ((k : Nat) : Int) = kindText r1) rfl (fun h6 => ?_) (fun h6 => ?_)
          · refine sq ?_
            refine rg ?_
            refine q trivial rfl rfl (asg (v := .bool false) rfl) ?_
            refine nl ?_
            refine nN ?_
            refine rt (bR (tR (tR (bR (tR ?_)))))
            refine fret (v := .bool false) (.tmp .nil) rfl ?_
            have e2 : false = true := by first | rfl | (simp; done) | (have hz : 0 ≤ r1 ∧ r1 ≤ 6 := (by rcases Decidable.em (0 ≤ r1 ∧ r1 ≤ 6) with h | h; exact h; exact absurd (kindText_no h) (by assumption)); first | (simp; omega) | (exfalso; omega) | exact absurd (kindText_inj (a := (k : Int)) (by omega) hz (by assumption)) (by assumption))
            exact ⟨(congrArg (Value.bool) e2), hs5⟩
          · refine sk ?_
            refine bN ?_
            refine nN ?_
            refine rg ?_
            refine q trivial rfl rfl (mv (v := .int .i64 ((k : Nat) : Int)) rfl) ?_
            refine q trivial rfl rfl (add (a := ((k : Nat) : Int)) (b := 1) rfl rfl (by exact ⟨by omega, by omega⟩)) ?_
            refine q trivial rfl rfl (asg (v := .int .i64 (((k : Nat) : Int) + 1)) rfl) ?_
            refine nl ?_
            refine nN ?_
            refine ⟨(k + 1), ⟨⟨rfl, rfl, rfl, trivial⟩, (by omega), hs5⟩, ?_⟩
            omega
        · refine gk false rfl rfl rfl rfl rfl ?_
          refine gk false rfl rfl rfl rfl rfl ?_
          refine gk false rfl rfl rfl rfl rfl ?_
          refine gk false rfl rfl rfl rfl rfl ?_
          refine q trivial rfl rfl (pf (v := .bool false) rfl rfl) ?_
          refine nl ?_
          refine nN ?_
          refine cdf rfl ?_
          refine sk ?_
          refine bN ?_
          refine nN ?_
          refine rg ?_
          refine q trivial rfl rfl (mv (v := .int .i64 ((k : Nat) : Int)) rfl) ?_
          refine q trivial rfl rfl (add (a := ((k : Nat) : Int)) (b := 1) rfl rfl (by exact ⟨by omega, by omega⟩)) ?_
          refine q trivial rfl rfl (asg (v := .int .i64 (((k : Nat) : Int) + 1)) rfl) ?_
          refine nl ?_
          refine nN ?_
          refine ⟨(k + 1), ⟨⟨rfl, rfl, rfl, trivial⟩, (by omega), hs4⟩, ?_⟩
          omega
      · refine ex (tE (tE (bE ?_)))
        refine nN ?_
        refine sq ?_
        refine rg ?_
        refine q trivial rfl rfl (mv (v := .int .i64 r1) rfl) ?_
        refine q trivial rfl rfl (geq (k := .i64) (a := r1) (b := 0) rfl rfl) ?_
        refine q trivial rfl rfl (mv (v := .bool (decide ((0 : Int) ≤ r1))) rfl) ?_
        refine spd (p := (0 : Int) ≤ r1) 41 rfl (fun h7 => ?_) (fun h7 => ?_)
        · refine q ⟨_, rfl, rfl⟩ rfl rfl (mv (v := .int .i64 r1) rfl) ?_
          refine q ⟨_, rfl, rfl⟩ rfl rfl (leq (k := .i64) (a := r1) (b := 6) rfl rfl) ?_
          refine q trivial rfl rfl (pt (v := .bool (decide (r1 ≤ 6))) rfl rfl) ?_
          refine q trivial rfl rfl (asg (v := .bool (decide (r1 ≤ 6))) rfl) ?_
          refine nl ?_
          refine nN ?_
          refine rt ?_
          refine fret (v := .bool (decide (r1 ≤ 6))) (.tmp .nil) rfl ?_
          have e3 : (decide (r1 ≤ 6)) = true := by first | rfl | (simp; done) | (have hz : 0 ≤ r1 ∧ r1 ≤ 6 := (by rcases Decidable.em (0 ≤ r1 ∧ r1 ≤ 6) with h | h; exact h; exact absurd (kindText_no h) (by assumption)); first | (simp; omega) | (exfalso; omega) | exact absurd (kindText_inj (a := (k : Int)) (by omega) hz (by assumption)) (by assumption))
          exact ⟨(congrArg (Value.bool) e3), hs4⟩
        · refine gk false rfl rfl rfl rfl rfl ?_
          refine gk false rfl rfl rfl rfl rfl ?_
          refine q trivial rfl rfl (pf (v := .bool false) rfl rfl) ?_
          refine q trivial rfl rfl (asg (v := .bool false) rfl) ?_
          refine nl ?_
          refine nN ?_
          refine rt ?_
          refine fret (v := .bool false) (.tmp .nil) rfl ?_
          have e4 : false = true := by first | rfl | (simp; done) | (have hz : 0 ≤ r1 ∧ r1 ≤ 6 := (by rcases Decidable.em (0 ≤ r1 ∧ r1 ≤ 6) with h | h; exact h; exact absurd (kindText_no h) (by assumption)); first | (simp; omega) | (exfalso; omega) | exact absurd (kindText_inj (a := (k : Int)) (by omega) hz (by assumption)) (by assumption))
          exact ⟨(congrArg (Value.bool) e4), hs4⟩

end Go.Proofs.YthpdfolobbacpaaDoor
