/-
  Part of the proofs over this seat: what each function of the program computes, function by function (the text is written by a program of this hand-in's own).
  Conditions: each theorem states its own.
-/
import Derived.Test.YthpdfolobbacpaaPfWalks
namespace Go.Proofs.Ythpdfolobbacpaa
open Go.PF
set_option maxRecDepth 100000

theorem lHexJoin {Acs : Option Addr} {ccs : Nat} (cs : List UInt8) {Ads : Option Addr} {cds : Nat} (ds : List UInt8) (w : World) (hcs : Sl w [] 1 Acs cs.length ccs (cs.map U)) (hds : Sl w [] 1 Ads ds.length cds (ds.map U)) : Does Try.prog 6 [.slice Acs cs.length ccs, .slice Ads ds.length cds] w (fun v w' => v = .bool true ∧ SH w w' [] []) := by
  refine fn_enter (N := 90) Try.func6 rfl (by kernel_rfl) rfl rfl rfl ?_
  have hs0 : SH w w [] [] := SH.refl w []
  have hcs_m : cs.length ≤ 9223372036854775807 := Nat.le_trans hcs.cap hcs.capMax
  have hds_m : ds.length ≤ 9223372036854775807 := Nat.le_trans hds.cap hds.capMax
  refine sq ?_
  refine rg ?_
  refine q trivial rfl rfl (asg (v := .bool false) rfl) ?_
  refine nl ?_
  refine nN ?_
  refine sq ?_
  refine sq ?_
  refine rg ?_
  refine q trivial rfl rfl (mv (v := .slice Acs cs.length ccs) rfl) ?_
  refine q trivial rfl rfl (lnA (n := cs.length) sl31 rfl) ?_
  refine q trivial rfl rfl (gtr (k := .i64) (a := ((cs.length : Nat) : Int)) (b := 1048576) rfl rfl) ?_
  refine q trivial rfl rfl (mv (v := .bool (decide ((1048576 : Int) < ((cs.length : Nat) : Int)))) rfl) ?_
  refine spd (p := (1048576 : Int) < ((cs.length : Nat) : Int)) 18 rfl (fun h1 => ?_) (fun h1 => ?_)
  · refine gk true rfl rfl rfl rfl rfl ?_
    refine gk true rfl rfl rfl rfl rfl ?_
    refine gk true rfl rfl rfl rfl rfl ?_
    refine q trivial rfl rfl (pt (v := .bool true) rfl rfl) ?_
    refine nl ?_
    refine nN ?_
    refine cdt rfl ?_
    refine sq ?_
    refine rg ?_
    refine q trivial rfl rfl (asg (v := .bool true) rfl) ?_
    refine nl ?_
    refine nN ?_
    refine rt (tR ?_)
    refine fret (v := .bool true) (.tmp .nil) rfl ?_
    exact ⟨rfl, hs0⟩
  · refine q ⟨_, rfl, rfl⟩ rfl rfl (mv (v := .slice Ads ds.length cds) rfl) ?_
    refine q ⟨_, rfl, rfl⟩ rfl rfl (lnA (n := ds.length) sl31 rfl) ?_
    refine q ⟨_, rfl, rfl⟩ rfl rfl (gtr (k := .i64) (a := ((ds.length : Nat) : Int)) (b := 1048576) rfl rfl) ?_
    refine q trivial rfl rfl (pf (v := .bool (decide ((1048576 : Int) < ((ds.length : Nat) : Int)))) rfl rfl) ?_
    refine nl ?_
    refine nN ?_
    refine cdd (p := (1048576 : Int) < ((ds.length : Nat) : Int)) rfl (fun h2 => ?_) (fun h2 => ?_)
    · refine sq ?_
      refine rg ?_
      refine q trivial rfl rfl (asg (v := .bool true) rfl) ?_
      refine nl ?_
      refine nN ?_
      refine rt (tR ?_)
      refine fret (v := .bool true) (.tmp .nil) rfl ?_
      exact ⟨rfl, hs0⟩
    · refine sk ?_
      refine nN ?_
      refine sq ?_
      refine rg ?_
      refine q trivial rfl rfl (mv (v := .slice Acs cs.length ccs) rfl) ?_
      refine cl trivial rfl (drawHexFrom (Acs := Acs) (ccs := ccs) (cs := cs) (w := _) (hcs := (hcs.up0 hs0))) ?_
      rintro _ w1 ⟨s1, rfl, p1, hs1'⟩
      have hs1 : SH w w1 [] [] := hs0.call0 hs1'
      clear hs1'
      refine q trivial rfl rfl (asg (v := Str s1) rfl) ?_
      refine nl ?_
      refine nN ?_
      refine sq ?_
      refine rg ?_
      refine q trivial rfl rfl (mv (v := Str s1) rfl) ?_
      refine cl trivial rfl (iHexFrom (l := s1) (w := _) (hl_n := (by first | omega | (simp; omega)))) ?_
      rintro _ w2 ⟨A1, c1, rfl, hs2'⟩
      have hs2 : SH w w2 [] [.own A1 (((hexFrom s1).1).length) c1 3 1 (((hexFrom s1).1).map I)] := hs1.call0 hs2'
      clear hs2'
      refine q trivial rfl rfl (mv (v := .tuple #[.slice A1 (((hexFrom s1).1).length) c1, .bool ((hexFrom s1).2)]) rfl) ?_
      refine q trivial rfl rfl (xt 0 (v := .slice A1 (((hexFrom s1).1).length) c1) rfl rfl) ?_
      refine q trivial rfl rfl (xt 1 (v := .bool ((hexFrom s1).2)) rfl rfl) ?_
      refine q trivial rfl rfl (asg (v := .slice A1 (((hexFrom s1).1).length) c1) rfl) ?_
      refine q trivial rfl rfl (asg (v := .bool ((hexFrom s1).2)) rfl) ?_
      refine nl ?_
      refine nN ?_
      refine sq ?_
      refine rg ?_
      refine q trivial rfl rfl (mv (v := Str s1) rfl) ?_
      refine cl trivial rfl (sHexFrom (l := s1) (w := _) (hl_n := (by first | omega | (simp; omega)))) ?_
      rintro _ w3 ⟨A2, c2, rfl, hs3'⟩
      have hs3 : SH w w3 [] [.own A1 (((hexFrom s1).1).length) c1 3 1 (((hexFrom s1).1).map I), .own A2 (((hexFrom s1).1).length) c2 3 1 (((hexFrom s1).1).map I)] := hs2.call0 hs3'
      clear hs3'
      refine q trivial rfl rfl (mv (v := .tuple #[.slice A2 (((hexFrom s1).1).length) c2, .bool ((hexFrom s1).2)]) rfl) ?_
      refine q trivial rfl rfl (xt 0 (v := .slice A2 (((hexFrom s1).1).length) c2) rfl rfl) ?_
      refine q trivial rfl rfl (xt 1 (v := .bool ((hexFrom s1).2)) rfl rfl) ?_
      refine q trivial rfl rfl (asg (v := .slice A2 (((hexFrom s1).1).length) c2) rfl) ?_
      refine q trivial rfl rfl (asg (v := .bool ((hexFrom s1).2)) rfl) ?_
      refine nl ?_
      refine nN ?_
      refine sq ?_
      refine sq ?_
      refine rg ?_
      refine q trivial rfl rfl (mv (v := .bool ((hexFrom s1).2)) rfl) ?_
      refine q trivial rfl rfl (mv (v := .bool ((hexFrom s1).2)) rfl) ?_
      refine q trivial rfl rfl (neb (a := ((hexFrom s1).2)) (b := ((hexFrom s1).2)) tb4 rfl rfl) ?_
      refine q trivial rfl rfl (mv (v := .bool (decide (((hexFrom s1).2) ≠ ((hexFrom s1).2)))) rfl) ?_
      refine spd (p := ((hexFrom s1).2) ≠ ((hexFrom s1).2)) 38 rfl (fun h3 => absurd h3 (by exact fun h => h rfl)) (fun h3 => ?_)
      refine q ⟨_, rfl, rfl⟩ rfl rfl (mv (v := .slice A1 (((hexFrom s1).1).length) c1) rfl) ?_
      refine q ⟨_, rfl, rfl⟩ rfl rfl (mv (v := .slice A2 (((hexFrom s1).1).length) c2) rfl) ?_
      refine cl ⟨_, rfl, rfl⟩ rfl (sameBytes (Axs := A1) (cxs := c1) (xs := (hexFrom s1).1) (Abs := A2) (cbs := c2) (bs := (hexFrom s1).1) (w := _) (hxs := (hs3.sl0 0 rfl)) (hbs := (hs3.sl0 1 rfl))) ?_
      rintro _ w4 ⟨rfl, hs4'⟩
      have hs4 : SH w w4 [] [.own A1 (((hexFrom s1).1).length) c1 3 1 (((hexFrom s1).1).map I), .own A2 (((hexFrom s1).1).length) c2 3 1 (((hexFrom s1).1).map I)] := hs3.call0 hs4'
      clear hs4'
      refine q ⟨_, rfl, rfl⟩ rfl rfl (nd (p := ((hexFrom s1).1) = ((hexFrom s1).1)) rfl) ?_
      refine q trivial rfl rfl (pf (v := .bool (decide (¬ (((hexFrom s1).1) = ((hexFrom s1).1))))) rfl rfl) ?_
      refine q trivial rfl rfl (mv (v := .bool (decide (¬ (((hexFrom s1).1) = ((hexFrom s1).1))))) rfl) ?_
      refine spd (p := ¬ (((hexFrom s1).1) = ((hexFrom s1).1))) 44 rfl (fun h4 => absurd h4 (by exact fun h => h rfl)) (fun h4 => ?_)
      refine q ⟨_, rfl, rfl⟩ rfl rfl (mv (v := .bool ((hexFrom s1).2)) rfl) ?_
      refine q ⟨_, rfl, rfl⟩ rfl rfl (nt (b := (hexFrom s1).2) rfl) ?_
      refine q trivial rfl rfl (pf (v := .bool (!((hexFrom s1).2))) rfl rfl) ?_
      refine nl ?_
      refine nN ?_
      refine cd (b := !((hexFrom s1).2)) rfl (fun h5 => ?_) (fun h5 => ?_)
      · refine sq ?_
        refine rg ?_
        refine q trivial rfl rfl (mv (v := .bool ((hexFrom s1).2)) rfl) ?_
        refine q trivial rfl rfl (mv (v := .bool ((hexFrom s1).2)) rfl) ?_
        refine q trivial rfl rfl (eqb (a := ((hexFrom s1).2)) (b := ((hexFrom s1).2)) tb4 rfl rfl) ?_
        refine q trivial rfl rfl (mv (v := .bool (decide (((hexFrom s1).2) = ((hexFrom s1).2)))) rfl) ?_
        refine spd (p := ((hexFrom s1).2) = ((hexFrom s1).2)) 51 rfl (fun h6 => ?_) (fun h6 => absurd (by rfl) h6)
        refine q ⟨_, rfl, rfl⟩ rfl rfl (mv (v := .slice A1 (((hexFrom s1).1).length) c1) rfl) ?_
        refine q ⟨_, rfl, rfl⟩ rfl rfl (mv (v := .slice A2 (((hexFrom s1).1).length) c2) rfl) ?_
        refine cl ⟨_, rfl, rfl⟩ rfl (sameBytes (Axs := A1) (cxs := c1) (xs := (hexFrom s1).1) (Abs := A2) (cbs := c2) (bs := (hexFrom s1).1) (w := _) (hxs := (hs4.sl0 0 rfl)) (hbs := (hs4.sl0 1 rfl))) ?_
        rintro _ w5 ⟨rfl, hs5'⟩
        have hs5 : SH w w5 [] [.own A1 (((hexFrom s1).1).length) c1 3 1 (((hexFrom s1).1).map I), .own A2 (((hexFrom s1).1).length) c2 3 1 (((hexFrom s1).1).map I)] := hs4.call0 hs5'
        clear hs5'
        refine q trivial rfl rfl (pt (v := .bool (decide (((hexFrom s1).1) = ((hexFrom s1).1)))) rfl rfl) ?_
        refine q trivial rfl rfl (asg (v := .bool (decide (((hexFrom s1).1) = ((hexFrom s1).1)))) rfl) ?_
        refine nl ?_
        refine nN ?_
        refine rt (tR ?_)
        refine fret (v := .bool (decide (((hexFrom s1).1) = ((hexFrom s1).1)))) (.tmp .nil) rfl ?_
        have e1 : (decide (((hexFrom s1).1) = ((hexFrom s1).1))) = true := by first | rfl | (simp; done) | (have hok : (hexFrom s1).2 = true := (by simp_all); have hr := hexFrom_join hok (m := ds.length % ((hexFrom s1).1.length + 1)) (by have := Nat.mod_lt ds.length (y := (hexFrom s1).1.length + 1) (by omega); omega); simp_all)
        exact ⟨(congrArg (Value.bool) e1), (hs5.pick [] rfl (by decide))⟩
      · refine sk ?_
        refine nN ?_
        refine sq ?_
        refine rg ?_
        refine q trivial rfl rfl (mv (v := .slice Ads ds.length cds) rfl) ?_
        refine q trivial rfl rfl (lnA (n := ds.length) sl31 rfl) ?_
        refine q trivial rfl rfl (mv (v := .slice A1 (((hexFrom s1).1).length) c1) rfl) ?_
        refine q trivial rfl rfl (lnA (n := ((hexFrom s1).1).length) sl22 rfl) ?_
        refine q trivial rfl rfl (add (a := ((((hexFrom s1).1).length : Nat) : Int)) (b := 1) rfl rfl (by have := hexFrom_len s1; exact ⟨by omega, by omega⟩)) ?_
        refine q trivial rfl rfl (rem (a := ((ds.length : Nat) : Int)) (b := ((((hexFrom s1).1).length : Nat) : Int) + 1) rfl rfl (by omega) (by omega)) ?_
        refine q trivial rfl rfl (mul (a := 2) (b := ((ds.length : Nat) : Int) % (((((hexFrom s1).1).length : Nat) : Int) + 1)) rfl rfl (by have h8 := Int.emod_lt_of_pos ((ds.length : Nat) : Int) (show (0 : Int) < ((((hexFrom s1).1).length : Nat) : Int) + 1 from by omega); have h9 := Int.emod_nonneg ((ds.length : Nat) : Int) (show ((((hexFrom s1).1).length : Nat) : Int) + 1 ≠ 0 from by omega); have := hexFrom_len s1; exact ⟨by omega, by omega⟩)) ?_
        refine q trivial rfl rfl (asg (v := .int .i64 (2 * (((ds.length : Nat) : Int) % (((((hexFrom s1).1).length : Nat) : Int) + 1)))) rfl) ?_
        refine nl ?_
        refine nN ?_
        refine sq ?_
        refine rg ?_
        refine q trivial rfl rfl (mv (v := Str s1) rfl) ?_
        refine q trivial rfl rfl (mv (v := .int .i64 (2 * (((ds.length : Nat) : Int) % (((((hexFrom s1).1).length : Nat) : Int) + 1)))) rfl) ?_
        refine q trivial rfl rfl (cuhs (l := s1) (2 * (ds.length % ((((hexFrom s1).1).length) + 1))) st9 rfl rfl (by have hok : (hexFrom s1).2 = true := (by simp_all); have := hexFrom_len2 hok; have := Nat.mod_lt ds.length (y := (hexFrom s1).1.length + 1) (by omega); omega)) ?_
        refine cl trivial rfl (iHexFrom (l := s1.take (2 * (ds.length % ((((hexFrom s1).1).length) + 1)))) (w := _) (hl_n := (by first | omega | (simp; omega)))) ?_
        rintro _ w6 ⟨A3, c3, rfl, hs6'⟩
        have hs6 : SH w w6 [] [.own A1 (((hexFrom s1).1).length) c1 3 1 (((hexFrom s1).1).map I), .own A2 (((hexFrom s1).1).length) c2 3 1 (((hexFrom s1).1).map I), .own A3 (((hexFrom (s1.take (2 * (ds.length % ((((hexFrom s1).1).length) + 1))))).1).length) c3 3 1 (((hexFrom (s1.take (2 * (ds.length % ((((hexFrom s1).1).length) + 1))))).1).map I)] := hs4.call0 hs6'
        clear hs6'
        refine q trivial rfl rfl (mv (v := .tuple #[.slice A3 (((hexFrom (s1.take (2 * (ds.length % ((((hexFrom s1).1).length) + 1))))).1).length) c3, .bool ((hexFrom (s1.take (2 * (ds.length % ((((hexFrom s1).1).length) + 1))))).2)]) rfl) ?_
        refine q trivial rfl rfl (xt 0 (v := .slice A3 (((hexFrom (s1.take (2 * (ds.length % ((((hexFrom s1).1).length) + 1))))).1).length) c3) rfl rfl) ?_
        refine q trivial rfl rfl (xt 1 (v := .bool ((hexFrom (s1.take (2 * (ds.length % ((((hexFrom s1).1).length) + 1))))).2)) rfl rfl) ?_
        refine q trivial rfl rfl (asg (v := .slice A3 (((hexFrom (s1.take (2 * (ds.length % ((((hexFrom s1).1).length) + 1))))).1).length) c3) rfl) ?_
        refine q trivial rfl rfl (asg (v := .bool ((hexFrom (s1.take (2 * (ds.length % ((((hexFrom s1).1).length) + 1))))).2)) rfl) ?_
        refine nl ?_
        refine nN ?_
        refine sq ?_
        refine rg ?_
        refine q trivial rfl rfl (mv (v := Str s1) rfl) ?_
        refine q trivial rfl rfl (mv (v := .int .i64 (2 * (((ds.length : Nat) : Int) % (((((hexFrom s1).1).length : Nat) : Int) + 1)))) rfl) ?_
        refine q trivial rfl rfl (culs (l := s1) (2 * (ds.length % ((((hexFrom s1).1).length) + 1))) st9 rfl rfl (by have hok : (hexFrom s1).2 = true := (by simp_all); have := hexFrom_len2 hok; have := Nat.mod_lt ds.length (y := (hexFrom s1).1.length + 1) (by omega); omega)) ?_
        refine cl trivial rfl (iHexFrom (l := s1.drop (2 * (ds.length % ((((hexFrom s1).1).length) + 1)))) (w := _) (hl_n := (by first | omega | (simp; omega)))) ?_
        rintro _ w7 ⟨A4, c4, rfl, hs7'⟩
        have hs7 : SH w w7 [] [.own A1 (((hexFrom s1).1).length) c1 3 1 (((hexFrom s1).1).map I), .own A2 (((hexFrom s1).1).length) c2 3 1 (((hexFrom s1).1).map I), .own A3 (((hexFrom (s1.take (2 * (ds.length % ((((hexFrom s1).1).length) + 1))))).1).length) c3 3 1 (((hexFrom (s1.take (2 * (ds.length % ((((hexFrom s1).1).length) + 1))))).1).map I), .own A4 (((hexFrom (s1.drop (2 * (ds.length % ((((hexFrom s1).1).length) + 1))))).1).length) c4 3 1 (((hexFrom (s1.drop (2 * (ds.length % ((((hexFrom s1).1).length) + 1))))).1).map I)] := hs6.call0 hs7'
        clear hs7'
        refine q trivial rfl rfl (mv (v := .tuple #[.slice A4 (((hexFrom (s1.drop (2 * (ds.length % ((((hexFrom s1).1).length) + 1))))).1).length) c4, .bool ((hexFrom (s1.drop (2 * (ds.length % ((((hexFrom s1).1).length) + 1))))).2)]) rfl) ?_
        refine q trivial rfl rfl (xt 0 (v := .slice A4 (((hexFrom (s1.drop (2 * (ds.length % ((((hexFrom s1).1).length) + 1))))).1).length) c4) rfl rfl) ?_
        refine q trivial rfl rfl (xt 1 (v := .bool ((hexFrom (s1.drop (2 * (ds.length % ((((hexFrom s1).1).length) + 1))))).2)) rfl rfl) ?_
        refine q trivial rfl rfl (asg (v := .slice A4 (((hexFrom (s1.drop (2 * (ds.length % ((((hexFrom s1).1).length) + 1))))).1).length) c4) rfl) ?_
        refine q trivial rfl rfl (asg (v := .bool ((hexFrom (s1.drop (2 * (ds.length % ((((hexFrom s1).1).length) + 1))))).2)) rfl) ?_
        refine nl ?_
        refine nN ?_
        refine sq ?_
        refine rg ?_
        refine q trivial rfl rfl (mv (v := .bool ((hexFrom (s1.take (2 * (ds.length % ((((hexFrom s1).1).length) + 1))))).2)) rfl) ?_
        refine q trivial rfl rfl (mv (v := .bool ((hexFrom (s1.take (2 * (ds.length % ((((hexFrom s1).1).length) + 1))))).2)) rfl) ?_
        refine spl (b := (hexFrom (s1.take (2 * (ds.length % ((((hexFrom s1).1).length) + 1))))).2) 78 rfl (fun h7 => ?_) (fun h7 => ?_)
        · refine q ⟨_, rfl, rfl⟩ rfl rfl (mv (v := .bool ((hexFrom (s1.drop (2 * (ds.length % ((((hexFrom s1).1).length) + 1))))).2)) rfl) ?_
          refine q trivial rfl rfl (pt (v := .bool ((hexFrom (s1.drop (2 * (ds.length % ((((hexFrom s1).1).length) + 1))))).2)) rfl rfl) ?_
          refine q trivial rfl rfl (mv (v := .bool ((hexFrom (s1.drop (2 * (ds.length % ((((hexFrom s1).1).length) + 1))))).2)) rfl) ?_
          refine spl (b := (hexFrom (s1.drop (2 * (ds.length % ((((hexFrom s1).1).length) + 1))))).2) 81 rfl (fun h8 => ?_) (fun h8 => ?_)
          · refine Go.PF.bs hs7 sl22 [] rfl (cs := []) (by kernel_rfl) rfl (by decide) (by decide) ⟨_, rfl, rfl⟩ rfl (fun b1 w8 (hs8 : SH w w8 [] [.own A1 (((hexFrom s1).1).length) c1 3 1 (((hexFrom s1).1).map I), .own A2 (((hexFrom s1).1).length) c2 3 1 (((hexFrom s1).1).map I), .own A3 (((hexFrom (s1.take (2 * (ds.length % ((((hexFrom s1).1).length) + 1))))).1).length) c3 3 1 (((hexFrom (s1.take (2 * (ds.length % ((((hexFrom s1).1).length) + 1))))).1).map I), .own A4 (((hexFrom (s1.drop (2 * (ds.length % ((((hexFrom s1).1).length) + 1))))).1).length) c4 3 1 (((hexFrom (s1.drop (2 * (ds.length % ((((hexFrom s1).1).length) + 1))))).1).map I), .own (some ⟨b1, 0, none⟩) (([] : List Int).length) 0 3 1 (([] : List Int).map I)]) => ?_)
            refine q ⟨_, rfl, rfl⟩ rfl rfl (mv (v := .slice A3 (((hexFrom (s1.take (2 * (ds.length % ((((hexFrom s1).1).length) + 1))))).1).length) c3) rfl) ?_
            refine apm (g := I) (ys := ([] : List Int)) (zs := (hexFrom (s1.take (2 * (ds.length % ((((hexFrom s1).1).length) + 1))))).1) hs8 4 rfl sl22 rfl rfl rfl (hs8.sl0 2 rfl) (fun _ => rfl) (by unfold maxLen; have := hexFrom_len (s1.take (2 * (ds.length % ((hexFrom s1).1.length + 1)))); have := hexFrom_len (s1.drop (2 * (ds.length % ((hexFrom s1).1.length + 1)))); (try simp); omega) (by have := hexFrom_len (s1.take (2 * (ds.length % ((hexFrom s1).1.length + 1)))); have := hexFrom_len (s1.drop (2 * (ds.length % ((hexFrom s1).1.length + 1)))); (try simp); omega) ⟨_, rfl, rfl⟩ rfl (fun A5 c5 w9 (hs9 : SH w w9 [] [.own A1 (((hexFrom s1).1).length) c1 3 1 (((hexFrom s1).1).map I), .own A2 (((hexFrom s1).1).length) c2 3 1 (((hexFrom s1).1).map I), .own A3 (((hexFrom (s1.take (2 * (ds.length % ((((hexFrom s1).1).length) + 1))))).1).length) c3 3 1 (((hexFrom (s1.take (2 * (ds.length % ((((hexFrom s1).1).length) + 1))))).1).map I), .own A4 (((hexFrom (s1.drop (2 * (ds.length % ((((hexFrom s1).1).length) + 1))))).1).length) c4 3 1 (((hexFrom (s1.drop (2 * (ds.length % ((((hexFrom s1).1).length) + 1))))).1).map I), .own A5 ((([] : List Int) ++ ((hexFrom (s1.take (2 * (ds.length % ((((hexFrom s1).1).length) + 1))))).1)).length) c5 3 1 ((([] : List Int) ++ ((hexFrom (s1.take (2 * (ds.length % ((((hexFrom s1).1).length) + 1))))).1)).map I)]) => ?_)
            refine q ⟨_, rfl, rfl⟩ rfl rfl (mv (v := .slice A4 (((hexFrom (s1.drop (2 * (ds.length % ((((hexFrom s1).1).length) + 1))))).1).length) c4) rfl) ?_
            refine apm (g := I) (ys := ([] : List Int) ++ ((hexFrom (s1.take (2 * (ds.length % ((((hexFrom s1).1).length) + 1))))).1)) (zs := (hexFrom (s1.drop (2 * (ds.length % ((((hexFrom s1).1).length) + 1))))).1) hs9 4 rfl sl22 rfl rfl rfl (hs9.sl0 3 rfl) (fun _ => rfl) (by unfold maxLen; have := hexFrom_len (s1.take (2 * (ds.length % ((hexFrom s1).1.length + 1)))); have := hexFrom_len (s1.drop (2 * (ds.length % ((hexFrom s1).1.length + 1)))); (try simp); omega) (by have := hexFrom_len (s1.take (2 * (ds.length % ((hexFrom s1).1.length + 1)))); have := hexFrom_len (s1.drop (2 * (ds.length % ((hexFrom s1).1.length + 1)))); (try simp); omega) ⟨_, rfl, rfl⟩ rfl (fun A6 c6 w10 (hs10 : SH w w10 [] [.own A1 (((hexFrom s1).1).length) c1 3 1 (((hexFrom s1).1).map I), .own A2 (((hexFrom s1).1).length) c2 3 1 (((hexFrom s1).1).map I), .own A3 (((hexFrom (s1.take (2 * (ds.length % ((((hexFrom s1).1).length) + 1))))).1).length) c3 3 1 (((hexFrom (s1.take (2 * (ds.length % ((((hexFrom s1).1).length) + 1))))).1).map I), .own A4 (((hexFrom (s1.drop (2 * (ds.length % ((((hexFrom s1).1).length) + 1))))).1).length) c4 3 1 (((hexFrom (s1.drop (2 * (ds.length % ((((hexFrom s1).1).length) + 1))))).1).map I), .own A6 (((([] : List Int) ++ ((hexFrom (s1.take (2 * (ds.length % ((((hexFrom s1).1).length) + 1))))).1)) ++ ((hexFrom (s1.drop (2 * (ds.length % ((((hexFrom s1).1).length) + 1))))).1)).length) c6 3 1 (((([] : List Int) ++ ((hexFrom (s1.take (2 * (ds.length % ((((hexFrom s1).1).length) + 1))))).1)) ++ ((hexFrom (s1.drop (2 * (ds.length % ((((hexFrom s1).1).length) + 1))))).1)).map I)]) => ?_)
            refine q ⟨_, rfl, rfl⟩ rfl rfl (mv (v := .slice A1 (((hexFrom s1).1).length) c1) rfl) ?_
            refine cl ⟨_, rfl, rfl⟩ rfl (sameBytes (Axs := A6) (cxs := c6) (xs := (([] : List Int) ++ ((hexFrom (s1.take (2 * (ds.length % ((((hexFrom s1).1).length) + 1))))).1)) ++ ((hexFrom (s1.drop (2 * (ds.length % ((((hexFrom s1).1).length) + 1))))).1)) (Abs := A1) (cbs := c1) (bs := (hexFrom s1).1) (w := _) (hxs := (hs10.sl0 4 rfl)) (hbs := (hs10.sl0 0 rfl))) ?_
            rintro _ w11 ⟨rfl, hs11'⟩
            have hs11 : SH w w11 [] [.own A1 (((hexFrom s1).1).length) c1 3 1 (((hexFrom s1).1).map I), .own A2 (((hexFrom s1).1).length) c2 3 1 (((hexFrom s1).1).map I), .own A3 (((hexFrom (s1.take (2 * (ds.length % ((((hexFrom s1).1).length) + 1))))).1).length) c3 3 1 (((hexFrom (s1.take (2 * (ds.length % ((((hexFrom s1).1).length) + 1))))).1).map I), .own A4 (((hexFrom (s1.drop (2 * (ds.length % ((((hexFrom s1).1).length) + 1))))).1).length) c4 3 1 (((hexFrom (s1.drop (2 * (ds.length % ((((hexFrom s1).1).length) + 1))))).1).map I), .own A6 (((([] : List Int) ++ ((hexFrom (s1.take (2 * (ds.length % ((((hexFrom s1).1).length) + 1))))).1)) ++ ((hexFrom (s1.drop (2 * (ds.length % ((((hexFrom s1).1).length) + 1))))).1)).length) c6 3 1 (((([] : List Int) ++ ((hexFrom (s1.take (2 * (ds.length % ((((hexFrom s1).1).length) + 1))))).1)) ++ ((hexFrom (s1.drop (2 * (ds.length % ((((hexFrom s1).1).length) + 1))))).1)).map I)] := hs10.call0 hs11'
            clear hs11'
            refine q trivial rfl rfl (pt (v := .bool (decide (((([] : List Int) ++ ((hexFrom (s1.take (2 * (ds.length % ((((hexFrom s1).1).length) + 1))))).1)) ++ ((hexFrom (s1.drop (2 * (ds.length % ((((hexFrom s1).1).length) + 1))))).1)) = ((hexFrom s1).1)))) rfl rfl) ?_
            refine q trivial rfl rfl (asg (v := .bool (decide (((([] : List Int) ++ ((hexFrom (s1.take (2 * (ds.length % ((((hexFrom s1).1).length) + 1))))).1)) ++ ((hexFrom (s1.drop (2 * (ds.length % ((((hexFrom s1).1).length) + 1))))).1)) = ((hexFrom s1).1)))) rfl) ?_
            refine nl ?_
            refine nN ?_
            refine rt ?_
            refine fret (v := .bool (decide (((([] : List Int) ++ ((hexFrom (s1.take (2 * (ds.length % ((((hexFrom s1).1).length) + 1))))).1)) ++ ((hexFrom (s1.drop (2 * (ds.length % ((((hexFrom s1).1).length) + 1))))).1)) = ((hexFrom s1).1)))) (.tmp .nil) rfl ?_
            have e2 : (decide (((([] : List Int) ++ ((hexFrom (s1.take (2 * (ds.length % ((((hexFrom s1).1).length) + 1))))).1)) ++ ((hexFrom (s1.drop (2 * (ds.length % ((((hexFrom s1).1).length) + 1))))).1)) = ((hexFrom s1).1))) = true := by first | rfl | (simp; done) | (have hok : (hexFrom s1).2 = true := (by simp_all); have hr := hexFrom_join hok (m := ds.length % ((hexFrom s1).1.length + 1)) (by have := Nat.mod_lt ds.length (y := (hexFrom s1).1.length + 1) (by omega); omega); simp_all)
            exact ⟨(congrArg (Value.bool) e2), (hs11.pick [] rfl (by decide))⟩
          · refine gk false rfl rfl rfl rfl rfl ?_
            refine gk false rfl rfl rfl rfl rfl ?_
            refine gk false rfl rfl rfl rfl rfl ?_
            refine gk false rfl rfl rfl rfl rfl ?_
            refine gk false rfl rfl rfl rfl rfl ?_
            refine gk false rfl rfl rfl rfl rfl ?_
            refine gk false rfl rfl rfl rfl rfl ?_
            refine q trivial rfl rfl (pf (v := .bool false) rfl rfl) ?_
            refine q trivial rfl rfl (asg (v := .bool false) rfl) ?_
            refine nl ?_
            refine nN ?_
            refine rt ?_
            refine fret (v := .bool false) (.tmp .nil) rfl ?_
            have e3 : false = true := by first | rfl | (simp; done) | (have hok : (hexFrom s1).2 = true := (by simp_all); have hr := hexFrom_join hok (m := ds.length % ((hexFrom s1).1.length + 1)) (by have := Nat.mod_lt ds.length (y := (hexFrom s1).1.length + 1) (by omega); omega); simp_all)
            exact ⟨(congrArg (Value.bool) e3), (hs7.pick [] rfl (by decide))⟩
        · refine gk false rfl rfl rfl rfl rfl ?_
          refine q trivial rfl rfl (pf (v := .bool false) rfl rfl) ?_
          refine q trivial rfl rfl (mv (v := .bool false) rfl) ?_
          refine gk false rfl rfl rfl rfl rfl ?_
          refine gk false rfl rfl rfl rfl rfl ?_
          refine gk false rfl rfl rfl rfl rfl ?_
          refine gk false rfl rfl rfl rfl rfl ?_
          refine gk false rfl rfl rfl rfl rfl ?_
          refine gk false rfl rfl rfl rfl rfl ?_
          refine gk false rfl rfl rfl rfl rfl ?_
          refine q trivial rfl rfl (pf (v := .bool false) rfl rfl) ?_
          refine q trivial rfl rfl (asg (v := .bool false) rfl) ?_
          refine nl ?_
          refine nN ?_
          refine rt ?_
          refine fret (v := .bool false) (.tmp .nil) rfl ?_
          have e4 : false = true := by first | rfl | (simp; done) | (have hok : (hexFrom s1).2 = true := (by simp_all); have hr := hexFrom_join hok (m := ds.length % ((hexFrom s1).1.length + 1)) (by have := Nat.mod_lt ds.length (y := (hexFrom s1).1.length + 1) (by omega); omega); simp_all)
          exact ⟨(congrArg (Value.bool) e4), (hs7.pick [] rfl (by decide))⟩


end Go.Proofs.Ythpdfolobbacpaa
