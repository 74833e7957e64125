/-
  Part of the proofs over this seat: what each function of the program computes, function by function (the text is written by a program of this hand-in's own).
  Conditions: each theorem states its own.
-/
import Derived.Test.YtaclnkdhmfkgcaaPfWalks2
namespace Go.Proofs.Ytaclnkdhmfkgcaa
open Go.PF
set_option maxRecDepth 100000
set_option linter.unusedSimpArgs false
set_option linter.unusedVariables false

theorem lRulesPart {Acs : Option Addr} {ccs : Nat} (cs : List UInt8) {Ads : Option Addr} {cds : Nat} (ds : List UInt8) (w : World) (hcs : Sl w [] 1 Acs cs.length ccs (cs.map U)) (hds : Sl w [] 1 Ads ds.length cds (ds.map U)) : Does Try.prog 3 [.slice Acs cs.length ccs, .slice Ads ds.length cds] w (fun v w' => v = .bool true ∧ SH w w' [] []) := by
  refine fn_enter (N := 69) Try.func3 rfl (by kernel_rfl) rfl rfl rfl ?_
  have hs0 : SH w w [] [] := SH.refl w []
  have hcs_m : cs.length ≤ 9223372036854775807 := Nat.le_trans hcs.cap hcs.capMax
  have hds_m : ds.length ≤ 9223372036854775807 := Nat.le_trans hds.cap hds.capMax
  refine sq ?_
  refine rg ?_
  refine q trivial rfl rfl (asg (v := .bool false) rfl) ?_
  refine nl ?_
  refine nN ?_
  refine sq ?_
  refine sq ?_
  refine rg ?_
  refine q trivial rfl rfl (mv (v := .slice Acs cs.length ccs) rfl) ?_
  refine q trivial rfl rfl (lnA (n := cs.length) sl22 rfl) ?_
  refine q trivial rfl rfl (gtr (k := .i64) (a := ((cs.length : Nat) : Int)) (b := 1048576) rfl rfl) ?_
  refine q trivial rfl rfl (mv (v := .bool (decide ((1048576 : Int) < ((cs.length : Nat) : Int)))) rfl) ?_
  refine spd (p := (1048576 : Int) < ((cs.length : Nat) : Int)) 14 rfl (fun h1 => ?_) (fun h1 => ?_)
  · refine gk true rfl rfl rfl rfl rfl ?_
    refine gk true rfl rfl rfl rfl rfl ?_
    refine gk true rfl rfl rfl rfl rfl ?_
    refine q trivial rfl rfl (pt (v := .bool true) rfl rfl) ?_
    refine nl ?_
    refine nN ?_
    refine cdt rfl ?_
    refine sq ?_
    refine rg ?_
    refine q trivial rfl rfl (asg (v := .bool true) rfl) ?_
    refine nl ?_
    refine nN ?_
    refine rt (tR ?_)
    refine fret (v := .bool true) (.tmp .nil) rfl ?_
    exact ⟨rfl, hs0⟩
  · refine q ⟨_, rfl, rfl⟩ rfl rfl (mv (v := .slice Ads ds.length cds) rfl) ?_
    refine q ⟨_, rfl, rfl⟩ rfl rfl (lnA (n := ds.length) sl22 rfl) ?_
    refine q ⟨_, rfl, rfl⟩ rfl rfl (gtr (k := .i64) (a := ((ds.length : Nat) : Int)) (b := 1048576) rfl rfl) ?_
    refine q trivial rfl rfl (pf (v := .bool (decide ((1048576 : Int) < ((ds.length : Nat) : Int)))) rfl rfl) ?_
    refine nl ?_
    refine nN ?_
    refine cdd (p := (1048576 : Int) < ((ds.length : Nat) : Int)) rfl (fun h2 => ?_) (fun h2 => ?_)
    · refine sq ?_
      refine rg ?_
      refine q trivial rfl rfl (asg (v := .bool true) rfl) ?_
      refine nl ?_
      refine nN ?_
      refine rt (tR ?_)
      refine fret (v := .bool true) (.tmp .nil) rfl ?_
      exact ⟨rfl, hs0⟩
    · refine sk ?_
      refine nN ?_
      refine sq ?_
      refine rg ?_
      refine q trivial rfl rfl (mv (v := .slice Acs cs.length ccs) rfl) ?_
      refine cl trivial rfl (drawRulesValid (Acs := Acs) (ccs := ccs) (cs := cs) (w := _) (hcs := (hcs.up0 hs0))) ?_
      rintro _ w1 ⟨A1, c1, r1, rfl, p1, p2, hs1'⟩
      have hs1 : SH w w1 [] [.own A1 r1.length c1 27 3 (r1.flatMap gRule)] := hs0.call0 hs1'
      clear hs1'
      refine q trivial rfl rfl (asg (v := .slice A1 r1.length c1) rfl) ?_
      refine nl ?_
      refine nN ?_
      refine sq ?_
      refine rg ?_
      refine q trivial rfl rfl (mv (v := .slice A1 r1.length c1) rfl) ?_
      refine cl trivial rfl (iRulesValid (Azs := A1) (czs := c1) (zs := r1) (w := _) (hzs := (hs1.sl0 0 rfl)) (hzs_e := (by exact fun u hu => Nat.le_trans (by first | exact p2 u hu | exact rules_cut p2 u hu | exact rules_set p2 (rules_at p2) u hu) (by decide)))) ?_
      rintro _ w2 ⟨rfl, hs2'⟩
      have hs2 : SH w w2 [] [.own A1 r1.length c1 27 3 (r1.flatMap gRule)] := hs1.call0 hs2'
      clear hs2'
      refine q trivial rfl rfl (asg (v := .bool (rulesOk r1)) rfl) ?_
      refine nl ?_
      refine nN ?_
      refine sq ?_
      refine rg ?_
      refine q trivial rfl rfl (mv (v := .slice A1 r1.length c1) rfl) ?_
      refine cl trivial rfl (sRulesValid (Azs := A1) (czs := c1) (zs := r1) (w := _) (hzs := (hs2.sl0 0 rfl)) (hzs_e := (by exact fun u hu => Nat.le_trans (by first | exact p2 u hu | exact rules_cut p2 u hu | exact rules_set p2 (rules_at p2) u hu) (by decide)))) ?_
      rintro _ w3 ⟨rfl, hs3'⟩
      have hs3 : SH w w3 [] [.own A1 r1.length c1 27 3 (r1.flatMap gRule)] := hs2.call0 hs3'
      clear hs3'
      refine q trivial rfl rfl (asg (v := .bool (rulesOk r1)) rfl) ?_
      refine nl ?_
      refine nN ?_
      refine sq ?_
      refine sq ?_
      refine rg ?_
      refine q trivial rfl rfl (mv (v := .bool (rulesOk r1)) rfl) ?_
      refine q trivial rfl rfl (mv (v := .bool (rulesOk r1)) rfl) ?_
      refine q trivial rfl rfl (neb (a := (rulesOk r1)) (b := (rulesOk r1)) tb4 rfl rfl) ?_
      refine q trivial rfl rfl (mv (v := .bool (decide ((rulesOk r1) ≠ (rulesOk r1)))) rfl) ?_
      refine spd (p := (rulesOk r1) ≠ (rulesOk r1)) 28 rfl (fun h3 => absurd h3 (by exact fun h => h rfl)) (fun h3 => ?_)
      refine q ⟨_, rfl, rfl⟩ rfl rfl (mv (v := .bool (rulesOk r1)) rfl) ?_
      refine q ⟨_, rfl, rfl⟩ rfl rfl (nt (b := rulesOk r1) rfl) ?_
      refine q trivial rfl rfl (pf (v := .bool (!(rulesOk r1))) rfl rfl) ?_
      refine q trivial rfl rfl (mv (v := .bool (!(rulesOk r1))) rfl) ?_
      refine spl (b := !(rulesOk r1)) 32 rfl (fun h4 => ?_) (fun h4 => ?_)
      · have h5 : (rulesOk r1) = false := by simpa using h4
        refine gk true rfl rfl rfl rfl rfl ?_
        refine gk true rfl rfl rfl rfl rfl ?_
        refine gk true rfl rfl rfl rfl rfl ?_
        refine q trivial rfl rfl (pt (v := .bool true) rfl rfl) ?_
        refine nl ?_
        refine nN ?_
        refine cdt rfl ?_
        refine sq ?_
        refine rg ?_
        refine q trivial rfl rfl (mv (v := .bool (rulesOk r1)) rfl) ?_
        refine q trivial rfl rfl (mv (v := .bool (rulesOk r1)) rfl) ?_
        refine q trivial rfl rfl (eqb (a := (rulesOk r1)) (b := (rulesOk r1)) tb4 rfl rfl) ?_
        refine q trivial rfl rfl (asg (v := .bool (decide ((rulesOk r1) = (rulesOk r1)))) rfl) ?_
        refine nl ?_
        refine nN ?_
        refine rt (tR ?_)
        refine fret (v := .bool (decide ((rulesOk r1) = (rulesOk r1)))) (.tmp .nil) rfl ?_
        have e1 : (decide ((rulesOk r1) = (rulesOk r1))) = true := by first | rfl | (simp; done) | (have hmd := Nat.mod_lt ds.length (show 0 < r1.length by omega); have hok : rulesOk r1 = true := (by assumption); have hx := rules_part1 (k := ds.length % r1.length) hok; have hy := rules_part2 (s := (r1.getD (ds.length % r1.length) rule0).1) (b := (r1.getD (ds.length % r1.length) rule0).2.2) (l := r1) hmd; first | (rw [hy]; rfl) | (have hz : rulesOk (r1.take (ds.length % r1.length) ++ r1.drop (ds.length % r1.length + 1)) = false := (by assumption); rw [hx] at hz; cases hz))
        exact ⟨(congrArg (Value.bool) e1), (hs3.pick [] rfl (by decide))⟩
      · have h6 : (rulesOk r1) = true := by simpa using h4
        refine q ⟨_, rfl, rfl⟩ rfl rfl (mv (v := .slice A1 r1.length c1) rfl) ?_
        refine q ⟨_, rfl, rfl⟩ rfl rfl (lnA (n := r1.length) sl23 rfl) ?_
        refine q ⟨_, rfl, rfl⟩ rfl rfl (eqi (k := .i64) (a := ((r1.length : Nat) : Int)) (b := 0) rfl rfl) ?_
        refine q trivial rfl rfl (pf (v := .bool (decide (((r1.length : Nat) : Int) = 0))) rfl rfl) ?_
        refine nl ?_
        refine nN ?_
        refine cdd (p := ((r1.length : Nat) : Int) = 0) rfl (fun h7 => ?_) (fun h7 => ?_)
        · refine sq ?_
          refine rg ?_
          refine q trivial rfl rfl (mv (v := .bool (rulesOk r1)) rfl) ?_
          refine q trivial rfl rfl (mv (v := .bool (rulesOk r1)) rfl) ?_
          refine q trivial rfl rfl (eqb (a := (rulesOk r1)) (b := (rulesOk r1)) tb4 rfl rfl) ?_
          refine q trivial rfl rfl (asg (v := .bool (decide ((rulesOk r1) = (rulesOk r1)))) rfl) ?_
          refine nl ?_
          refine nN ?_
          refine rt (tR ?_)
          refine fret (v := .bool (decide ((rulesOk r1) = (rulesOk r1)))) (.tmp .nil) rfl ?_
          have e2 : (decide ((rulesOk r1) = (rulesOk r1))) = true := by first | rfl | (simp; done) | (have hmd := Nat.mod_lt ds.length (show 0 < r1.length by omega); have hok : rulesOk r1 = true := (by assumption); have hx := rules_part1 (k := ds.length % r1.length) hok; have hy := rules_part2 (s := (r1.getD (ds.length % r1.length) rule0).1) (b := (r1.getD (ds.length % r1.length) rule0).2.2) (l := r1) hmd; first | (rw [hy]; rfl) | (have hz : rulesOk (r1.take (ds.length % r1.length) ++ r1.drop (ds.length % r1.length + 1)) = false := (by assumption); rw [hx] at hz; cases hz))
          exact ⟨(congrArg (Value.bool) e2), (hs3.pick [] rfl (by decide))⟩
        · refine sk ?_
          refine nN ?_
          refine sq ?_
          refine rg ?_
          refine q trivial rfl rfl (mv (v := .slice Ads ds.length cds) rfl) ?_
          refine q trivial rfl rfl (lnA (n := ds.length) sl22 rfl) ?_
          refine q trivial rfl rfl (mv (v := .slice A1 r1.length c1) rfl) ?_
          refine q trivial rfl rfl (lnA (n := r1.length) sl23 rfl) ?_
          refine q trivial rfl rfl (rem (a := ((ds.length : Nat) : Int)) (b := ((r1.length : Nat) : Int)) rfl rfl (by first | (omega) | (have hmd := Nat.mod_lt ds.length (show 0 < r1.length by omega); omega)) (by first | (omega) | (have hmd := Nat.mod_lt ds.length (show 0 < r1.length by omega); omega))) ?_
          refine q trivial rfl rfl (asg (v := .int .i64 (((ds.length : Nat) : Int) % ((r1.length : Nat) : Int))) rfl) ?_
          refine nl ?_
          refine nN ?_
          refine sq ?_
          refine ra (fun w' => ∃ L, SH w w' [] L ∧ True) mixed ?_
          have hs4 := hs3.drew
          refine tk (fuel := 4) (is := [1, 2, 3, 5, 6, 7, 8]) (.cons rfl (.cons rfl (.cons rfl (.cons rfl (.cons rfl (.cons rfl (.cons rfl (.nil)))))))) (by kernel_rfl) (by kernel_rfl) ⟨_, hs4, trivial⟩ ?_
          refine .op trivial rfl rfl (fun wq _ => mv (v := .slice A1 r1.length c1) rfl) ?_
          refine .op trivial rfl rfl (fun wq _ => mv (v := .int .i64 (((ds.length : Nat) : Int) % ((r1.length : Nat) : Int))) rfl) ?_
          refine .op trivial rfl rfl (fun wq _ => cuhf (zs := r1) (ds.length % r1.length) sl23 rfl rfl (by first | (first | omega | (simp; omega)) | (have hmd := Nat.mod_lt ds.length (show 0 < r1.length by omega); first | omega | (simp; omega))) (own_cap hs4 0 rfl).1) ?_
          refine .op trivial rfl rfl (fun wq _ => mv (v := .slice A1 r1.length c1) rfl) ?_
          refine .op trivial rfl rfl (fun wq _ => mv (v := .int .i64 (((ds.length : Nat) : Int) % ((r1.length : Nat) : Int))) rfl) ?_
          refine .op trivial rfl rfl (fun wq _ => add (a := ((ds.length : Nat) : Int) % ((r1.length : Nat) : Int)) (b := 1) rfl rfl (by first | (exact ⟨by omega, by omega⟩) | (have hmd := Nat.mod_lt ds.length (show 0 < r1.length by omega); exact ⟨by omega, by omega⟩))) ?_
          refine .op trivial rfl rfl (fun wq _ => culf (zs := r1) ((ds.length % r1.length) + 1) sl23 rfl rfl (by first | (first | omega | (simp; omega)) | (have hmd := Nat.mod_lt ds.length (show 0 < r1.length by omega); first | omega | (simp; omega)))) ?_
          refine .nil ?_
          refine a1 (i := 0) (by kernel_rfl) ?_
          refine one_ rfl ?_
          refine Go.PF.bs hs4 sl23 [] rfl (cs := []) (by kernel_rfl) rfl (by decide) (by decide) trivial rfl (fun b_9_0 w4 (hs5 : SH w w4 [] [.own A1 r1.length c1 27 3 (r1.flatMap gRule), .own (some ⟨b_9_0, 0, none⟩) (([] : List (List UInt8 × Int × Bool)).length) 0 27 3 (([] : List (List UInt8 × Int × Bool)).flatMap gRule)]) => ?_)
          refine nl (kq ⟨_, hs5, trivial⟩ ?_)
          refine a1 (i := 4) (by kernel_rfl) ?_
          refine one_ rfl ?_
          refine apf (g := gRule) (ys := ([] : List (List UInt8 × Int × Bool))) (zs := r1.take (ds.length % r1.length)) hs5 1 rfl sl23 rfl (by decide) rfl rfl (Sl.cuthf (g := gRule) (sz := 3) (fun _ => rfl) (hs5.sl0 0 rfl) (by first | (first | omega | (simp; omega)) | (have hmd := Nat.mod_lt ds.length (show 0 < r1.length by omega); first | omega | (simp; omega)))) (fun _ => rfl) (by unfold maxLen; first | (first | omega | (simp; omega)) | (have hmd := Nat.mod_lt ds.length (show 0 < r1.length by omega); first | omega | (simp; omega))) (by first | (first | omega | (simp; omega)) | (have hmd := Nat.mod_lt ds.length (show 0 < r1.length by omega); first | omega | (simp; omega))) trivial rfl (fun A_9_4 c_9_4 w5 (hs6 : SH w w5 [] [.own A1 r1.length c1 27 3 (r1.flatMap gRule), .own A_9_4 ((r1.take (ds.length % r1.length)).length) c_9_4 27 3 ((r1.take (ds.length % r1.length)).flatMap gRule)]) => ?_)
          refine nl (kq ⟨_, hs6, trivial⟩ ?_)
          refine a1 (i := 9) (by kernel_rfl) ?_
          refine one_ rfl ?_
          refine apf (g := gRule) (ys := r1.take (ds.length % r1.length)) (zs := r1.drop ((ds.length % r1.length) + 1)) hs6 1 rfl sl23 rfl (by decide) rfl rfl (Sl.cutlf (g := gRule) (sz := 3) (fun _ => rfl) (hs6.sl0 0 rfl) (by first | (first | omega | (simp; omega)) | (have hmd := Nat.mod_lt ds.length (show 0 < r1.length by omega); first | omega | (simp; omega)))) (fun _ => rfl) (by unfold maxLen; first | (first | omega | (simp; omega)) | (have hmd := Nat.mod_lt ds.length (show 0 < r1.length by omega); first | omega | (simp; omega))) (by first | (first | omega | (simp; omega)) | (have hmd := Nat.mod_lt ds.length (show 0 < r1.length by omega); first | omega | (simp; omega))) trivial rfl (fun A_9_9 c_9_9 w6 (hs7 : SH w w6 [] [.own A1 r1.length c1 27 3 (r1.flatMap gRule), .own A_9_9 (((r1.take (ds.length % r1.length)) ++ (r1.drop ((ds.length % r1.length) + 1))).length) c_9_9 27 3 (((r1.take (ds.length % r1.length)) ++ (r1.drop ((ds.length % r1.length) + 1))).flatMap gRule)]) => ?_)
          refine nl (kq ⟨_, hs7, trivial⟩ ?_)
          refine tk (fuel := 0) (is := [10]) (.cons rfl (.nil)) (by kernel_rfl) (by kernel_rfl) ⟨_, hs7, trivial⟩ ?_
          refine .op trivial rfl rfl (fun wq _ => asg (v := .slice A_9_9 (((r1.take (ds.length % r1.length)) ++ (r1.drop ((ds.length % r1.length) + 1))).length) c_9_9) rfl) ?_
          refine .nil ?_
          refine ad (by kernel_rfl) ?_
          refine nN ?_
          refine sq ?_
          refine rg ?_
          refine Go.PF.bs hs7 sl23 [] rfl (cs := []) (by kernel_rfl) rfl (by decide) (by decide) trivial rfl (fun b1 w7 (hs8 : SH w w7 [] [.own A1 r1.length c1 27 3 (r1.flatMap gRule), .own A_9_9 (((r1.take (ds.length % r1.length)) ++ (r1.drop ((ds.length % r1.length) + 1))).length) c_9_9 27 3 (((r1.take (ds.length % r1.length)) ++ (r1.drop ((ds.length % r1.length) + 1))).flatMap gRule), .own (some ⟨b1, 0, none⟩) (([] : List (List UInt8 × Int × Bool)).length) 0 27 3 (([] : List (List UInt8 × Int × Bool)).flatMap gRule)]) => ?_)
          refine q trivial rfl rfl (mv (v := .slice A1 r1.length c1) rfl) ?_
          refine apf (g := gRule) (ys := ([] : List (List UInt8 × Int × Bool))) (zs := r1) hs8 2 rfl sl23 rfl (by decide) rfl rfl (hs8.sl0 0 rfl) (fun _ => rfl) (by unfold maxLen; first | (first | omega | (simp; omega)) | (have hmd := Nat.mod_lt ds.length (show 0 < r1.length by omega); first | omega | (simp; omega))) (by first | (first | omega | (simp; omega)) | (have hmd := Nat.mod_lt ds.length (show 0 < r1.length by omega); first | omega | (simp; omega))) trivial rfl (fun A2 c2 w8 (hs9 : SH w w8 [] [.own A1 r1.length c1 27 3 (r1.flatMap gRule), .own A_9_9 (((r1.take (ds.length % r1.length)) ++ (r1.drop ((ds.length % r1.length) + 1))).length) c_9_9 27 3 (((r1.take (ds.length % r1.length)) ++ (r1.drop ((ds.length % r1.length) + 1))).flatMap gRule), .own A2 r1.length c2 27 3 (r1.flatMap gRule)]) => ?_)
          refine q trivial rfl rfl (asg (v := .slice A2 r1.length c2) rfl) ?_
          refine nl ?_
          refine nN ?_
          refine sq ?_
          refine rg ?_
          refine q trivial rfl rfl (mv (v := .slice A2 r1.length c2) rfl) ?_
          refine q trivial rfl rfl (mv (v := .int .i64 (((ds.length : Nat) : Int) % ((r1.length : Nat) : Int))) rfl) ?_
          obtain ⟨b2, rfl⟩ := own_form hs9 2 rfl (by first | (first | omega | (simp; omega)) | (have hmd := Nat.mod_lt ds.length (show 0 < r1.length by omega); first | omega | (simp; omega)))
          refine q trivial rfl rfl (ixo (ds.length % r1.length) sl23 rfl rfl (by first | (first | omega | (simp; omega)) | (have hmd := Nat.mod_lt ds.length (show 0 < r1.length by omega); first | omega | (simp; omega)))) ?_
          refine q trivial rfl rfl (fa 1 fo27_1 rfl) ?_
          refine stoff (g := gRule) (ys := r1) (o := ds.length % r1.length) (off := 1) (u := (((r1.getD (ds.length % r1.length) rule0).1, 65536, ((r1.getD (ds.length % r1.length) rule0).2.2)) : List UInt8 × Int × Bool)) (v := .int .i64 65536) rule0 (fun _ => rfl) hs9 2 rfl rfl rfl (by first | (first | omega | (simp; omega)) | (have hmd := Nat.mod_lt ds.length (show 0 < r1.length by omega); first | omega | (simp; omega))) (by first | (first | omega | (simp; omega)) | (have hmd := Nat.mod_lt ds.length (show 0 < r1.length by omega); first | omega | (simp; omega))) rfl rfl rfl one3 trivial (fun w9 (hs10 : SH w w9 [] [.own A1 r1.length c1 27 3 (r1.flatMap gRule), .own A_9_9 (((r1.take (ds.length % r1.length)) ++ (r1.drop ((ds.length % r1.length) + 1))).length) c_9_9 27 3 (((r1.take (ds.length % r1.length)) ++ (r1.drop ((ds.length % r1.length) + 1))).flatMap gRule), .own (some ⟨b2, 0, none⟩) r1.length c2 27 3 ((r1.set (ds.length % r1.length) (((r1.getD (ds.length % r1.length) rule0).1, 65536, ((r1.getD (ds.length % r1.length) rule0).2.2)) : List UInt8 × Int × Bool)).flatMap gRule)]) => ?_)
          refine nl ?_
          refine nN ?_
          refine sq ?_
          refine rg ?_
          refine q trivial rfl rfl (mv (v := .slice A_9_9 (((r1.take (ds.length % r1.length)) ++ (r1.drop ((ds.length % r1.length) + 1))).length) c_9_9) rfl) ?_
          refine cl trivial rfl (iRulesValid (Azs := A_9_9) (czs := c_9_9) (zs := (r1.take (ds.length % r1.length)) ++ (r1.drop ((ds.length % r1.length) + 1))) (w := _) (hzs := (hs10.sl0 1 rfl)) (hzs_e := (by exact fun u hu => Nat.le_trans (by first | exact p2 u hu | exact rules_cut p2 u hu | exact rules_set p2 (rules_at p2) u hu) (by decide)))) ?_
          rintro _ w10 ⟨rfl, hs11'⟩
          have hs11 : SH w w10 [] [.own A1 r1.length c1 27 3 (r1.flatMap gRule), .own A_9_9 (((r1.take (ds.length % r1.length)) ++ (r1.drop ((ds.length % r1.length) + 1))).length) c_9_9 27 3 (((r1.take (ds.length % r1.length)) ++ (r1.drop ((ds.length % r1.length) + 1))).flatMap gRule), .own (some ⟨b2, 0, none⟩) r1.length c2 27 3 ((r1.set (ds.length % r1.length) (((r1.getD (ds.length % r1.length) rule0).1, 65536, ((r1.getD (ds.length % r1.length) rule0).2.2)) : List UInt8 × Int × Bool)).flatMap gRule)] := hs10.call0 hs11'
          clear hs11'
          refine q trivial rfl rfl (mv (v := .bool (rulesOk ((r1.take (ds.length % r1.length)) ++ (r1.drop ((ds.length % r1.length) + 1))))) rfl) ?_
          refine spl (b := rulesOk ((r1.take (ds.length % r1.length)) ++ (r1.drop ((ds.length % r1.length) + 1)))) 64 rfl (fun h8 => ?_) (fun h8 => ?_)
          · refine q ⟨_, rfl, rfl⟩ rfl rfl (mv (v := .slice (some ⟨b2, 0, none⟩) r1.length c2) rfl) ?_
            have e3 : r1.length = (r1.set (ds.length % r1.length) (((r1.getD (ds.length % r1.length) rule0).1, 65536, ((r1.getD (ds.length % r1.length) rule0).2.2)) : List UInt8 × Int × Bool)).length := by first | rfl | (simp; done) | (simp; omega) | omega
            have hs12 : SH w w10 [] [.own A1 r1.length c1 27 3 (r1.flatMap gRule), .own A_9_9 (((r1.take (ds.length % r1.length)) ++ (r1.drop ((ds.length % r1.length) + 1))).length) c_9_9 27 3 (((r1.take (ds.length % r1.length)) ++ (r1.drop ((ds.length % r1.length) + 1))).flatMap gRule), .own (some ⟨b2, 0, none⟩) ((r1.set (ds.length % r1.length) (((r1.getD (ds.length % r1.length) rule0).1, 65536, ((r1.getD (ds.length % r1.length) rule0).2.2)) : List UInt8 × Int × Bool)).length) c2 27 3 ((r1.set (ds.length % r1.length) (((r1.getD (ds.length % r1.length) rule0).1, 65536, ((r1.getD (ds.length % r1.length) rule0).2.2)) : List UInt8 × Int × Bool)).flatMap gRule)] := (hs11.cast (lc rfl (lc rfl (lc (own_eqf (g := gRule) rfl e3 rfl rfl) rfl))))
            refine cl ⟨_, rfl, rfl⟩ rfl (Does.castA (lc (slv rfl e3.symm rfl) rfl) (iRulesValid (Azs := (some ⟨b2, 0, none⟩)) (czs := c2) (zs := r1.set (ds.length % r1.length) (((r1.getD (ds.length % r1.length) rule0).1, 65536, ((r1.getD (ds.length % r1.length) rule0).2.2)) : List UInt8 × Int × Bool)) (w := _) (hzs := (hs12.sl0 2 rfl)) (hzs_e := (by exact fun u hu => Nat.le_trans (by first | exact p2 u hu | exact rules_cut p2 u hu | exact rules_set p2 (rules_at p2) u hu) (by decide))))) ?_
            rintro _ w11 ⟨rfl, hs13'⟩
            have hs13 : SH w w11 [] [.own A1 r1.length c1 27 3 (r1.flatMap gRule), .own A_9_9 (((r1.take (ds.length % r1.length)) ++ (r1.drop ((ds.length % r1.length) + 1))).length) c_9_9 27 3 (((r1.take (ds.length % r1.length)) ++ (r1.drop ((ds.length % r1.length) + 1))).flatMap gRule), .own (some ⟨b2, 0, none⟩) ((r1.set (ds.length % r1.length) (((r1.getD (ds.length % r1.length) rule0).1, 65536, ((r1.getD (ds.length % r1.length) rule0).2.2)) : List UInt8 × Int × Bool)).length) c2 27 3 ((r1.set (ds.length % r1.length) (((r1.getD (ds.length % r1.length) rule0).1, 65536, ((r1.getD (ds.length % r1.length) rule0).2.2)) : List UInt8 × Int × Bool)).flatMap gRule)] := hs12.call0 hs13'
            clear hs13'
            refine q ⟨_, rfl, rfl⟩ rfl rfl (nt (b := rulesOk (r1.set (ds.length % r1.length) (((r1.getD (ds.length % r1.length) rule0).1, 65536, ((r1.getD (ds.length % r1.length) rule0).2.2)) : List UInt8 × Int × Bool))) rfl) ?_
            refine q trivial rfl rfl (pt (v := .bool (!(rulesOk (r1.set (ds.length % r1.length) (((r1.getD (ds.length % r1.length) rule0).1, 65536, ((r1.getD (ds.length % r1.length) rule0).2.2)) : List UInt8 × Int × Bool))))) rfl rfl) ?_
            refine q trivial rfl rfl (asg (v := .bool (!(rulesOk (r1.set (ds.length % r1.length) (((r1.getD (ds.length % r1.length) rule0).1, 65536, ((r1.getD (ds.length % r1.length) rule0).2.2)) : List UInt8 × Int × Bool))))) rfl) ?_
            refine nl ?_
            refine nN ?_
            refine rt ?_
            refine fret (v := .bool (!(rulesOk (r1.set (ds.length % r1.length) (((r1.getD (ds.length % r1.length) rule0).1, 65536, ((r1.getD (ds.length % r1.length) rule0).2.2)) : List UInt8 × Int × Bool))))) (.tmp .nil) rfl ?_
            have e4 : (!(rulesOk (r1.set (ds.length % r1.length) (((r1.getD (ds.length % r1.length) rule0).1, 65536, ((r1.getD (ds.length % r1.length) rule0).2.2)) : List UInt8 × Int × Bool)))) = true := by first | rfl | (simp; done) | (have hmd := Nat.mod_lt ds.length (show 0 < r1.length by omega); have hok : rulesOk r1 = true := (by assumption); have hx := rules_part1 (k := ds.length % r1.length) hok; have hy := rules_part2 (s := (r1.getD (ds.length % r1.length) rule0).1) (b := (r1.getD (ds.length % r1.length) rule0).2.2) (l := r1) hmd; first | (rw [hy]; rfl) | (have hz : rulesOk (r1.take (ds.length % r1.length) ++ r1.drop (ds.length % r1.length + 1)) = false := (by assumption); rw [hx] at hz; cases hz))
            exact ⟨(congrArg (Value.bool) e4), (hs13.pick [] rfl (by decide))⟩
          · refine gk false rfl rfl rfl rfl rfl ?_
            refine gk false rfl rfl rfl rfl rfl ?_
            refine gk false rfl rfl rfl rfl rfl ?_
            refine q trivial rfl rfl (pf (v := .bool false) rfl rfl) ?_
            refine q trivial rfl rfl (asg (v := .bool false) rfl) ?_
            refine nl ?_
            refine nN ?_
            refine rt ?_
            refine fret (v := .bool false) (.tmp .nil) rfl ?_
            have e5 : false = true := by first | rfl | (simp; done) | (have hmd := Nat.mod_lt ds.length (show 0 < r1.length by omega); have hok : rulesOk r1 = true := (by assumption); have hx := rules_part1 (k := ds.length % r1.length) hok; have hy := rules_part2 (s := (r1.getD (ds.length % r1.length) rule0).1) (b := (r1.getD (ds.length % r1.length) rule0).2.2) (l := r1) hmd; first | (rw [hy]; rfl) | (have hz : rulesOk (r1.take (ds.length % r1.length) ++ r1.drop (ds.length % r1.length + 1)) = false := (by assumption); rw [hx] at hz; cases hz))
            exact ⟨(congrArg (Value.bool) e5), (hs11.pick [] rfl (by decide))⟩

end Go.Proofs.Ytaclnkdhmfkgcaa
