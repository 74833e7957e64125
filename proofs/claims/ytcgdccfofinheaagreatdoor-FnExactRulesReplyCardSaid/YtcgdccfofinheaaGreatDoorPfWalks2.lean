/-
  Part of the proofs over this seat: what each function of the program computes, function by function (the text is written by a program of this hand-in's own).
  Conditions: each theorem states its own.
-/
import Derived.Test.YtcgdccfofinheaaGreatDoorPfWalks
namespace Go.Proofs.YtcgdccfofinheaaGreatDoor
open Go.PF
set_option maxRecDepth 100000
set_option linter.unusedSimpArgs false
set_option linter.unusedVariables false

theorem sL1Text (s : List UInt8) (w : World) (hs_n : s.length ≤ 2147483648) : Does Tryz.prog 65 [Str s] w (fun v w' => ∃ Ar : Option Addr, ∃ cr : Nat, v = .slice Ar (textI s).length cr ∧ SH w w' [] [.own Ar ((textI s).length) cr 3 1 ((textI s).map I)]) := by
 refine fn_enter (N := 20) Tryz.func65 rfl (by kernel_rfl) rfl rfl rfl ?_
 have hs0 : SH w w [] [] := SH.refl w []
 refine sq ?_
 refine rg ?_
 refine q trivial rfl rfl (asg (v := ns) rfl) ?_
 refine nl ?_
 refine nN ?_
 refine sq ?_
 refine rg ?_
 refine bsk hs0 sl23 [] [] trivial rfl (fun b1 w1 (hs1 : SH w w1 [] [oI b1 ([] : List Int) 0 3]) => ?_)
 refine q trivial rfl rfl (asg (v := sb b1 (([] : List Int).length) 0) rfl) ?_
 refine nl ?_
 refine nN ?_
 refine sq ?_
 refine sq ?_
 refine rg ?_
 refine q trivial rfl rfl (asg (v := I 0) rfl) ?_
 refine nl ?_
 refine nN ?_
 refine bl ?_
 have e1 : ([] : List Int) = (textI s).take 0 := by simp
 have e2 : ([] : List Int).length = ((textI s).take 0).length := by rw [e1]
 refine lp (σ := (Option Addr) × Nat × Nat) (fun ⟨Ag3, cg3, k⟩ f w' => Has f [(0, Str s), (3, .slice Ag3 (((textI s).take k).length) cg3), (4, I ((k : Nat) : Int))] ∧ (k ≤ s.length) ∧ SH w w' [] [.own Ag3 (((textI s).take k).length) cg3 3 1 (((textI s).take k).map I)]) (fun ⟨Ag3, cg3, k⟩ => s.length - k) ((some ⟨b1, 0, none⟩), 0, 0) ⟨⟨rfl, (show (.slice (some ⟨b1, 0, none⟩) (([] : List Int).length) 0 : Value) = .slice (some ⟨b1, 0, none⟩) (((textI s).take 0).length) 0 from slv rfl e2 rfl), rfl, trivial⟩, (by simp), (hs1.cast (lc (own_eq (g := I) rfl e2 rfl e1) rfl))⟩ ?_
 rintro ⟨Ag3, cg3, k⟩ f w2 ⟨hf, hk, hs2⟩
 obtain ⟨g1, rfl⟩ := has_upd hf
 clear hf
 refine sq ?_
 refine sq ?_
 refine rg ?_
 refine q trivial rfl rfl (mv (v := I ((k : Nat) : Int)) rfl) ?_
 refine q trivial rfl rfl (mv (v := Str s) rfl) ?_
 refine q trivial rfl rfl (lnS (l := s) st9 rfl) ?_
 refine q trivial rfl rfl (lss (k := .i64) (a := ((k : Nat) : Int)) (b := ((s.length : Nat) : Int)) rfl rfl) ?_
 refine nl ?_
 refine nN ?_
 refine cdd (p := ((k : Nat) : Int) < ((s.length : Nat) : Int)) rfl (fun h1 => ?_) (fun h1 => ?_)
 · refine sk ?_
   refine nN ?_
   refine sq ?_
   refine bl ?_
   refine rg ?_
   refine q trivial rfl rfl (mv (v := .slice Ag3 (((textI s).take k).length) cg3) rfl) ?_
   refine q trivial rfl rfl (mv (v := Str s) rfl) ?_
   refine q trivial rfl rfl (mv (v := I ((k : Nat) : Int)) rfl) ?_
   refine q trivial rfl rfl (ixs (l := s) k st9 rfl rfl (by first | (first | omega | (simp; done) | (simp; omega)) | (have htl := textI_len s; first | omega | (simp; done) | (simp; omega)))) ?_
   refine q trivial rfl rfl (cvI (a := (((s.getD k 0).toNat : Nat) : Int)) (s := .u8) ti5 ti3 rfl (by have := u8_bd ((s.getD k 0)); exact ⟨by omega, by omega⟩)) ?_
   refine bsk hs2 sl23 [I (((s.getD k 0).toNat : Nat) : Int)] [I (((s.getD k 0).toNat : Nat) : Int)] trivial rfl (fun b2 w3 (hs3 : SH w w3 [] [.own Ag3 (((textI s).take k).length) cg3 3 1 (((textI s).take k).map I), oI b2 ([(((s.getD k 0).toNat : Nat) : Int)] : List Int) 1 3]) => ?_)
   refine apm (g := I) (ys := (textI s).take k) (zs := ([(((s.getD k 0).toNat : Nat) : Int)] : List Int)) hs3 0 rfl sl23 rfl rfl rfl (hs3.sl0 1 rfl) (fun _ => rfl) (by unfold maxLen; have htl := textI_len s; simp only [List.length_take, List.length_cons, List.length_nil]; omega) (by have htl := textI_len s; simp only [List.length_take, List.length_cons, List.length_nil]; omega) trivial rfl (fun A1 c1 w4 (hs4 : SH w w4 [] [oI b2 ([(((s.getD k 0).toNat : Nat) : Int)] : List Int) 1 3, .own A1 ((((textI s).take k) ++ ([(((s.getD k 0).toNat : Nat) : Int)] : List Int)).length) c1 3 1 ((((textI s).take k) ++ ([(((s.getD k 0).toNat : Nat) : Int)] : List Int)).map I)]) => ?_)
   refine q trivial rfl rfl (asg (v := .slice A1 ((((textI s).take k) ++ ([(((s.getD k 0).toNat : Nat) : Int)] : List Int)).length) c1) rfl) ?_
   refine nl ?_
   refine bN ?_
   refine nN ?_
   refine rg ?_
   refine q trivial rfl rfl (mv (v := I ((k : Nat) : Int)) rfl) ?_
   refine q trivial rfl rfl (add (a := ((k : Nat) : Int)) (b := 1) rfl rfl (by first | (exact ⟨by omega, by omega⟩) | (have htl := textI_len s; exact ⟨by omega, by omega⟩))) ?_
   refine q trivial rfl rfl (asg (v := I (((k : Nat) : Int) + 1)) rfl) ?_
   refine nl ?_
   refine nN ?_
   have e3 : ((textI s).take k) ++ ([(((s.getD k 0).toNat : Nat) : Int)] : List Int) = (textI s).take (k + 1) := by exact textI_app (by omega)
   have e4 : (((textI s).take k) ++ ([(((s.getD k 0).toNat : Nat) : Int)] : List Int)).length = ((textI s).take (k + 1)).length := by rw [e3]
   refine ⟨(A1, c1, k + 1), ⟨⟨rfl, (show (.slice A1 ((((textI s).take k) ++ ([(((s.getD k 0).toNat : Nat) : Int)] : List Int)).length) c1 : Value) = .slice A1 (((textI s).take (k + 1)).length) c1 from slv rfl e4 rfl), rfl, trivial⟩, (by omega), ((hs4.pick [1] rfl (by decide)).cast (lc (own_eq (g := I) rfl e4 rfl e3) rfl))⟩, ?_⟩
   show s.length - (k + 1) < s.length - k
   omega
 · refine ex (tE (tE (bE ?_)))
   refine nN ?_
   refine sq ?_
   refine rg ?_
   refine q trivial rfl rfl (mv (v := .slice Ag3 (((textI s).take k).length) cg3) rfl) ?_
   refine q trivial rfl rfl (asg (v := .slice Ag3 (((textI s).take k).length) cg3) rfl) ?_
   refine nl ?_
   refine nN ?_
   refine rt ?_
   refine fret (v := .slice Ag3 (((textI s).take k).length) cg3) (.tmp .nil) rfl ?_
   have e5 : (textI s).take k = textI s := by exact textI_all (by omega)
   have e6 : ((textI s).take k).length = (textI s).length := by exact congrArg List.length e5
   exact ⟨Ag3, cg3, (slv rfl e6 rfl), (hs2.cast (lc (own_eq (g := I) rfl e6 rfl e5) rfl))⟩

theorem iNumberBytes (n : Int) (w : World) (hn : 0 ≤ n ∧ n ≤ 65535) : Does Tryz.prog 62 [I n, I 2] w (fun v w' => ∃ Ar : Option Addr, ∃ cr : Nat, v = .slice Ar (numB n).length cr ∧ SH w w' [] [.own Ar ((numB n).length) cr 3 1 ((numB n).map I)]) := by
 refine fn_enter (N := 27) Tryz.func62 rfl (by kernel_rfl) rfl rfl rfl ?_
 have hs0 : SH w w [] [] := SH.refl w []
 refine sq ?_
 refine rg ?_
 refine q trivial rfl rfl (asg (v := ns) rfl) ?_
 refine nl ?_
 refine nN ?_
 refine sq ?_
 refine rg ?_
 refine q trivial rfl rfl (mv (v := I 2) rfl) ?_
 refine mkm (g := I) (z := 0) (n := 2) hs0 sl23 rfl rfl rfl (by omega) (by unfold maxLen; omega) trivial rfl (fun b1 w1 (hs1 : SH w w1 [] [oI b1 (List.replicate 2 (0 : Int)) 2 3]) => ?_)
 refine q trivial rfl rfl (asg (v := sb b1 ((List.replicate 2 (0 : Int)).length) 2) rfl) ?_
 refine nl ?_
 refine nN ?_
 refine sq ?_
 refine sq ?_
 refine rg ?_
 refine q trivial rfl rfl (mv (v := sb b1 ((List.replicate 2 (0 : Int)).length) 2) rfl) ?_
 refine q trivial rfl rfl (lnA (n := (List.replicate 2 (0 : Int)).length) sl23 rfl) ?_
 refine q trivial rfl rfl (mv (v := I 0) rfl) ?_
 refine nl ?_
 refine nN ?_
 refine bl ?_
 have e1 : List.replicate 2 (0 : Int) = (numB n).take 0 ++ List.replicate (2 - 0) (0 : Int) := by simp
 have e2 : (List.replicate 2 (0 : Int)).length = 2 := by first | rfl | (simp; done) | (simp; omega) | omega
 refine lp (σ := (Option Addr) × Nat × Nat) (fun ⟨Ag5, cg5, k⟩ f w' => Has f [(0, I n), (1, I 2), (5, .slice Ag5 2 cg5), (10, I (((List.replicate 2 (0 : Int)).length : Nat) : Int)), (11, I ((k : Nat) : Int))] ∧ (k ≤ 2) ∧ SH w w' [] [.own Ag5 2 cg5 3 1 (((numB n).take k ++ List.replicate (2 - k) (0 : Int)).map I)]) (fun ⟨Ag5, cg5, k⟩ => 2 - k) ((some ⟨b1, 0, none⟩), 2, 0) ⟨⟨rfl, rfl, (show (.slice (some ⟨b1, 0, none⟩) ((List.replicate 2 (0 : Int)).length) 2 : Value) = .slice (some ⟨b1, 0, none⟩) 2 2 from slv rfl e2 rfl), rfl, rfl, trivial⟩, (by simp), (hs1.cast (lc (own_eq (g := I) rfl e2 rfl e1) rfl))⟩ ?_
 rintro ⟨Ag5, cg5, k⟩ f w2 ⟨hf, hk, hs2⟩
 obtain ⟨g1, rfl⟩ := has_upd hf
 clear hf
 refine sq ?_
 refine rg ?_
 refine q trivial rfl rfl (lss (k := .i64) (a := ((k : Nat) : Int)) (b := (((List.replicate 2 (0 : Int)).length : Nat) : Int)) rfl rfl) ?_
 refine nl ?_
 refine nN ?_
 refine sq ?_
 refine cdd (p := ((k : Nat) : Int) < (((List.replicate 2 (0 : Int)).length : Nat) : Int)) rfl (fun h1 => ?_) (fun h1 => ?_)
 · refine sk ?_
   refine nN ?_
   refine sq ?_
   refine bl ?_
   refine sq ?_
   refine rg ?_
   refine q trivial rfl rfl (mv (v := I ((k : Nat) : Int)) rfl) ?_
   refine q trivial rfl rfl (asg (v := I ((k : Nat) : Int)) rfl) ?_
   refine nl ?_
   refine nN ?_
   refine rg ?_
   refine q trivial rfl rfl (mv (v := .slice Ag5 2 cg5) rfl) ?_
   refine q trivial rfl rfl (mv (v := I ((k : Nat) : Int)) rfl) ?_
   refine q trivial rfl rfl (mv (v := I n) rfl) ?_
   refine q trivial rfl rfl (mv (v := I 2) rfl) ?_
   refine q trivial rfl rfl (sub (a := 2) (b := 1) rfl rfl (by exact ⟨by omega, by omega⟩)) ?_
   refine q trivial rfl rfl (mv (v := I ((k : Nat) : Int)) rfl) ?_
   refine q trivial rfl rfl (sub (a := (2 : Int) - 1) (b := ((k : Nat) : Int)) rfl rfl (by exact ⟨by omega, by omega⟩)) ?_
   refine q trivial rfl rfl (mul (a := 8) (b := ((2 : Int) - 1) - ((k : Nat) : Int)) rfl rfl (by exact ⟨by omega, by omega⟩)) ?_
   refine q trivial rfl rfl (shr (a := n) (b := 8 * (((2 : Int) - 1) - ((k : Nat) : Int))) rfl rfl (by omega) (by omega)) ?_
   refine q trivial rfl rfl (and255 (a := n / 2 ^ (8 * (((2 : Int) - 1) - ((k : Nat) : Int))).toNat) rfl rfl (by first | exact num_and hn | exact num_and2 hn) (by first | exact num_and hn | exact num_and2 hn)) ?_
   obtain ⟨b2, rfl⟩ := own_form hs2 0 rfl (by first | omega | (simp; done) | (simp; omega))
   refine q trivial rfl rfl (ixo k sl23 rfl rfl (by first | omega | (simp; done) | (simp; omega))) ?_
   refine stomn (g := I) (ys := (numB n).take k ++ List.replicate (2 - k) (0 : Int)) (o := k) (u := (n / 2 ^ (8 * (((2 : Int) - 1) - ((k : Nat) : Int))).toNat) % 256) hs2 0 rfl rfl rfl rfl (by first | omega | (simp; done) | (simp; omega)) rfl one3 trivial (fun w3 (hs3 : SH w w3 [] [.own (some ⟨b2, 0, none⟩) 2 cg5 3 1 ((((numB n).take k ++ List.replicate (2 - k) (0 : Int)).set k ((n / 2 ^ (8 * (((2 : Int) - 1) - ((k : Nat) : Int))).toNat) % 256)).map I)]) => ?_)
   refine nl ?_
   refine bN ?_
   refine nN ?_
   refine rg ?_
   refine q trivial rfl rfl (add (a := ((k : Nat) : Int)) (b := 1) rfl rfl (by exact ⟨by omega, by omega⟩)) ?_
   refine q trivial rfl rfl (mv (v := I (((k : Nat) : Int) + 1)) rfl) ?_
   refine nl ?_
   refine nN ?_
   have e3 : ((numB n).take k ++ List.replicate (2 - k) (0 : Int)).set k ((n / 2 ^ (8 * (((2 : Int) - 1) - ((k : Nat) : Int))).toNat) % 256) = (numB n).take (k + 1) ++ List.replicate (2 - (k + 1)) (0 : Int) := by exact numB_set (by omega)
   refine ⟨((some ⟨b2, 0, none⟩), cg5, k + 1), ⟨⟨rfl, rfl, rfl, rfl, rfl, trivial⟩, (by omega), (hs3.cast (lc (own_eq (g := I) rfl rfl rfl e3) rfl))⟩, ?_⟩
   show 2 - (k + 1) < 2 - k
   omega
 · refine ex (tE (tE (bE ?_)))
   refine nN ?_
   refine sq ?_
   refine rg ?_
   refine q trivial rfl rfl (mv (v := .slice Ag5 2 cg5) rfl) ?_
   refine q trivial rfl rfl (asg (v := .slice Ag5 2 cg5) rfl) ?_
   refine nl ?_
   refine nN ?_
   refine rt ?_
   refine fret (v := .slice Ag5 2 cg5) (.tmp .nil) rfl ?_
   have e4 : (numB n).take k ++ List.replicate (2 - k) (0 : Int) = numB n := by have : k = 2 := (by omega); subst this; simp [numB]
   have e5 : 2 = (numB n).length := by exact (show 2 = ((numB n).take k ++ List.replicate (2 - k) (0 : Int)).length by (simp [numB]; omega)).trans (congrArg List.length e4)
   exact ⟨Ag5, cg5, (slv rfl e5 rfl), (hs2.cast (lc (own_eq (g := I) rfl e5 rfl e4) rfl))⟩

theorem sL1Number (n : Int) (w : World) (hn : 0 ≤ n ∧ n ≤ 65535) : Does Tryz.prog 66 [I n, I 2] w (fun v w' => ∃ Ar : Option Addr, ∃ cr : Nat, v = .slice Ar (numB n).length cr ∧ SH w w' [] [.own Ar ((numB n).length) cr 3 1 ((numB n).map I)]) := by
 refine fn_enter (N := 23) Tryz.func66 rfl (by kernel_rfl) rfl rfl rfl ?_
 have hs0 : SH w w [] [] := SH.refl w []
 refine sq ?_
 refine rg ?_
 refine q trivial rfl rfl (asg (v := ns) rfl) ?_
 refine nl ?_
 refine nN ?_
 refine sq ?_
 refine rg ?_
 refine q trivial rfl rfl (mv (v := I 2) rfl) ?_
 refine mkm (g := I) (z := 0) (n := 2) hs0 sl23 rfl rfl rfl (by omega) (by unfold maxLen; omega) trivial rfl (fun b1 w1 (hs1 : SH w w1 [] [oI b1 (List.replicate 2 (0 : Int)) 2 3]) => ?_)
 refine q trivial rfl rfl (asg (v := sb b1 ((List.replicate 2 (0 : Int)).length) 2) rfl) ?_
 refine nl ?_
 refine nN ?_
 refine sq ?_
 refine sq ?_
 refine rg ?_
 refine q trivial rfl rfl (mv (v := I 2) rfl) ?_
 refine q trivial rfl rfl (sub (a := 2) (b := 1) rfl rfl (by exact ⟨by omega, by omega⟩)) ?_
 refine q trivial rfl rfl (asg (v := I ((2 : Int) - 1)) rfl) ?_
 refine nl ?_
 refine nN ?_
 refine bl ?_
 have e1 : List.replicate 2 (0 : Int) = numR n 0 := by simp [numR]
 have e2 : (List.replicate 2 (0 : Int)).length = 2 := by first | rfl | (simp; done) | (simp; omega) | omega
 refine lp (σ := (Option Addr) × Nat × Nat × Int) (fun ⟨Ag5, cg5, k, m⟩ f w' => Has f [(0, I m), (5, .slice Ag5 2 cg5), (6, I (1 - ((k : Nat) : Int)))] ∧ (k ≤ 2) ∧ (m = numM n k) ∧ (0 ≤ m ∧ m ≤ 65535) ∧ SH w w' [] [.own Ag5 2 cg5 3 1 ((numR n k).map I)]) (fun ⟨Ag5, cg5, k, m⟩ => 2 - k) ((some ⟨b1, 0, none⟩), 2, 0, n) ⟨⟨rfl, (show (.slice (some ⟨b1, 0, none⟩) ((List.replicate 2 (0 : Int)).length) 2 : Value) = .slice (some ⟨b1, 0, none⟩) 2 2 from slv rfl e2 rfl), (show (I ((2 : Int) - 1) : Value) = I (1 - ((0 : Nat) : Int)) from congrArg (Value.int .i64) (by simp)), trivial⟩, (by simp), (by simp [numM]), (hn), (hs1.cast (lc (own_eq (g := I) rfl e2 rfl e1) rfl))⟩ ?_
 rintro ⟨Ag5, cg5, k, m⟩ f w2 ⟨hf, hk, hm, hm2, hs2⟩
 obtain ⟨g1, rfl⟩ := has_upd hf
 clear hf
 refine sq ?_
 refine sq ?_
 refine rg ?_
 refine q trivial rfl rfl (mv (v := I (1 - ((k : Nat) : Int))) rfl) ?_
 refine q trivial rfl rfl (geq (k := .i64) (a := 1 - ((k : Nat) : Int)) (b := 0) rfl rfl) ?_
 refine nl ?_
 refine nN ?_
 refine cdd (p := (0 : Int) ≤ (1 - ((k : Nat) : Int))) rfl (fun h1 => ?_) (fun h1 => ?_)
 · refine sk ?_
   refine nN ?_
   refine sq ?_
   refine bl ?_
   refine sq ?_
   refine rg ?_
   refine q trivial rfl rfl (mv (v := .slice Ag5 2 cg5) rfl) ?_
   refine q trivial rfl rfl (mv (v := I (1 - ((k : Nat) : Int))) rfl) ?_
   refine q trivial rfl rfl (mv (v := I m) rfl) ?_
   refine q trivial rfl rfl (rem (a := m) (b := 256) rfl rfl (by omega) (by omega)) ?_
   obtain ⟨b2, rfl⟩ := own_form hs2 0 rfl (by first | omega | (simp; done) | (simp; omega))
   refine q trivial rfl rfl (ixo ((1 - ((k : Nat) : Int)).toNat) sl23 rfl (ieq (x := 1 - ((k : Nat) : Int)) (by omega)) (by first | omega | (simp; done) | (simp; omega))) ?_
   refine stomn (g := I) (ys := numR n k) (o := (1 - ((k : Nat) : Int)).toNat) (u := m % 256) hs2 0 rfl rfl rfl rfl (by first | omega | (simp; done) | (simp; omega)) rfl one3 trivial (fun w3 (hs3 : SH w w3 [] [.own (some ⟨b2, 0, none⟩) 2 cg5 3 1 (((numR n k).set ((1 - ((k : Nat) : Int)).toNat) (m % 256)).map I)]) => ?_)
   refine nl ?_
   refine nN ?_
   refine rg ?_
   refine q trivial rfl rfl (mv (v := I m) rfl) ?_
   refine q trivial rfl rfl (quo (a := m) (b := 256) rfl rfl (by omega) (by omega) (by omega)) ?_
   refine q trivial rfl rfl (asg (v := I (m / 256)) rfl) ?_
   refine nl ?_
   refine bN ?_
   refine nN ?_
   refine rg ?_
   refine q trivial rfl rfl (mv (v := I (1 - ((k : Nat) : Int))) rfl) ?_
   refine q trivial rfl rfl (sub (a := 1 - ((k : Nat) : Int)) (b := 1) rfl rfl (by exact ⟨by omega, by omega⟩)) ?_
   refine q trivial rfl rfl (asg (v := I ((1 - ((k : Nat) : Int)) - 1)) rfl) ?_
   refine nl ?_
   refine nN ?_
   have e3 : (numR n k).set ((1 - ((k : Nat) : Int)).toNat) (m % 256) = numR n (k + 1) := by rw [hm]; exact numR_step (by omega) (by omega)
   refine ⟨((some ⟨b2, 0, none⟩), cg5, k + 1, m / 256), ⟨⟨rfl, rfl, (show (I ((1 - ((k : Nat) : Int)) - 1) : Value) = I (1 - (((k + 1) : Nat) : Int)) from congrArg (Value.int .i64) (by omega)), trivial⟩, (by omega), (by rw [hm]; exact numM_step (by omega)), (by omega), (hs3.cast (lc (own_eq (g := I) rfl rfl rfl e3) rfl))⟩, ?_⟩
   show 2 - (k + 1) < 2 - k
   omega
 · refine ex (tE (tE (bE ?_)))
   refine nN ?_
   refine sq ?_
   refine rg ?_
   refine q trivial rfl rfl (mv (v := .slice Ag5 2 cg5) rfl) ?_
   refine q trivial rfl rfl (asg (v := .slice Ag5 2 cg5) rfl) ?_
   refine nl ?_
   refine nN ?_
   refine rt ?_
   refine fret (v := .slice Ag5 2 cg5) (.tmp .nil) rfl ?_
   have e4 : numR n k = numB n := by have : k = 2 := (by omega); subst this; rfl
   have e5 : 2 = (numB n).length := by exact (show 2 = (numR n k).length by (have : k = 2 := (by omega); subst this; rfl)).trans (congrArg List.length e4)
   exact ⟨Ag5, cg5, (slv rfl e5 rfl), (hs2.cast (lc (own_eq (g := I) rfl e5 rfl e4) rfl))⟩

set_option maxHeartbeats 8000000 in
theorem iAddressBytes (ak : Int) {Aaq : Option Addr} {caq : Nat} (aq : List Int) (an : List UInt8) (apt : Int) (w : World) (haq : Sl w [] 1 Aaq aq.length caq (aq.map I)) (han_n : an.length ≤ 1099511627776) (hok : addrOk ak aq an apt = true) : Does Tryz.prog 48 [.agg #[I ak, .slice Aaq aq.length caq, Str an, I apt]] w (fun v w' => ∃ Ar : Option Addr, ∃ cr : Nat, v = .slice Ar (addrB ak aq an apt).length cr ∧ SH w w' [] [.own Ar ((addrB ak aq an apt).length) cr 3 1 ((addrB ak aq an apt).map I)]) := by
 refine fn_enter (N := 29) Tryz.func48 rfl (by kernel_rfl) rfl rfl rfl ?_
 have hs0 : SH w w [] [] := SH.refl w []
 have haq_m : aq.length ≤ 9223372036854775807 := Nat.le_trans haq.cap haq.capMax
 refine sq ?_
 refine rg ?_
 refine bx (v := .agg #[I ak, .slice Aaq aq.length caq, Str an, I apt]) (cs := [I ak, .slice Aaq aq.length caq, Str an, I apt]) hs0 rfl rfl trivial rfl (fun b1 w1 (hs1 : SH w w1 [] [.blk b1 34 [I ak, .slice Aaq aq.length caq, Str an, I apt]]) => ?_)
 refine q trivial rfl rfl (asg (v := ns) rfl) ?_
 refine nl ?_
 refine nN ?_
 refine sq ?_
 refine rg ?_
 refine q trivial rfl rfl (fa 0 fo34_0 rfl) ?_
 refine q trivial rfl rfl (ld (v := I ak) hs1 0 rfl rfl rfl one3) ?_
 refine bsk hs1 sl23 [I ak] [I ak] trivial rfl (fun b2 w2 (hs2 : SH w w2 [] [.blk b1 34 [I ak, .slice Aaq aq.length caq, Str an, I apt], oI b2 ([ak] : List Int) 1 3]) => ?_)
 refine q trivial rfl rfl (asg (v := sb b2 (([ak] : List Int).length) 1) rfl) ?_
 refine nl ?_
 refine nN ?_
 refine sq ?_
 refine sq ?_
 refine rg ?_
 refine q trivial rfl rfl (fa 0 fo34_0 rfl) ?_
 refine q trivial rfl rfl (ld (v := I ak) hs2 0 rfl rfl rfl one3) ?_
 refine q trivial rfl rfl (eqi (k := .i64) (a := ak) (b := 1) rfl rfl) ?_
 refine nl ?_
 refine nN ?_
 refine cdd (p := ak = 1) rfl (fun h1 => ?_) (fun h1 => ?_)
 · refine rg ?_
   refine q trivial rfl rfl (mv (v := sb b2 (([ak] : List Int).length) 1) rfl) ?_
   refine q trivial rfl rfl (fa 1 fo34_1 rfl) ?_
   refine q trivial rfl rfl (ld (v := .slice Aaq aq.length caq) hs2 0 rfl rfl rfl one23) ?_
   refine apm (g := I) (ys := ([ak] : List Int)) (zs := aq) hs2 1 rfl sl23 rfl rfl rfl (haq.up0 hs2) (fun _ => rfl) (by unfold maxLen; have haf := addrOk_fit hok; have htl := textI_len an; have hnb : (numB apt).length = 2 := rfl; simp only [List.length_append, List.length_cons, List.length_nil]; omega) (by have haf := addrOk_fit hok; have htl := textI_len an; have hnb : (numB apt).length = 2 := rfl; simp only [List.length_append, List.length_cons, List.length_nil]; omega) trivial rfl (fun A1 c1 w3 (hs3 : SH w w3 [] [.blk b1 34 [I ak, .slice Aaq aq.length caq, Str an, I apt], .own A1 ((([ak] : List Int) ++ aq).length) c1 3 1 ((([ak] : List Int) ++ aq).map I)]) => ?_)
   refine q trivial rfl rfl (asg (v := .slice A1 ((([ak] : List Int) ++ aq).length) c1) rfl) ?_
   refine nl ?_
   refine nN ?_
   refine sq ?_
   refine rg ?_
   refine q trivial rfl rfl (mv (v := .slice A1 ((([ak] : List Int) ++ aq).length) c1) rfl) ?_
   refine q trivial rfl rfl (fa 3 fo34_3 rfl) ?_
   refine q trivial rfl rfl (ld (v := I apt) hs3 0 rfl rfl rfl one3) ?_
   refine cl trivial rfl (iNumberBytes (n := apt) (w := _) (hn := (by first | (first | omega | assumption | (simp; done) | (simp; omega)) | (have haf := addrOk_fit hok; have htl := textI_len an; have hnb : (numB apt).length = 2 := rfl; first | omega | assumption | (simp; done) | (simp; omega))))) ?_
   rintro _ w4 ⟨A2, c2, rfl, hs4'⟩
   have hs4 : SH w w4 [] [.blk b1 34 [I ak, .slice Aaq aq.length caq, Str an, I apt], .own A1 ((([ak] : List Int) ++ aq).length) c1 3 1 ((([ak] : List Int) ++ aq).map I), .own A2 ((numB apt).length) c2 3 1 ((numB apt).map I)] := hs3.call0 hs4'
   clear hs4'
   refine apm (g := I) (ys := ([ak] : List Int) ++ aq) (zs := numB apt) hs4 1 rfl sl23 rfl rfl rfl (hs4.sl0 2 rfl) (fun _ => rfl) (by unfold maxLen; have haf := addrOk_fit hok; have htl := textI_len an; have hnb : (numB apt).length = 2 := rfl; simp only [List.length_append, List.length_cons, List.length_nil]; omega) (by have haf := addrOk_fit hok; have htl := textI_len an; have hnb : (numB apt).length = 2 := rfl; simp only [List.length_append, List.length_cons, List.length_nil]; omega) trivial rfl (fun A3 c3 w5 (hs5 : SH w w5 [] [.blk b1 34 [I ak, .slice Aaq aq.length caq, Str an, I apt], .own A2 ((numB apt).length) c2 3 1 ((numB apt).map I), .own A3 (((([ak] : List Int) ++ aq) ++ (numB apt)).length) c3 3 1 (((([ak] : List Int) ++ aq) ++ (numB apt)).map I)]) => ?_)
   refine q trivial rfl rfl (asg (v := .slice A3 (((([ak] : List Int) ++ aq) ++ (numB apt)).length) c3) rfl) ?_
   refine nl ?_
   refine nN ?_
   refine rt ?_
   refine fret (v := .slice A3 (((([ak] : List Int) ++ aq) ++ (numB apt)).length) c3) (.tmp .nil) rfl ?_
   have e1 : (([ak] : List Int) ++ aq) ++ (numB apt) = addrB ak aq an apt := by simp [addrB, h1]
   have e2 : ((([ak] : List Int) ++ aq) ++ (numB apt)).length = (addrB ak aq an apt).length := by exact congrArg List.length e1
   exact ⟨A3, c3, (slv rfl e2 rfl), ((hs5.pick [2] rfl (by decide)).cast (lc (own_eq (g := I) rfl e2 rfl e1) rfl))⟩
 · refine raJ (fun w' => ∃ L, SH w w' [] L ∧ (.blk b1 34 [I ak, .slice Aaq aq.length caq, Str an, I apt]) ∈ L ∧ True) (fun f w' => ∃ (b4' : Nat) (A8' : Option Addr) (c8' : Nat) (A9' : Option Addr) (c9' : Nat), Has f [(1, pB b1), (3, .slice A9' (((([ak] : List Int) ++ ([((an.length : Nat) : Int)] : List Int)) ++ (textI an)).length) c9')] ∧ SH w w' [] [.blk b1 34 [I ak, .slice Aaq aq.length caq, Str an, I apt], .own A9' (((([ak] : List Int) ++ ([((an.length : Nat) : Int)] : List Int)) ++ (textI an)).length) c9' 3 1 (((([ak] : List Int) ++ ([((an.length : Nat) : Int)] : List Int)) ++ (textI an)).map I), oI b4' ([((an.length : Nat) : Int)] : List Int) 1 3, .own A8' ((textI an).length) c8' 3 1 ((textI an).map I)]) mixed ?_ ?_
   · refine dag (fuel' := 2) (listed' := lbits 11 511) (fun f w' => ∃ (b4' : Nat) (A5' : Option Addr) (c5' : Nat) (A8' : Option Addr) (c8' : Nat), Has f [(1, pB b1), (3, sb b2 (([ak] : List Int).length) 1), (19, .slice A5' ((([ak] : List Int) ++ ([((an.length : Nat) : Int)] : List Int)).length) c5'), (22, .slice A8' ((textI an).length) c8')] ∧ SH w w' [] [.blk b1 34 [I ak, .slice Aaq aq.length caq, Str an, I apt], .own A5' ((([ak] : List Int) ++ ([((an.length : Nat) : Int)] : List Int)).length) c5' 3 1 ((([ak] : List Int) ++ ([((an.length : Nat) : Int)] : List Int)).map I), oI b4' ([((an.length : Nat) : Int)] : List Int) 1 3, .own A8' ((textI an).length) c8' 3 1 ((textI an).map I)]) ?_ (fun D_4_0 => ?_)
     · rintro f w6 ⟨b4', A5', c5', A8', c8', hf, hs6⟩
       obtain ⟨g1, rfl⟩ := has_upd hf
       clear hf
       refine aaL [9] (fa_one ?_)
       refine one_ rfl ?_
       refine apm (g := I) (ys := ([ak] : List Int) ++ ([((an.length : Nat) : Int)] : List Int)) (zs := textI an) hs6 1 rfl sl23 rfl rfl rfl (hs6.sl0 3 rfl) (fun _ => rfl) (by unfold maxLen; have haf := addrOk_fit hok; have htl := textI_len an; have hnb : (numB apt).length = 2 := rfl; simp only [List.length_append, List.length_cons, List.length_nil]; omega) (by have haf := addrOk_fit hok; have htl := textI_len an; have hnb : (numB apt).length = 2 := rfl; simp only [List.length_append, List.length_cons, List.length_nil]; omega) trivial rfl (fun A9' c9' w7 hs7 => ?_)
       refine nl (kq ⟨_, hs7, memi 0 rfl, trivial⟩ ?_)
       refine tk (fuel := 0) (is := [10]) (.cons rfl (.nil)) (by kernel_rfl) (by kernel_rfl) ⟨_, hs7, memi 0 rfl, trivial⟩ ?_
       refine .op trivial rfl rfl (fun wq _ => asg (v := .slice A9' (((([ak] : List Int) ++ ([((an.length : Nat) : Int)] : List Int)) ++ (textI an)).length) c9') rfl) ?_
       refine .nil ?_
       refine ad (by kernel_rfl) ?_
       exact ⟨b4', A8', c8', A9', c9', ⟨rfl, rfl, trivial⟩, (hs7.pick [0, 3, 1, 2] rfl (by decide))⟩
     refine dag (fuel' := 3) (listed' := lbits 11 255) (fun f w' => ∃ (b4' : Nat) (A5' : Option Addr) (c5' : Nat), Has f [(1, pB b1), (3, sb b2 (([ak] : List Int).length) 1), (19, .slice A5' ((([ak] : List Int) ++ ([((an.length : Nat) : Int)] : List Int)).length) c5'), (21, Str an)] ∧ SH w w' [] [.blk b1 34 [I ak, .slice Aaq aq.length caq, Str an, I apt], .own A5' ((([ak] : List Int) ++ ([((an.length : Nat) : Int)] : List Int)).length) c5' 3 1 ((([ak] : List Int) ++ ([((an.length : Nat) : Int)] : List Int)).map I), oI b4' ([((an.length : Nat) : Int)] : List Int) 1 3]) ?_ (fun D_4_1 => ?_)
     · rintro f w8 ⟨b4', A5', c5', hf, hs8⟩
       obtain ⟨g2, rfl⟩ := has_upd hf
       clear hf
       refine aaL [8] (fa_one ?_)
       refine one_ rfl ?_
       refine cl trivial rfl (iTextBytes (s := an) (w := _) (hs_n := (by first | (first | omega | (simp; done) | (simp; omega)) | (have haf := addrOk_fit hok; have htl := textI_len an; have hnb : (numB apt).length = 2 := rfl; first | omega | (simp; done) | (simp; omega))))) ?_
       rintro _ w9 ⟨A8', c8', rfl, hs9'⟩
       have hs9 := hs8.call0 hs9'
       clear hs9'
       exact nl (kq ⟨_, hs9, memi 0 rfl, trivial⟩ (alc D_4_0 ⟨b4', A5', c5', A8', c8', ⟨rfl, rfl, rfl, rfl, trivial⟩, hs9⟩))
     refine dag (fuel' := 4) (listed' := lbits 11 223) (fun f w' => ∃ (b4' : Nat), Has f [(1, pB b1), (3, sb b2 (([ak] : List Int).length) 1), (14, sb b2 (([ak] : List Int).length) 1), (18, sb b4' (([((an.length : Nat) : Int)] : List Int).length) 1), (21, Str an)] ∧ SH w w' [] [.blk b1 34 [I ak, .slice Aaq aq.length caq, Str an, I apt], oI b2 ([ak] : List Int) 1 3, oI b4' ([((an.length : Nat) : Int)] : List Int) 1 3]) ?_ (fun D_4_2 => ?_)
     · rintro f w10 ⟨b4', hf, hs10⟩
       obtain ⟨g3, rfl⟩ := has_upd hf
       clear hf
       refine aaL [5] (fa_one ?_)
       refine one_ rfl ?_
       refine apm (g := I) (ys := ([ak] : List Int)) (zs := ([((an.length : Nat) : Int)] : List Int)) hs10 1 rfl sl23 rfl rfl rfl (hs10.sl0 2 rfl) (fun _ => rfl) (by unfold maxLen; have haf := addrOk_fit hok; have htl := textI_len an; have hnb : (numB apt).length = 2 := rfl; simp only [List.length_append, List.length_cons, List.length_nil]; omega) (by have haf := addrOk_fit hok; have htl := textI_len an; have hnb : (numB apt).length = 2 := rfl; simp only [List.length_append, List.length_cons, List.length_nil]; omega) trivial rfl (fun A5' c5' w11 hs11 => ?_)
       exact nl (kq ⟨_, hs11, memi 0 rfl, trivial⟩ (alc D_4_1 ⟨b4', A5', c5', ⟨rfl, rfl, rfl, rfl, trivial⟩, (hs11.pick [0, 2, 1] rfl (by decide))⟩))
     refine dag (fuel' := 5) (listed' := lbits 11 207) (fun f w' => Has f [(1, pB b1), (3, sb b2 (([ak] : List Int).length) 1), (14, sb b2 (([ak] : List Int).length) 1), (17, I ((an.length : Nat) : Int)), (21, Str an)] ∧ SH w w' [] [.blk b1 34 [I ak, .slice Aaq aq.length caq, Str an, I apt], oI b2 ([ak] : List Int) 1 3]) ?_ (fun D_4_3 => ?_)
     · rintro f w12 ⟨hf, hs12⟩
       obtain ⟨g4, rfl⟩ := has_upd hf
       clear hf
       refine aaL [4] (fa_one ?_)
       refine one_ rfl ?_
       refine bsk hs12 sl23 [I ((an.length : Nat) : Int)] [I ((an.length : Nat) : Int)] trivial rfl (fun b4' w13 hs13 => ?_)
       exact nl (kq ⟨_, hs13, memi 0 rfl, trivial⟩ (alc D_4_2 ⟨b4', ⟨rfl, rfl, rfl, rfl, rfl, trivial⟩, hs13⟩))
     have hs14 := hs2.drew
     refine tk (fuel := 5) (is := [0, 1, 2, 3, 6, 7]) (.cons rfl (.cons rfl (.cons rfl (.cons rfl (.cons rfl (.cons rfl (.nil))))))) (by kernel_rfl) (by kernel_rfl) ⟨_, hs14, memi 0 rfl, trivial⟩ ?_
     refine .op trivial rfl rfl (fun wq _ => mv (v := sb b2 (([ak] : List Int).length) 1) rfl) ?_
     refine .op trivial rfl rfl (fun wq _ => fa 2 fo34_2 rfl) ?_
     refine .op trivial rfl rfl (fun wq ⟨Lq, hsq, mh0, _⟩ => ldm (v := Str an) hsq mh0 rfl rfl one9) ?_
     refine .op trivial rfl rfl (fun wq _ => lnS (l := an) st9 rfl) ?_
     refine .op trivial rfl rfl (fun wq _ => fa 2 fo34_2 rfl) ?_
     refine .op trivial rfl rfl (fun wq ⟨Lq, hsq, mh0, _⟩ => ldm (v := Str an) hsq mh0 rfl rfl one9) ?_
     refine .nil ?_
     exact alc D_4_3 ⟨⟨rfl, rfl, rfl, rfl, rfl, trivial⟩, hs14⟩
   rintro f w14 ⟨b4', A8', c8', A9', c9', hf, hs15⟩
   obtain ⟨g5, rfl⟩ := has_upd hf
   clear hf
   refine nN ?_
   have hs16 : SH w w14 [] [.blk b1 34 [I ak, .slice Aaq aq.length caq, Str an, I apt], .own A9' (((([ak] : List Int) ++ ([((an.length : Nat) : Int)] : List Int)) ++ (textI an)).length) c9' 3 1 (((([ak] : List Int) ++ ([((an.length : Nat) : Int)] : List Int)) ++ (textI an)).map I)] := hs15.pick [0, 1] rfl (by decide)
   refine sq ?_
   refine rg ?_
   refine q trivial rfl rfl (mv (v := .slice A9' (((([ak] : List Int) ++ ([((an.length : Nat) : Int)] : List Int)) ++ (textI an)).length) c9') rfl) ?_
   refine q trivial rfl rfl (fa 3 fo34_3 rfl) ?_
   refine q trivial rfl rfl (ld (v := I apt) hs16 0 rfl rfl rfl one3) ?_
   refine cl trivial rfl (iNumberBytes (n := apt) (w := _) (hn := (by first | (first | omega | assumption | (simp; done) | (simp; omega)) | (have haf := addrOk_fit hok; have htl := textI_len an; have hnb : (numB apt).length = 2 := rfl; first | omega | assumption | (simp; done) | (simp; omega))))) ?_
   rintro _ w15 ⟨A4, c4, rfl, hs17'⟩
   have hs17 : SH w w15 [] [.blk b1 34 [I ak, .slice Aaq aq.length caq, Str an, I apt], .own A9' (((([ak] : List Int) ++ ([((an.length : Nat) : Int)] : List Int)) ++ (textI an)).length) c9' 3 1 (((([ak] : List Int) ++ ([((an.length : Nat) : Int)] : List Int)) ++ (textI an)).map I), .own A4 ((numB apt).length) c4 3 1 ((numB apt).map I)] := hs16.call0 hs17'
   clear hs17'
   refine apm (g := I) (ys := (([ak] : List Int) ++ ([((an.length : Nat) : Int)] : List Int)) ++ (textI an)) (zs := numB apt) hs17 1 rfl sl23 rfl rfl rfl (hs17.sl0 2 rfl) (fun _ => rfl) (by unfold maxLen; have haf := addrOk_fit hok; have htl := textI_len an; have hnb : (numB apt).length = 2 := rfl; simp only [List.length_append, List.length_cons, List.length_nil]; omega) (by have haf := addrOk_fit hok; have htl := textI_len an; have hnb : (numB apt).length = 2 := rfl; simp only [List.length_append, List.length_cons, List.length_nil]; omega) trivial rfl (fun A5 c5 w16 (hs18 : SH w w16 [] [.blk b1 34 [I ak, .slice Aaq aq.length caq, Str an, I apt], .own A4 ((numB apt).length) c4 3 1 ((numB apt).map I), .own A5 ((((([ak] : List Int) ++ ([((an.length : Nat) : Int)] : List Int)) ++ (textI an)) ++ (numB apt)).length) c5 3 1 ((((([ak] : List Int) ++ ([((an.length : Nat) : Int)] : List Int)) ++ (textI an)) ++ (numB apt)).map I)]) => ?_)
   refine q trivial rfl rfl (asg (v := .slice A5 ((((([ak] : List Int) ++ ([((an.length : Nat) : Int)] : List Int)) ++ (textI an)) ++ (numB apt)).length) c5) rfl) ?_
   refine nl ?_
   refine nN ?_
   refine rt ?_
   refine fret (v := .slice A5 ((((([ak] : List Int) ++ ([((an.length : Nat) : Int)] : List Int)) ++ (textI an)) ++ (numB apt)).length) c5) (.tmp .nil) rfl ?_
   have e3 : ((([ak] : List Int) ++ ([((an.length : Nat) : Int)] : List Int)) ++ (textI an)) ++ (numB apt) = addrB ak aq an apt := by simp [addrB, h1]
   have e4 : (((([ak] : List Int) ++ ([((an.length : Nat) : Int)] : List Int)) ++ (textI an)) ++ (numB apt)).length = (addrB ak aq an apt).length := by exact congrArg List.length e3
   exact ⟨A5, c5, (slv rfl e4 rfl), ((hs18.pick [2] rfl (by decide)).cast (lc (own_eq (g := I) rfl e4 rfl e3) rfl))⟩

set_option maxHeartbeats 8000000 in
theorem sL3Bytes (ak : Int) {Aaq : Option Addr} {caq : Nat} (aq : List Int) (an : List UInt8) (apt : Int) (w : World) (haq : Sl w [] 1 Aaq aq.length caq (aq.map I)) (han_n : an.length ≤ 1099511627776) (hok : addrOk ak aq an apt = true) : Does Tryz.prog 51 [.agg #[I ak, .slice Aaq aq.length caq, Str an, I apt]] w (fun v w' => ∃ Ar : Option Addr, ∃ cr : Nat, v = .slice Ar (addrB ak aq an apt).length cr ∧ SH w w' [] [.own Ar ((addrB ak aq an apt).length) cr 3 1 ((addrB ak aq an apt).map I)]) := by
 refine fn_enter (N := 30) Tryz.func51 rfl (by kernel_rfl) rfl rfl rfl ?_
 have hs0 : SH w w [] [] := SH.refl w []
 have haq_m : aq.length ≤ 9223372036854775807 := Nat.le_trans haq.cap haq.capMax
 refine sq ?_
 refine rg ?_
 refine bx (v := .agg #[I ak, .slice Aaq aq.length caq, Str an, I apt]) (cs := [I ak, .slice Aaq aq.length caq, Str an, I apt]) hs0 rfl rfl trivial rfl (fun b1 w1 (hs1 : SH w w1 [] [.blk b1 34 [I ak, .slice Aaq aq.length caq, Str an, I apt]]) => ?_)
 refine q trivial rfl rfl (asg (v := ns) rfl) ?_
 refine nl ?_
 refine nN ?_
 refine sq ?_
 refine rg ?_
 refine q trivial rfl rfl (fa 0 fo34_0 rfl) ?_
 refine q trivial rfl rfl (ld (v := I ak) hs1 0 rfl rfl rfl one3) ?_
 refine bsk hs1 sl23 [I ak] [I ak] trivial rfl (fun b2 w2 (hs2 : SH w w2 [] [.blk b1 34 [I ak, .slice Aaq aq.length caq, Str an, I apt], oI b2 ([ak] : List Int) 1 3]) => ?_)
 refine q trivial rfl rfl (asg (v := sb b2 (([ak] : List Int).length) 1) rfl) ?_
 refine nl ?_
 refine nN ?_
 refine sq ?_
 refine sq ?_
 refine rg ?_
 refine q trivial rfl rfl (fa 0 fo34_0 rfl) ?_
 refine q trivial rfl rfl (ld (v := I ak) hs2 0 rfl rfl rfl one3) ?_
 refine q trivial rfl rfl (eqi (k := .i64) (a := ak) (b := 1) rfl rfl) ?_
 refine nl ?_
 refine nN ?_
 refine cdd (p := ak = 1) rfl (fun h1 => ?_) (fun h1 => ?_)
 · refine rg ?_
   refine q trivial rfl rfl (mv (v := sb b2 (([ak] : List Int).length) 1) rfl) ?_
   refine q trivial rfl rfl (fa 1 fo34_1 rfl) ?_
   refine q trivial rfl rfl (ld (v := .slice Aaq aq.length caq) hs2 0 rfl rfl rfl one23) ?_
   refine apm (g := I) (ys := ([ak] : List Int)) (zs := aq) hs2 1 rfl sl23 rfl rfl rfl (haq.up0 hs2) (fun _ => rfl) (by unfold maxLen; have haf := addrOk_fit hok; have htl := textI_len an; have hnb : (numB apt).length = 2 := rfl; simp only [List.length_append, List.length_cons, List.length_nil]; omega) (by have haf := addrOk_fit hok; have htl := textI_len an; have hnb : (numB apt).length = 2 := rfl; simp only [List.length_append, List.length_cons, List.length_nil]; omega) trivial rfl (fun A1 c1 w3 (hs3 : SH w w3 [] [.blk b1 34 [I ak, .slice Aaq aq.length caq, Str an, I apt], .own A1 ((([ak] : List Int) ++ aq).length) c1 3 1 ((([ak] : List Int) ++ aq).map I)]) => ?_)
   refine q trivial rfl rfl (asg (v := .slice A1 ((([ak] : List Int) ++ aq).length) c1) rfl) ?_
   refine nl ?_
   refine nN ?_
   refine sq ?_
   refine rg ?_
   refine q trivial rfl rfl (mv (v := .slice A1 ((([ak] : List Int) ++ aq).length) c1) rfl) ?_
   refine q trivial rfl rfl (fa 3 fo34_3 rfl) ?_
   refine q trivial rfl rfl (ld (v := I apt) hs3 0 rfl rfl rfl one3) ?_
   refine cl trivial rfl (sL1Number (n := apt) (w := _) (hn := (by first | (first | omega | assumption | (simp; done) | (simp; omega)) | (have haf := addrOk_fit hok; have htl := textI_len an; have hnb : (numB apt).length = 2 := rfl; first | omega | assumption | (simp; done) | (simp; omega))))) ?_
   rintro _ w4 ⟨A2, c2, rfl, hs4'⟩
   have hs4 : SH w w4 [] [.blk b1 34 [I ak, .slice Aaq aq.length caq, Str an, I apt], .own A1 ((([ak] : List Int) ++ aq).length) c1 3 1 ((([ak] : List Int) ++ aq).map I), .own A2 ((numB apt).length) c2 3 1 ((numB apt).map I)] := hs3.call0 hs4'
   clear hs4'
   refine apm (g := I) (ys := ([ak] : List Int) ++ aq) (zs := numB apt) hs4 1 rfl sl23 rfl rfl rfl (hs4.sl0 2 rfl) (fun _ => rfl) (by unfold maxLen; have haf := addrOk_fit hok; have htl := textI_len an; have hnb : (numB apt).length = 2 := rfl; simp only [List.length_append, List.length_cons, List.length_nil]; omega) (by have haf := addrOk_fit hok; have htl := textI_len an; have hnb : (numB apt).length = 2 := rfl; simp only [List.length_append, List.length_cons, List.length_nil]; omega) trivial rfl (fun A3 c3 w5 (hs5 : SH w w5 [] [.blk b1 34 [I ak, .slice Aaq aq.length caq, Str an, I apt], .own A2 ((numB apt).length) c2 3 1 ((numB apt).map I), .own A3 (((([ak] : List Int) ++ aq) ++ (numB apt)).length) c3 3 1 (((([ak] : List Int) ++ aq) ++ (numB apt)).map I)]) => ?_)
   refine q trivial rfl rfl (asg (v := .slice A3 (((([ak] : List Int) ++ aq) ++ (numB apt)).length) c3) rfl) ?_
   refine nl ?_
   refine nN ?_
   refine rt ?_
   refine fret (v := .slice A3 (((([ak] : List Int) ++ aq) ++ (numB apt)).length) c3) (.tmp .nil) rfl ?_
   have e1 : (([ak] : List Int) ++ aq) ++ (numB apt) = addrB ak aq an apt := by simp [addrB, h1]
   have e2 : ((([ak] : List Int) ++ aq) ++ (numB apt)).length = (addrB ak aq an apt).length := by exact congrArg List.length e1
   exact ⟨A3, c3, (slv rfl e2 rfl), ((hs5.pick [2] rfl (by decide)).cast (lc (own_eq (g := I) rfl e2 rfl e1) rfl))⟩
 · refine sq ?_
   refine rg ?_
   refine q trivial rfl rfl (mv (v := sb b2 (([ak] : List Int).length) 1) rfl) ?_
   refine q trivial rfl rfl (fa 2 fo34_2 rfl) ?_
   refine q trivial rfl rfl (ld (v := Str an) hs2 0 rfl rfl rfl one9) ?_
   refine q trivial rfl rfl (lnS (l := an) st9 rfl) ?_
   refine bsk hs2 sl23 [I ((an.length : Nat) : Int)] [I ((an.length : Nat) : Int)] trivial rfl (fun b3 w6 (hs6 : SH w w6 [] [.blk b1 34 [I ak, .slice Aaq aq.length caq, Str an, I apt], oI b2 ([ak] : List Int) 1 3, oI b3 ([((an.length : Nat) : Int)] : List Int) 1 3]) => ?_)
   refine apm (g := I) (ys := ([ak] : List Int)) (zs := ([((an.length : Nat) : Int)] : List Int)) hs6 1 rfl sl23 rfl rfl rfl (hs6.sl0 2 rfl) (fun _ => rfl) (by unfold maxLen; have haf := addrOk_fit hok; have htl := textI_len an; have hnb : (numB apt).length = 2 := rfl; simp only [List.length_append, List.length_cons, List.length_nil]; omega) (by have haf := addrOk_fit hok; have htl := textI_len an; have hnb : (numB apt).length = 2 := rfl; simp only [List.length_append, List.length_cons, List.length_nil]; omega) trivial rfl (fun A4 c4 w7 (hs7 : SH w w7 [] [.blk b1 34 [I ak, .slice Aaq aq.length caq, Str an, I apt], oI b3 ([((an.length : Nat) : Int)] : List Int) 1 3, .own A4 ((([ak] : List Int) ++ ([((an.length : Nat) : Int)] : List Int)).length) c4 3 1 ((([ak] : List Int) ++ ([((an.length : Nat) : Int)] : List Int)).map I)]) => ?_)
   refine q trivial rfl rfl (asg (v := .slice A4 ((([ak] : List Int) ++ ([((an.length : Nat) : Int)] : List Int)).length) c4) rfl) ?_
   refine nl ?_
   refine nN ?_
   refine rg ?_
   refine q trivial rfl rfl (mv (v := .slice A4 ((([ak] : List Int) ++ ([((an.length : Nat) : Int)] : List Int)).length) c4) rfl) ?_
   refine q trivial rfl rfl (fa 2 fo34_2 rfl) ?_
   refine q trivial rfl rfl (ld (v := Str an) hs7 0 rfl rfl rfl one9) ?_
   refine cl trivial rfl (sL1Text (s := an) (w := _) (hs_n := (by first | (first | omega | (simp; done) | (simp; omega)) | (have haf := addrOk_fit hok; have htl := textI_len an; have hnb : (numB apt).length = 2 := rfl; first | omega | (simp; done) | (simp; omega))))) ?_
   rintro _ w8 ⟨A5, c5, rfl, hs8'⟩
   have hs8 : SH w w8 [] [.blk b1 34 [I ak, .slice Aaq aq.length caq, Str an, I apt], oI b3 ([((an.length : Nat) : Int)] : List Int) 1 3, .own A4 ((([ak] : List Int) ++ ([((an.length : Nat) : Int)] : List Int)).length) c4 3 1 ((([ak] : List Int) ++ ([((an.length : Nat) : Int)] : List Int)).map I), .own A5 ((textI an).length) c5 3 1 ((textI an).map I)] := hs7.call0 hs8'
   clear hs8'
   refine apm (g := I) (ys := ([ak] : List Int) ++ ([((an.length : Nat) : Int)] : List Int)) (zs := textI an) hs8 2 rfl sl23 rfl rfl rfl (hs8.sl0 3 rfl) (fun _ => rfl) (by unfold maxLen; have haf := addrOk_fit hok; have htl := textI_len an; have hnb : (numB apt).length = 2 := rfl; simp only [List.length_append, List.length_cons, List.length_nil]; omega) (by have haf := addrOk_fit hok; have htl := textI_len an; have hnb : (numB apt).length = 2 := rfl; simp only [List.length_append, List.length_cons, List.length_nil]; omega) trivial rfl (fun A6 c6 w9 (hs9 : SH w w9 [] [.blk b1 34 [I ak, .slice Aaq aq.length caq, Str an, I apt], oI b3 ([((an.length : Nat) : Int)] : List Int) 1 3, .own A5 ((textI an).length) c5 3 1 ((textI an).map I), .own A6 (((([ak] : List Int) ++ ([((an.length : Nat) : Int)] : List Int)) ++ (textI an)).length) c6 3 1 (((([ak] : List Int) ++ ([((an.length : Nat) : Int)] : List Int)) ++ (textI an)).map I)]) => ?_)
   refine q trivial rfl rfl (asg (v := .slice A6 (((([ak] : List Int) ++ ([((an.length : Nat) : Int)] : List Int)) ++ (textI an)).length) c6) rfl) ?_
   refine nl ?_
   refine nN ?_
   have hs10 : SH w w9 [] [.blk b1 34 [I ak, .slice Aaq aq.length caq, Str an, I apt], .own A6 (((([ak] : List Int) ++ ([((an.length : Nat) : Int)] : List Int)) ++ (textI an)).length) c6 3 1 (((([ak] : List Int) ++ ([((an.length : Nat) : Int)] : List Int)) ++ (textI an)).map I)] := hs9.pick [0, 3] rfl (by decide)
   refine sq ?_
   refine rg ?_
   refine q trivial rfl rfl (mv (v := .slice A6 (((([ak] : List Int) ++ ([((an.length : Nat) : Int)] : List Int)) ++ (textI an)).length) c6) rfl) ?_
   refine q trivial rfl rfl (fa 3 fo34_3 rfl) ?_
   refine q trivial rfl rfl (ld (v := I apt) hs10 0 rfl rfl rfl one3) ?_
   refine cl trivial rfl (sL1Number (n := apt) (w := _) (hn := (by first | (first | omega | assumption | (simp; done) | (simp; omega)) | (have haf := addrOk_fit hok; have htl := textI_len an; have hnb : (numB apt).length = 2 := rfl; first | omega | assumption | (simp; done) | (simp; omega))))) ?_
   rintro _ w10 ⟨A7, c7, rfl, hs11'⟩
   have hs11 : SH w w10 [] [.blk b1 34 [I ak, .slice Aaq aq.length caq, Str an, I apt], .own A6 (((([ak] : List Int) ++ ([((an.length : Nat) : Int)] : List Int)) ++ (textI an)).length) c6 3 1 (((([ak] : List Int) ++ ([((an.length : Nat) : Int)] : List Int)) ++ (textI an)).map I), .own A7 ((numB apt).length) c7 3 1 ((numB apt).map I)] := hs10.call0 hs11'
   clear hs11'
   refine apm (g := I) (ys := (([ak] : List Int) ++ ([((an.length : Nat) : Int)] : List Int)) ++ (textI an)) (zs := numB apt) hs11 1 rfl sl23 rfl rfl rfl (hs11.sl0 2 rfl) (fun _ => rfl) (by unfold maxLen; have haf := addrOk_fit hok; have htl := textI_len an; have hnb : (numB apt).length = 2 := rfl; simp only [List.length_append, List.length_cons, List.length_nil]; omega) (by have haf := addrOk_fit hok; have htl := textI_len an; have hnb : (numB apt).length = 2 := rfl; simp only [List.length_append, List.length_cons, List.length_nil]; omega) trivial rfl (fun A8 c8 w11 (hs12 : SH w w11 [] [.blk b1 34 [I ak, .slice Aaq aq.length caq, Str an, I apt], .own A7 ((numB apt).length) c7 3 1 ((numB apt).map I), .own A8 ((((([ak] : List Int) ++ ([((an.length : Nat) : Int)] : List Int)) ++ (textI an)) ++ (numB apt)).length) c8 3 1 ((((([ak] : List Int) ++ ([((an.length : Nat) : Int)] : List Int)) ++ (textI an)) ++ (numB apt)).map I)]) => ?_)
   refine q trivial rfl rfl (asg (v := .slice A8 ((((([ak] : List Int) ++ ([((an.length : Nat) : Int)] : List Int)) ++ (textI an)) ++ (numB apt)).length) c8) rfl) ?_
   refine nl ?_
   refine nN ?_
   refine rt ?_
   refine fret (v := .slice A8 ((((([ak] : List Int) ++ ([((an.length : Nat) : Int)] : List Int)) ++ (textI an)) ++ (numB apt)).length) c8) (.tmp .nil) rfl ?_
   have e3 : ((([ak] : List Int) ++ ([((an.length : Nat) : Int)] : List Int)) ++ (textI an)) ++ (numB apt) = addrB ak aq an apt := by simp [addrB, h1]
   have e4 : (((([ak] : List Int) ++ ([((an.length : Nat) : Int)] : List Int)) ++ (textI an)) ++ (numB apt)).length = (addrB ak aq an apt).length := by exact congrArg List.length e3
   exact ⟨A8, c8, (slv rfl e4 rfl), ((hs12.pick [2] rfl (by decide)).cast (lc (own_eq (g := I) rfl e4 rfl e3) rfl))⟩

set_option maxHeartbeats 8000000 in
theorem sL12Bytes (n : Int) (ak : Int) {Aaq : Option Addr} {caq : Nat} (aq : List Int) (an : List UInt8) (apt : Int) (w : World) (haq : Sl w [] 1 Aaq aq.length caq (aq.map I)) (han_n : an.length ≤ 1099511627776) (hok : addrOk ak aq an apt = true) : Does Tryz.prog 36 [I n, .agg #[I ak, .slice Aaq aq.length caq, Str an, I apt]] w (fun v w' => ∃ Ar : Option Addr, ∃ cr : Nat, v = .slice Ar ([5, n, 0] ++ addrB ak aq an apt).length cr ∧ SH w w' [] [.own Ar (([5, n, 0] ++ addrB ak aq an apt).length) cr 3 1 (([5, n, 0] ++ addrB ak aq an apt).map I)]) := by
 refine fn_enter (N := 10) Tryz.func36 rfl (by kernel_rfl) rfl rfl rfl ?_
 have hs0 : SH w w [] [] := SH.refl w []
 have haq_m : aq.length ≤ 9223372036854775807 := Nat.le_trans haq.cap haq.capMax
 refine sq ?_
 refine rg ?_
 refine bx (v := .agg #[I ak, .slice Aaq aq.length caq, Str an, I apt]) (cs := [I ak, .slice Aaq aq.length caq, Str an, I apt]) hs0 rfl rfl trivial rfl (fun b1 w1 (hs1 : SH w w1 [] [.blk b1 34 [I ak, .slice Aaq aq.length caq, Str an, I apt]]) => ?_)
 refine q trivial rfl rfl (asg (v := ns) rfl) ?_
 refine nl ?_
 refine nN ?_
 refine sq ?_
 refine rg ?_
 refine q trivial rfl rfl (mv (v := I n) rfl) ?_
 refine bsk hs1 sl23 [I 5, I n, I 0] [I 5, I n, I 0] trivial rfl (fun b2 w2 (hs2 : SH w w2 [] [.blk b1 34 [I ak, .slice Aaq aq.length caq, Str an, I apt], oI b2 ([5, n, 0] : List Int) 3 3]) => ?_)
 refine q trivial rfl rfl (ldg (vs := [I ak, .slice Aaq aq.length caq, Str an, I apt]) hs2 0 rfl rfl rfl rfl ag34) ?_
 refine cl trivial rfl (sL3Bytes (ak := ak) (Aaq := Aaq) (caq := caq) (aq := aq) (an := an) (apt := apt) (w := _) (haq := (haq.up0 hs2)) (han_n := (by first | omega | (simp; done) | (simp; omega))) (hok := (by first | omega | assumption | (simp; done) | (simp; omega)))) ?_
 rintro _ w3 ⟨A1, c1, rfl, hs3'⟩
 have hs3 : SH w w3 [] [.blk b1 34 [I ak, .slice Aaq aq.length caq, Str an, I apt], oI b2 ([5, n, 0] : List Int) 3 3, .own A1 ((addrB ak aq an apt).length) c1 3 1 ((addrB ak aq an apt).map I)] := hs2.call0 hs3'
 clear hs3'
 refine apm (g := I) (ys := ([5, n, 0] : List Int)) (zs := addrB ak aq an apt) hs3 1 rfl sl23 rfl rfl rfl (hs3.sl0 2 rfl) (fun _ => rfl) (by unfold maxLen; have hbl := addrB_len hok; simp only [List.length_append, List.length_cons, List.length_nil]; omega) (by have hbl := addrB_len hok; simp only [List.length_append, List.length_cons, List.length_nil]; omega) trivial rfl (fun A2 c2 w4 (hs4 : SH w w4 [] [.blk b1 34 [I ak, .slice Aaq aq.length caq, Str an, I apt], .own A1 ((addrB ak aq an apt).length) c1 3 1 ((addrB ak aq an apt).map I), .own A2 ((([5, n, 0] : List Int) ++ (addrB ak aq an apt)).length) c2 3 1 ((([5, n, 0] : List Int) ++ (addrB ak aq an apt)).map I)]) => ?_)
 refine q trivial rfl rfl (asg (v := .slice A2 ((([5, n, 0] : List Int) ++ (addrB ak aq an apt)).length) c2) rfl) ?_
 refine nl ?_
 refine nN ?_
 refine rt ?_
 refine fret (v := .slice A2 ((([5, n, 0] : List Int) ++ (addrB ak aq an apt)).length) c2) (.tmp .nil) rfl ?_
 have e1 : ([5, n, 0] : List Int) ++ (addrB ak aq an apt) = [5, n, 0] ++ addrB ak aq an apt := by first | rfl | (simp; done) | (simp_all; done) | omega
 have e2 : (([5, n, 0] : List Int) ++ (addrB ak aq an apt)).length = ([5, n, 0] ++ addrB ak aq an apt).length := by exact congrArg List.length e1
 exact ⟨A2, c2, (slv rfl e2 rfl), ((hs4.pick [2] rfl (by decide)).cast (lc (own_eq (g := I) rfl e2 rfl e1) rfl))⟩

theorem iIsRequest (n : Int) (ak : Int) {Aaq : Option Addr} {caq : Nat} (aq : List Int) (an : List UInt8) (apt : Int) (w : World) (haq : Sl w [] 1 Aaq aq.length caq (aq.map I)) (han_n : an.length ≤ 1099511627776) : Does Tryz.prog 26 [.agg #[I n, I ak, .slice Aaq aq.length caq, Str an, I apt]] w (fun v w' => v = .bool (reqOk n ak aq an apt) ∧ SH w w' [] []) := by
 refine fn_enter (N := 11) Tryz.func26 rfl (by kernel_rfl) rfl rfl rfl ?_
 have hs0 : SH w w [] [] := SH.refl w []
 have haq_m : aq.length ≤ 9223372036854775807 := Nat.le_trans haq.cap haq.capMax
 refine sq ?_
 refine rg ?_
 refine bx (v := .agg #[I n, I ak, .slice Aaq aq.length caq, Str an, I apt]) (cs := [I n, I ak, .slice Aaq aq.length caq, Str an, I apt]) hs0 rfl rfl trivial rfl (fun b1 w1 (hs1 : SH w w1 [] [.blk b1 36 [I n, I ak, .slice Aaq aq.length caq, Str an, I apt]]) => ?_)
 refine q trivial rfl rfl (asg (v := .bool false) rfl) ?_
 refine nl ?_
 refine nN ?_
 refine sq ?_
 refine rg ?_
 refine q trivial rfl rfl (fa 0 fo36_0 rfl) ?_
 refine q trivial rfl rfl (ld (v := I n) hs1 0 rfl rfl rfl one3) ?_
 refine cl trivial rfl (iWithin (x := n) (lo := 1) (hi := 3) (w := _)) ?_
 rintro _ w2 ⟨rfl, hs2'⟩
 have hs2 : SH w w2 [] [.blk b1 36 [I n, I ak, .slice Aaq aq.length caq, Str an, I apt]] := hs1.call0 hs2'
 clear hs2'
 refine q trivial rfl rfl (mv (v := .bool (decide (1 ≤ n ∧ n ≤ 3))) rfl) ?_
 refine spd (p := 1 ≤ n ∧ n ≤ 3) 6 rfl (fun h1 => ?_) (fun h1 => ?_)
 · refine q ⟨_, rfl, rfl⟩ rfl rfl (fa 1 fo36_1 rfl) ?_
   refine q ⟨_, rfl, rfl⟩ rfl rfl (ldg (vs := [I ak, .slice Aaq aq.length caq, Str an, I apt]) hs2 0 rfl rfl rfl rfl ag34) ?_
   refine cl ⟨_, rfl, rfl⟩ rfl (iAddressValid (ak := ak) (Aaq := Aaq) (caq := caq) (aq := aq) (an := an) (apt := apt) (w := _) (haq := (haq.up0 hs2)) (han_n := (by first | omega | (simp; done) | (simp; omega)))) ?_
   rintro _ w3 ⟨rfl, hs3'⟩
   have hs3 : SH w w3 [] [.blk b1 36 [I n, I ak, .slice Aaq aq.length caq, Str an, I apt]] := hs2.call0 hs3'
   clear hs3'
   refine q trivial rfl rfl (pt (v := .bool (addrOk ak aq an apt)) rfl rfl) ?_
   refine q trivial rfl rfl (asg (v := .bool (addrOk ak aq an apt)) rfl) ?_
   refine nl ?_
   refine nN ?_
   refine rt ?_
   refine fret (v := .bool (addrOk ak aq an apt)) (.tmp .nil) rfl ?_
   have e1 : (addrOk ak aq an apt) = reqOk n ak aq an apt := by simp [reqOk, h1]
   exact ⟨(congrArg (Value.bool) e1), (hs3.pick [] rfl (by decide))⟩
 · refine gk false rfl rfl rfl rfl rfl ?_
   refine gk false rfl rfl rfl rfl rfl ?_
   refine gk false rfl rfl rfl rfl rfl ?_
   refine q trivial rfl rfl (pf (v := .bool false) rfl rfl) ?_
   refine q trivial rfl rfl (asg (v := .bool false) rfl) ?_
   refine nl ?_
   refine nN ?_
   refine rt ?_
   refine fret (v := .bool false) (.tmp .nil) rfl ?_
   have e2 : false = reqOk n ak aq an apt := by simp [reqOk, h1]
   exact ⟨(congrArg (Value.bool) e2), (hs2.pick [] rfl (by decide))⟩

set_option maxHeartbeats 8000000 in
theorem sRequestBytes (n : Int) (ak : Int) {Aaq : Option Addr} {caq : Nat} (aq : List Int) (an : List UInt8) (apt : Int) (w : World) (haq : Sl w [] 1 Aaq aq.length caq (aq.map I)) (han_n : an.length ≤ 1099511627776) : Does Tryz.prog 19 [.agg #[I n, I ak, .slice Aaq aq.length caq, Str an, I apt]] w (fun v w' => ∃ Ar : Option Addr, ∃ cr : Nat, v = .tuple #[.slice Ar ((reqP n ak aq an apt).1).length cr, .bool ((reqP n ak aq an apt).2)] ∧ SH w w' [] [.own Ar (((reqP n ak aq an apt).1).length) cr 3 1 (((reqP n ak aq an apt).1).map I)]) := by
 refine fn_enter (N := 20) Tryz.func19 rfl (by kernel_rfl) rfl rfl rfl ?_
 have hs0 : SH w w [] [] := SH.refl w []
 have haq_m : aq.length ≤ 9223372036854775807 := Nat.le_trans haq.cap haq.capMax
 refine sq ?_
 refine rg ?_
 refine bx (v := .agg #[I n, I ak, .slice Aaq aq.length caq, Str an, I apt]) (cs := [I n, I ak, .slice Aaq aq.length caq, Str an, I apt]) hs0 rfl rfl trivial rfl (fun b1 w1 (hs1 : SH w w1 [] [.blk b1 36 [I n, I ak, .slice Aaq aq.length caq, Str an, I apt]]) => ?_)
 refine q trivial rfl rfl (asg (v := ns) rfl) ?_
 refine q trivial rfl rfl (asg (v := .bool false) rfl) ?_
 refine nl ?_
 refine nN ?_
 refine sq ?_
 refine sq ?_
 refine rg ?_
 refine q trivial rfl rfl (fa 0 fo36_0 rfl) ?_
 refine q trivial rfl rfl (ld (v := I n) hs1 0 rfl rfl rfl one3) ?_
 refine cl trivial rfl (sIn (x := n) (lo := 1) (hi := 3) (w := _)) ?_
 rintro _ w2 ⟨rfl, hs2'⟩
 have hs2 : SH w w2 [] [.blk b1 36 [I n, I ak, .slice Aaq aq.length caq, Str an, I apt]] := hs1.call0 hs2'
 clear hs2'
 refine q trivial rfl rfl (nd (p := 1 ≤ n ∧ n ≤ 3) rfl) ?_
 refine q trivial rfl rfl (mv (v := .bool (decide (¬ (1 ≤ n ∧ n ≤ 3)))) rfl) ?_
 refine spd (p := ¬ (1 ≤ n ∧ n ≤ 3)) 8 rfl (fun h1 => ?_) (fun h1 => ?_)
 · refine gk true rfl rfl rfl rfl rfl ?_
   refine gk true rfl rfl rfl rfl rfl ?_
   refine gk true rfl rfl rfl rfl rfl ?_
   refine gk true rfl rfl rfl rfl rfl ?_
   refine q trivial rfl rfl (pt (v := .bool true) rfl rfl) ?_
   refine nl ?_
   refine nN ?_
   refine cdt rfl ?_
   refine sq ?_
   refine rg ?_
   refine bsk hs2 sl23 [] [] trivial rfl (fun b2 w3 (hs3 : SH w w3 [] [.blk b1 36 [I n, I ak, .slice Aaq aq.length caq, Str an, I apt], oI b2 ([] : List Int) 0 3]) => ?_)
   refine q trivial rfl rfl (asg (v := sb b2 (([] : List Int).length) 0) rfl) ?_
   refine q trivial rfl rfl (asg (v := .bool false) rfl) ?_
   refine nl ?_
   refine nN ?_
   refine rt (tR ?_)
   refine fret (v := .tuple #[sb b2 (([] : List Int).length) 0, .bool false]) (.tmp (.tmp .nil)) rfl ?_
   have e1 : reqP n ak aq an apt = (([] : List Int), false) := by first | (simp [reqP, h1]; done) | (simp [reqP, reqOk, h1]; done)
   have e2 : ([] : List Int) = (reqP n ak aq an apt).1 := by rw [e1]
   have e3 : ([] : List Int).length = ((reqP n ak aq an apt).1).length := by exact congrArg List.length e2
   have e4 : false = (reqP n ak aq an apt).2 := by rw [e1]
   exact ⟨(some ⟨b2, 0, none⟩), 0, (tup2 (slv rfl e3 rfl) (congrArg (Value.bool) e4)), ((hs3.pick [1] rfl (by decide)).cast (lc (own_eq (g := I) rfl e3 rfl e2) rfl))⟩
 · refine q ⟨_, rfl, rfl⟩ rfl rfl (fa 1 fo36_1 rfl) ?_
   refine q ⟨_, rfl, rfl⟩ rfl rfl (ldg (vs := [I ak, .slice Aaq aq.length caq, Str an, I apt]) hs2 0 rfl rfl rfl rfl ag34) ?_
   refine cl ⟨_, rfl, rfl⟩ rfl (sAddressValid (ak := ak) (Aaq := Aaq) (caq := caq) (aq := aq) (an := an) (apt := apt) (w := _) (haq := (haq.up0 hs2)) (han_n := (by first | omega | (simp; done) | (simp; omega)))) ?_
   rintro _ w4 ⟨rfl, hs4'⟩
   have hs4 : SH w w4 [] [.blk b1 36 [I n, I ak, .slice Aaq aq.length caq, Str an, I apt]] := hs2.call0 hs4'
   clear hs4'
   refine q ⟨_, rfl, rfl⟩ rfl rfl (nt (b := addrOk ak aq an apt) rfl) ?_
   refine q trivial rfl rfl (pf (v := .bool (!(addrOk ak aq an apt))) rfl rfl) ?_
   refine nl ?_
   refine nN ?_
   refine cd (b := !(addrOk ak aq an apt)) rfl (fun h2 => ?_) (fun h2 => ?_)
   · have h3 : (addrOk ak aq an apt) = false := by simpa using h2
     refine sq ?_
     refine rg ?_
     refine bsk hs4 sl23 [] [] trivial rfl (fun b3 w5 (hs5 : SH w w5 [] [.blk b1 36 [I n, I ak, .slice Aaq aq.length caq, Str an, I apt], oI b3 ([] : List Int) 0 3]) => ?_)
     refine q trivial rfl rfl (asg (v := sb b3 (([] : List Int).length) 0) rfl) ?_
     refine q trivial rfl rfl (asg (v := .bool false) rfl) ?_
     refine nl ?_
     refine nN ?_
     refine rt (tR ?_)
     refine fret (v := .tuple #[sb b3 (([] : List Int).length) 0, .bool false]) (.tmp (.tmp .nil)) rfl ?_
     have e5 : reqP n ak aq an apt = (([] : List Int), false) := by first | (simp [reqP, h1, h3]; done) | (simp [reqP, reqOk, h1, h3]; done)
     have e6 : ([] : List Int) = (reqP n ak aq an apt).1 := by rw [e5]
     have e7 : ([] : List Int).length = ((reqP n ak aq an apt).1).length := by exact congrArg List.length e6
     have e8 : false = (reqP n ak aq an apt).2 := by rw [e5]
     exact ⟨(some ⟨b3, 0, none⟩), 0, (tup2 (slv rfl e7 rfl) (congrArg (Value.bool) e8)), ((hs5.pick [1] rfl (by decide)).cast (lc (own_eq (g := I) rfl e7 rfl e6) rfl))⟩
   · have h4 : (addrOk ak aq an apt) = true := by simpa using h2
     refine sk ?_
     refine nN ?_
     refine sq ?_
     refine rg ?_
     refine q trivial rfl rfl (fa 0 fo36_0 rfl) ?_
     refine q trivial rfl rfl (ld (v := I n) hs4 0 rfl rfl rfl one3) ?_
     refine q trivial rfl rfl (fa 1 fo36_1 rfl) ?_
     refine q trivial rfl rfl (ldg (vs := [I ak, .slice Aaq aq.length caq, Str an, I apt]) hs4 0 rfl rfl rfl rfl ag34) ?_
     refine cl trivial rfl (sL12Bytes (n := n) (ak := ak) (Aaq := Aaq) (caq := caq) (aq := aq) (an := an) (apt := apt) (w := _) (haq := (haq.up0 hs4)) (han_n := (by first | omega | (simp; done) | (simp; omega))) (hok := (by first | assumption | exact reqOk_addr (by assumption)))) ?_
     rintro _ w6 ⟨A1, c1, rfl, hs6'⟩
     have hs6 : SH w w6 [] [.blk b1 36 [I n, I ak, .slice Aaq aq.length caq, Str an, I apt], .own A1 (([5, n, 0] ++ addrB ak aq an apt).length) c1 3 1 (([5, n, 0] ++ addrB ak aq an apt).map I)] := hs4.call0 hs6'
     clear hs6'
     refine q trivial rfl rfl (asg (v := .slice A1 (([5, n, 0] ++ addrB ak aq an apt).length) c1) rfl) ?_
     refine q trivial rfl rfl (asg (v := .bool true) rfl) ?_
     refine nl ?_
     refine nN ?_
     refine rt ?_
     refine fret (v := .tuple #[.slice A1 (([5, n, 0] ++ addrB ak aq an apt).length) c1, .bool true]) (.tmp (.tmp .nil)) rfl ?_
     have e9 : reqP n ak aq an apt = ([5, n, 0] ++ addrB ak aq an apt, true) := by first | (simp [reqP, h1, h4]; done) | (simp [reqP, reqOk, h1, h4]; done)
     have e10 : [5, n, 0] ++ addrB ak aq an apt = (reqP n ak aq an apt).1 := by rw [e9]
     have e11 : ([5, n, 0] ++ addrB ak aq an apt).length = ((reqP n ak aq an apt).1).length := by exact congrArg List.length e10
     have e12 : true = (reqP n ak aq an apt).2 := by rw [e9]
     exact ⟨A1, c1, (tup2 (slv rfl e11 rfl) (congrArg (Value.bool) e12)), ((hs6.pick [1] rfl (by decide)).cast (lc (own_eq (g := I) rfl e11 rfl e10) rfl))⟩

theorem markAddress (ak : Int) {Aaq : Option Addr} {caq : Nat} (aq : List Int) (an : List UInt8) (apt : Int) (k0 : Int) (w : World) (haq : OwnR w Aaq aq.length caq 3 1 (aq.map I)) (haq_n : aq.length ≤ 2147483648) (hk0 : 0 ≤ k0 ∧ k0 ≤ 4294967296) : Does Tryz.prog 32 [.agg #[I ak, .slice Aaq aq.length caq, Str an, I apt], I k0] w (fun v w' => v = .int .i64 (k0 + ((aq.length : Nat) : Int)) ∧ SH w w' (ownM Aaq caq ++ []) [.own Aaq aq.length caq 3 1 ((marks k0 aq.length).map I)]) := by
 refine fn_enter (N := 10) Tryz.func32 rfl (by kernel_rfl) rfl rfl rfl ?_
 have hs0 : SH w w (ownM Aaq caq ++ []) [.own Aaq aq.length caq 3 1 (aq.map I)] := entry1o haq
 have haq_m : aq.length ≤ 9223372036854775807 := Nat.le_trans haq.2.1 haq.2.2.1
 refine sq ?_
 refine rg ?_
 refine bx (v := .agg #[I ak, .slice Aaq aq.length caq, Str an, I apt]) (cs := [I ak, .slice Aaq aq.length caq, Str an, I apt]) hs0 rfl rfl trivial rfl (fun b1 w1 (hs1 : SH w w1 (ownM Aaq caq ++ []) [.own Aaq aq.length caq 3 1 (aq.map I), .blk b1 34 [I ak, .slice Aaq aq.length caq, Str an, I apt]]) => ?_)
 refine q trivial rfl rfl (asg (v := I 0) rfl) ?_
 refine nl ?_
 refine nN ?_
 refine sq ?_
 refine rg ?_
 refine q trivial rfl rfl (fa 1 fo34_1 rfl) ?_
 refine q trivial rfl rfl (ld (v := .slice Aaq aq.length caq) hs1 1 rfl rfl rfl one23) ?_
 refine q trivial rfl rfl (mv (v := I k0) rfl) ?_
 refine cl trivial rfl (markIntS (Axs := Aaq) (cxs := caq) (xs := aq) (k0 := k0) (w := _) (hxs := (own_ok hs1 0 rfl)) (hxs_n := (by first | omega | (simp; done) | (simp; omega))) (hk0 := (by first | omega | assumption | (simp; done) | (simp; omega)))) ?_
 rintro _ w2 ⟨rfl, hs2'⟩
 have hs2 : SH w w2 (ownM Aaq caq ++ []) [.blk b1 34 [I ak, .slice Aaq aq.length caq, Str an, I apt], .own Aaq aq.length caq 3 1 ((marks k0 aq.length).map I)] := SH.callK (K := [.own Aaq aq.length caq 3 1 (aq.map I)]) (R := [.blk b1 34 [I ak, .slice Aaq aq.length caq, Str an, I apt]]) hs1 hs2' rfl
 clear hs2'
 have e1 : aq.length = (marks k0 aq.length).length := by first | rfl | (simp; done) | (simp; omega)
 have hs3 : SH w w2 (ownM Aaq caq ++ []) [.blk b1 34 [I ak, .slice Aaq aq.length caq, Str an, I apt], .own Aaq ((marks k0 aq.length).length) caq 3 1 ((marks k0 aq.length).map I)] := (hs2.cast (lc rfl (lc (own_eq (g := I) rfl e1 rfl rfl) rfl)))
 clear hs2
 refine q trivial rfl rfl (asg (v := I (k0 + ((aq.length : Nat) : Int))) rfl) ?_
 refine nl ?_
 refine nN ?_
 refine sq ?_
 refine rg ?_
 refine q trivial rfl rfl (mv (v := I (k0 + ((aq.length : Nat) : Int))) rfl) ?_
 refine q trivial rfl rfl (asg (v := I (k0 + ((aq.length : Nat) : Int))) rfl) ?_
 refine nl ?_
 refine nN ?_
 refine rt ?_
 refine fret (v := I (k0 + ((aq.length : Nat) : Int))) (.tmp .nil) rfl ?_
 have e2 : (marks k0 aq.length).length = aq.length := by first | rfl | (simp; done) | omega
 exact ⟨rfl, ((hs3.pick [1] rfl (by decide)).cast (lc (own_eq (g := I) rfl e2 rfl rfl) rfl))⟩

theorem stItoa (n : Int) (w : World) (hn : -9223372036854775808 ≤ n ∧ n ≤ 9223372036854775807) (hGp : Lib.TabIs Tryz.prog w "internal/strconv.uint64pow10" .u64 Lib.pow10Tab) : Does Tryz.prog 71 [I n] w (fun v w' => v = Str (Lib.itoa n) ∧ SH w w' [] []) := by
  exact does_grow ⟨_, _, Tryz.func71, by kernel_rfl, rfl⟩ rfl (Tryz.strconv_Itoa n hn.1 hn.2 w hGp)

theorem stJoin {bxs : Nat} {cxs : Nat} (xs : List (List UInt8)) (m : List UInt8) (w : World) (hxs : Sl w [] 1 (some ⟨bxs, 0, none⟩) xs.length cxs (xs.map Str)) (hxs_n : xs.length ≤ 1099511627776) (hl : (Lib.join xs m).length ≤ 140737488355328) : Does Tryz.prog 72 [sb bxs xs.length cxs, Str m] w (fun v w' => v = Str (Lib.join xs m) ∧ SH w w' [] []) := by
  exact does_join ⟨_, _, Tryz.func72, by kernel_rfl, rfl⟩ Tryz.strings_Join_none Tryz.strings_Join hxs hxs_n hl

set_option maxHeartbeats 8000000 in
theorem l6DecStep (n : Int) (w : World) (hn : 0 ≤ n ∧ n ≤ 9223372036854775807) (ih : ∀ (m : Int) (w : World), 0 ≤ m → m < n → Does Tryz.prog 73 [I m] w (fun v w' => v = Str (Lib.itoa m) ∧ SH w w' [] [])) : Does Tryz.prog 73 [I n] w (fun v w' => v = Str (Lib.itoa n) ∧ SH w w' [] []) := by
 refine fn_enter (N := 28) Tryz.func73 rfl (by kernel_rfl) rfl rfl rfl ?_
 have hs0 : SH w w [] [] := SH.refl w []
 refine sq ?_
 refine rg ?_
 refine q trivial rfl rfl (asg (v := Str []) rfl) ?_
 refine nl ?_
 refine nN ?_
 refine sq ?_
 refine sq ?_
 refine rg ?_
 refine q trivial rfl rfl (mv (v := I n) rfl) ?_
 refine q trivial rfl rfl (lss (k := .i64) (a := n) (b := (-9223372036854775807)) rfl rfl) ?_
 refine nl ?_
 refine nN ?_
 refine cdd (p := n < (-9223372036854775807)) rfl (fun h1 => absurd h1 (by omega)) (fun h1 => ?_)
 refine sk ?_
 refine nN ?_
 refine sq ?_
 refine sq ?_
 refine rg ?_
 refine q trivial rfl rfl (mv (v := I n) rfl) ?_
 refine q trivial rfl rfl (lss (k := .i64) (a := n) (b := 0) rfl rfl) ?_
 refine nl ?_
 refine nN ?_
 refine cdd (p := n < 0) rfl (fun h2 => absurd h2 (by omega)) (fun h2 => ?_)
 refine sk ?_
 refine nN ?_
 refine sq ?_
 refine sq ?_
 refine rg ?_
 refine q trivial rfl rfl (mv (v := I n) rfl) ?_
 refine q trivial rfl rfl (lss (k := .i64) (a := n) (b := 10) rfl rfl) ?_
 refine nl ?_
 refine nN ?_
 refine cdd (p := n < 10) rfl (fun h3 => ?_) (fun h3 => ?_)
 · refine sq ?_
   refine rg ?_
   refine q trivial rfl rfl (mv (v := I n) rfl) ?_
   refine q trivial rfl rfl (add (a := 48) (b := n) rfl rfl (by first | (exact ⟨by omega, by omega⟩) | (have hdl := Lib.itoa_length_le (n / 10) (by omega) (by omega); exact ⟨by omega, by omega⟩))) ?_
   refine q trivial rfl rfl (cvB (a := 48 + n) (s := .i64) ti3 ti5 rfl (by first | (omega) | (have hdl := Lib.itoa_length_le (n / 10) (by omega) (by omega); omega)) (by first | (omega) | (have hdl := Lib.itoa_length_le (n / 10) (by omega) (by omega); omega))) ?_
   refine bsk hs0 sl73 [.int .u8 (((UInt8.ofNat (48 + n).toNat).toNat : Nat) : Int)] [.int .u8 (((UInt8.ofNat (48 + n).toNat).toNat : Nat) : Int)] trivial rfl (fun b1 w1 (hs1 : SH w w1 [] [.own (some ⟨b1, 0, none⟩) (([(UInt8.ofNat (48 + n).toNat)] : List UInt8).length) 1 5 1 (([(UInt8.ofNat (48 + n).toNat)] : List UInt8).map U)]) => ?_)
   refine q trivial rfl rfl (cvS (l := ([(UInt8.ofNat (48 + n).toNat)] : List UInt8)) us73 ti5 st9 rfl (hs1.sl0 0 rfl)) ?_
   refine q trivial rfl rfl (asg (v := Str ([(UInt8.ofNat (48 + n).toNat)] : List UInt8)) rfl) ?_
   refine nl ?_
   refine nN ?_
   refine rt (tR ?_)
   refine fret (v := Str ([(UInt8.ofNat (48 + n).toNat)] : List UInt8)) (.tmp .nil) rfl ?_
   have e1 : ([(UInt8.ofNat (48 + n).toNat)] : List UInt8) = Lib.itoa n := by first | exact decDigits_small (by omega) (by omega) | exact decDigits_big (by omega)
   exact ⟨(congrArg (Str) e1), (hs1.pick [] rfl (by decide))⟩
 · refine sk ?_
   refine nN ?_
   refine sq ?_
   refine raJ (fun w' => ∃ L, SH w w' [] L ∧ True) (fun f w' => ∃ (b7' : Nat), Has f [(2, Str ((Lib.itoa (n / 10)) ++ ([(UInt8.ofNat (48 + (n % 10)).toNat)] : List UInt8)))] ∧ SH w w' [] [.own (some ⟨b7', 0, none⟩) (([(UInt8.ofNat (48 + (n % 10)).toNat)] : List UInt8).length) 1 5 1 (([(UInt8.ofNat (48 + (n % 10)).toNat)] : List UInt8).map U)]) mixed ?_ ?_
   · refine dag (fuel' := 3) (listed' := lbits 11 255) (fun f w' => ∃ (b7' : Nat), Has f [(2, Str []), (20, Str (Lib.itoa (n / 10))), (25, sb b7' (([(UInt8.ofNat (48 + (n % 10)).toNat)] : List UInt8).length) 1)] ∧ SH w w' [] [.own (some ⟨b7', 0, none⟩) (([(UInt8.ofNat (48 + (n % 10)).toNat)] : List UInt8).length) 1 5 1 (([(UInt8.ofNat (48 + (n % 10)).toNat)] : List UInt8).map U)]) ?_ (fun D_7_0 => ?_)
     · rintro f w2 ⟨b7', hf, hs2⟩
       obtain ⟨g1, rfl⟩ := has_upd hf
       clear hf
       refine aaL [8] (fa_one ?_)
       refine one_ rfl ?_
       refine q trivial rfl rfl (cvS (l := ([(UInt8.ofNat (48 + (n % 10)).toNat)] : List UInt8)) us73 ti5 st9 rfl (hs2.sl0 0 rfl)) ?_
       refine nl (kq ⟨_, hs2, trivial⟩ ?_)
       refine tk (fuel := 0) (is := [9, 10]) (.cons rfl (.cons rfl (.nil))) (by kernel_rfl) (by kernel_rfl) ⟨_, hs2, trivial⟩ ?_
       refine .op trivial rfl rfl (fun wq _ => cat (l := Lib.itoa (n / 10)) (m := ([(UInt8.ofNat (48 + (n % 10)).toNat)] : List UInt8)) rfl rfl (by first | (first | omega | (simp; done) | (simp; omega)) | (have hdl := Lib.itoa_length_le (n / 10) (by omega) (by omega); first | omega | (simp; done) | (simp; omega)))) ?_
       refine .op trivial rfl rfl (fun wq _ => asg (v := Str ((Lib.itoa (n / 10)) ++ ([(UInt8.ofNat (48 + (n % 10)).toNat)] : List UInt8))) rfl) ?_
       refine .nil ?_
       refine ad (by kernel_rfl) ?_
       exact ⟨b7', ⟨rfl, trivial⟩, hs2⟩
     refine dag (fuel' := 3) (listed' := lbits 11 507) (fun f w' => ∃ (b7' : Nat), Has f [(2, Str []), (19, I (n / 10)), (26, Str ([(UInt8.ofNat (48 + (n % 10)).toNat)] : List UInt8))] ∧ SH w w' [] [.own (some ⟨b7', 0, none⟩) (([(UInt8.ofNat (48 + (n % 10)).toNat)] : List UInt8).length) 1 5 1 (([(UInt8.ofNat (48 + (n % 10)).toNat)] : List UInt8).map U)]) ?_ (fun D_7_1 => ?_)
     · rintro f w3 ⟨b7', hf, hs3⟩
       obtain ⟨g2, rfl⟩ := has_upd hf
       clear hf
       refine aaL [2] (fa_one ?_)
       refine one_ rfl ?_
       refine cl trivial rfl (ih (n / 10) _ (by first | (omega) | (have hdl := Lib.itoa_length_le (n / 10) (by omega) (by omega); omega)) (by first | (omega) | (have hdl := Lib.itoa_length_le (n / 10) (by omega) (by omega); omega))) ?_
       rintro _ w4 ⟨rfl, hs4'⟩
       have hs4 := hs3.call0 hs4'
       clear hs4'
       refine nl (kq ⟨_, hs4, trivial⟩ ?_)
       refine tk (fuel := 0) (is := [9, 10]) (.cons rfl (.cons rfl (.nil))) (by kernel_rfl) (by kernel_rfl) ⟨_, hs4, trivial⟩ ?_
       refine .op trivial rfl rfl (fun wq _ => cat (l := Lib.itoa (n / 10)) (m := ([(UInt8.ofNat (48 + (n % 10)).toNat)] : List UInt8)) rfl rfl (by first | (first | omega | (simp; done) | (simp; omega)) | (have hdl := Lib.itoa_length_le (n / 10) (by omega) (by omega); first | omega | (simp; done) | (simp; omega)))) ?_
       refine .op trivial rfl rfl (fun wq _ => asg (v := Str ((Lib.itoa (n / 10)) ++ ([(UInt8.ofNat (48 + (n % 10)).toNat)] : List UInt8))) rfl) ?_
       refine .nil ?_
       refine ad (by kernel_rfl) ?_
       exact ⟨b7', ⟨rfl, trivial⟩, hs4⟩
     refine dag (fuel' := 4) (listed' := lbits 11 127) (fun f w' => Has f [(2, Str []), (20, Str (Lib.itoa (n / 10))), (24, .int .u8 (((UInt8.ofNat (48 + (n % 10)).toNat).toNat : Nat) : Int))] ∧ SH w w' [] []) ?_ (fun D_7_2 => ?_)
     · rintro f w5 ⟨hf, hs5⟩
       obtain ⟨g3, rfl⟩ := has_upd hf
       clear hf
       refine aaL [7] (fa_one ?_)
       refine one_ rfl ?_
       refine bsk hs5 sl73 [.int .u8 (((UInt8.ofNat (48 + (n % 10)).toNat).toNat : Nat) : Int)] [.int .u8 (((UInt8.ofNat (48 + (n % 10)).toNat).toNat : Nat) : Int)] trivial rfl (fun b7' w6 hs6 => ?_)
       exact nl (kq ⟨_, hs6, trivial⟩ (alc D_7_0 ⟨b7', ⟨rfl, rfl, rfl, trivial⟩, hs6⟩))
     refine dag (fuel' := 4) (listed' := lbits 11 251) (fun f w' => ∃ (b7' : Nat), Has f [(2, Str []), (19, I (n / 10)), (25, sb b7' (([(UInt8.ofNat (48 + (n % 10)).toNat)] : List UInt8).length) 1)] ∧ SH w w' [] [.own (some ⟨b7', 0, none⟩) (([(UInt8.ofNat (48 + (n % 10)).toNat)] : List UInt8).length) 1 5 1 (([(UInt8.ofNat (48 + (n % 10)).toNat)] : List UInt8).map U)]) ?_ (fun D_7_3 => ?_)
     · rintro f w7 ⟨b7', hf, hs7⟩
       obtain ⟨g4, rfl⟩ := has_upd hf
       clear hf
       refine aaL [2, 8] (fa_cons ?_ (fa_one ?_))
       · refine one_ rfl ?_
         refine cl trivial rfl (ih (n / 10) _ (by first | (omega) | (have hdl := Lib.itoa_length_le (n / 10) (by omega) (by omega); omega)) (by first | (omega) | (have hdl := Lib.itoa_length_le (n / 10) (by omega) (by omega); omega))) ?_
         rintro _ w8 ⟨rfl, hs8'⟩
         have hs8 := hs7.call0 hs8'
         clear hs8'
         exact nl (kq ⟨_, hs8, trivial⟩ (alc D_7_0 ⟨b7', ⟨rfl, rfl, rfl, trivial⟩, hs8⟩))
       · refine one_ rfl ?_
         refine q trivial rfl rfl (cvS (l := ([(UInt8.ofNat (48 + (n % 10)).toNat)] : List UInt8)) us73 ti5 st9 rfl (hs7.sl0 0 rfl)) ?_
         exact nl (kq ⟨_, hs7, trivial⟩ (alc D_7_1 ⟨b7', ⟨rfl, rfl, rfl, trivial⟩, hs7⟩))
     refine dag (fuel' := 5) (listed' := lbits 11 123) (fun f w' => Has f [(2, Str []), (19, I (n / 10)), (24, .int .u8 (((UInt8.ofNat (48 + (n % 10)).toNat).toNat : Nat) : Int))] ∧ SH w w' [] []) ?_ (fun D_7_4 => ?_)
     · rintro f w9 ⟨hf, hs9⟩
       obtain ⟨g5, rfl⟩ := has_upd hf
       clear hf
       refine aaL [2, 7] (fa_cons ?_ (fa_one ?_))
       · refine one_ rfl ?_
         refine cl trivial rfl (ih (n / 10) _ (by first | (omega) | (have hdl := Lib.itoa_length_le (n / 10) (by omega) (by omega); omega)) (by first | (omega) | (have hdl := Lib.itoa_length_le (n / 10) (by omega) (by omega); omega))) ?_
         rintro _ w10 ⟨rfl, hs10'⟩
         have hs10 := hs9.call0 hs10'
         clear hs10'
         exact nl (kq ⟨_, hs10, trivial⟩ (alc D_7_2 ⟨⟨rfl, rfl, rfl, trivial⟩, hs10⟩))
       · refine one_ rfl ?_
         refine bsk hs9 sl73 [.int .u8 (((UInt8.ofNat (48 + (n % 10)).toNat).toNat : Nat) : Int)] [.int .u8 (((UInt8.ofNat (48 + (n % 10)).toNat).toNat : Nat) : Int)] trivial rfl (fun b7' w11 hs11 => ?_)
         exact nl (kq ⟨_, hs11, trivial⟩ (alc D_7_3 ⟨b7', ⟨rfl, rfl, rfl, trivial⟩, hs11⟩))
     have hs12 := hs0.drew
     refine tk (fuel := 5) (is := [0, 1, 3, 4, 5, 6]) (.cons rfl (.cons rfl (.cons rfl (.cons rfl (.cons rfl (.cons rfl (.nil))))))) (by kernel_rfl) (by kernel_rfl) ⟨_, hs12, trivial⟩ ?_
     refine .op trivial rfl rfl (fun wq _ => mv (v := I n) rfl) ?_
     refine .op trivial rfl rfl (fun wq _ => quo (a := n) (b := 10) rfl rfl (by first | (omega) | (have hdl := Lib.itoa_length_le (n / 10) (by omega) (by omega); omega)) (by first | (omega) | (have hdl := Lib.itoa_length_le (n / 10) (by omega) (by omega); omega)) (by first | (omega) | (have hdl := Lib.itoa_length_le (n / 10) (by omega) (by omega); omega))) ?_
     refine .op trivial rfl rfl (fun wq _ => mv (v := I n) rfl) ?_
     refine .op trivial rfl rfl (fun wq _ => rem (a := n) (b := 10) rfl rfl (by first | (omega) | (have hdl := Lib.itoa_length_le (n / 10) (by omega) (by omega); omega)) (by first | (omega) | (have hdl := Lib.itoa_length_le (n / 10) (by omega) (by omega); omega))) ?_
     refine .op trivial rfl rfl (fun wq _ => add (a := 48) (b := n % 10) rfl rfl (by first | (exact ⟨by omega, by omega⟩) | (have hdl := Lib.itoa_length_le (n / 10) (by omega) (by omega); exact ⟨by omega, by omega⟩))) ?_
     refine .op trivial rfl rfl (fun wq _ => cvB (a := 48 + (n % 10)) (s := .i64) ti3 ti5 rfl (by first | (omega) | (have hdl := Lib.itoa_length_le (n / 10) (by omega) (by omega); omega)) (by first | (omega) | (have hdl := Lib.itoa_length_le (n / 10) (by omega) (by omega); omega))) ?_
     refine .nil ?_
     exact alc D_7_4 ⟨⟨rfl, rfl, rfl, trivial⟩, hs12⟩
   rintro f w12 ⟨b7', hf, hs13⟩
   obtain ⟨g6, rfl⟩ := has_upd hf
   clear hf
   refine nN ?_
   refine rt ?_
   refine fret (v := Str ((Lib.itoa (n / 10)) ++ ([(UInt8.ofNat (48 + (n % 10)).toNat)] : List UInt8))) (.tmp .nil) rfl ?_
   have e2 : (Lib.itoa (n / 10)) ++ ([(UInt8.ofNat (48 + (n % 10)).toNat)] : List UInt8) = Lib.itoa n := by first | exact decDigits_small (by omega) (by omega) | exact decDigits_big (by omega)
   exact ⟨(congrArg (Str) e2), (hs13.pick [] rfl (by decide))⟩

theorem l6Dec (n : Int) (w : World) (hn : 0 ≤ n ∧ n ≤ 9223372036854775807) : Does Tryz.prog 73 [I n] w (fun v w' => v = Str (Lib.itoa n) ∧ SH w w' [] []) := by
  have key : ∀ (j : Nat) (n : Int) (w : World), n.toNat = j → 0 ≤ n → n ≤ 9223372036854775807 → Does Tryz.prog 73 [I n] w (fun v w' => v = Str (Lib.itoa n) ∧ SH w w' [] []) := by
    intro j
    induction j using Nat.strongRecOn with
    | _ j ih =>
      intro n w hj h0 h1
      exact l6DecStep n w ⟨h0, h1⟩ (fun m w hm0 hmn => ih m.toNat (by omega) m w rfl hm0 (by omega))
  exact key _ n w rfl hn.1 hn.2

theorem iQuadText {Aqs : Option Addr} {cqs : Nat} (qs : List Int) (w : World) (hqs : Sl w [] 1 Aqs qs.length cqs (qs.map I)) (hq : quadOk qs = true) (hGp : Lib.TabIs Tryz.prog w "internal/strconv.uint64pow10" .u64 Lib.pow10Tab) : Does Tryz.prog 60 [.slice Aqs qs.length cqs] w (fun v w' => v = Str (quadT qs) ∧ SH w w' [] []) := by
 refine fn_enter (N := 24) Tryz.func60 rfl (by kernel_rfl) rfl rfl rfl ?_
 have hs0 : SH w w [] [] := SH.refl w []
 have hqs_m : qs.length ≤ 9223372036854775807 := Nat.le_trans hqs.cap hqs.capMax
 refine sq ?_
 refine rg ?_
 refine q trivial rfl rfl (asg (v := Str []) rfl) ?_
 refine nl ?_
 refine nN ?_
 refine sq ?_
 refine rg ?_
 refine q trivial rfl rfl (mv (v := .slice Aqs qs.length cqs) rfl) ?_
 refine q trivial rfl rfl (lnA (n := qs.length) sl23 rfl) ?_
 refine mkm (g := Str) (z := []) (n := qs.length) hs0 sl81 rfl rfl rfl (by first | (omega) | (have hq4 := quadOk_len hq; omega)) (by unfold maxLen; first | (omega) | (have hq4 := quadOk_len hq; omega)) trivial rfl (fun b1 w1 (hs1 : SH w w1 [] [.own (some ⟨b1, 0, none⟩) ((List.replicate qs.length ([] : List UInt8)).length) qs.length 9 1 ((List.replicate qs.length ([] : List UInt8)).map Str)]) => ?_)
 refine q trivial rfl rfl (asg (v := sb b1 ((List.replicate qs.length ([] : List UInt8)).length) qs.length) rfl) ?_
 refine nl ?_
 refine nN ?_
 refine sq ?_
 refine sq ?_
 refine rg ?_
 refine q trivial rfl rfl (mv (v := .slice Aqs qs.length cqs) rfl) ?_
 refine q trivial rfl rfl (lnA (n := qs.length) sl23 rfl) ?_
 refine q trivial rfl rfl (mv (v := I 0) rfl) ?_
 refine nl ?_
 refine nN ?_
 refine bl ?_
 have e1 : List.replicate qs.length ([] : List UInt8) = (qs.map Lib.itoa).take 0 ++ List.replicate (qs.length - 0) ([] : List UInt8) := by simp
 have e2 : (List.replicate qs.length ([] : List UInt8)).length = qs.length := by first | (first | rfl | (simp; done) | (simp; omega) | omega) | (have hq4 := quadOk_len hq; first | rfl | (simp; done) | (simp; omega) | omega)
 refine lp (σ := Nat) (fun (k : Nat) f w' => Has f [(3, sb b1 qs.length qs.length), (9, .slice Aqs qs.length cqs), (10, I ((qs.length : Nat) : Int)), (11, I ((k : Nat) : Int))] ∧ (k ≤ qs.length) ∧ SH w w' [] [.own (some ⟨b1, 0, none⟩) qs.length qs.length 9 1 (((qs.map Lib.itoa).take k ++ List.replicate (qs.length - k) ([] : List UInt8)).map Str)]) (fun k => qs.length - k) 0 ⟨⟨(show (.slice (some ⟨b1, 0, none⟩) ((List.replicate qs.length ([] : List UInt8)).length) qs.length : Value) = .slice (some ⟨b1, 0, none⟩) qs.length qs.length from slv rfl e2 rfl), rfl, rfl, rfl, trivial⟩, (by simp), (hs1.cast (lc (own_eq (g := Str) rfl e2 rfl e1) rfl))⟩ ?_
 rintro k f w2 ⟨hf, hk, hs2⟩
 obtain ⟨g1, rfl⟩ := has_upd hf
 clear hf
 refine sq ?_
 refine rg ?_
 refine q trivial rfl rfl (lss (k := .i64) (a := ((k : Nat) : Int)) (b := ((qs.length : Nat) : Int)) rfl rfl) ?_
 refine nl ?_
 refine nN ?_
 refine sq ?_
 refine cdd (p := ((k : Nat) : Int) < ((qs.length : Nat) : Int)) rfl (fun h1 => ?_) (fun h1 => ?_)
 · refine sk ?_
   refine nN ?_
   refine sq ?_
   refine bl ?_
   refine sq ?_
   refine rg ?_
   refine q trivial rfl rfl (mv (v := I ((k : Nat) : Int)) rfl) ?_
   refine ixw1 k sl23 rfl rfl hqs (by first | (first | omega | (simp; done) | (simp; omega)) | (have hq4 := quadOk_len hq; first | omega | (simp; done) | (simp; omega))) (getm I 0 (by first | (first | omega | (simp; done) | (simp; omega)) | (have hq4 := quadOk_len hq; first | omega | (simp; done) | (simp; omega)))) trivial rfl (fun a1 ha1 => ?_)
   refine q trivial rfl rfl (lda (v := I (qs.getD k 0)) hs2 ha1 (fun _ h => h) rfl rfl one3) ?_
   refine q trivial rfl rfl (asg (v := I ((k : Nat) : Int)) rfl) ?_
   refine q trivial rfl rfl (asg (v := I (qs.getD k 0)) rfl) ?_
   refine nl ?_
   refine nN ?_
   refine rg ?_
   refine q trivial rfl rfl (mv (v := sb b1 qs.length qs.length) rfl) ?_
   refine q trivial rfl rfl (mv (v := I ((k : Nat) : Int)) rfl) ?_
   refine q trivial rfl rfl (mv (v := I (qs.getD k 0)) rfl) ?_
   refine cl trivial rfl (stItoa (n := qs.getD k 0) (w := _) (hn := (by have hy := quad_get hq (k := k) (by omega); omega)) (hGp := (tab_up hGp hs2))) ?_
   rintro _ w3 ⟨rfl, hs3'⟩
   have hs3 : SH w w3 [] [.own (some ⟨b1, 0, none⟩) qs.length qs.length 9 1 (((qs.map Lib.itoa).take k ++ List.replicate (qs.length - k) ([] : List UInt8)).map Str)] := hs2.call0 hs3'
   clear hs3'
   refine q trivial rfl rfl (ixo k sl81 rfl rfl (by first | (first | omega | (simp; done) | (simp; omega)) | (have hq4 := quadOk_len hq; first | omega | (simp; done) | (simp; omega)))) ?_
   refine stomn (g := Str) (ys := (qs.map Lib.itoa).take k ++ List.replicate (qs.length - k) ([] : List UInt8)) (o := k) (u := Lib.itoa (qs.getD k 0)) hs3 0 rfl rfl rfl rfl (by first | (first | omega | (simp; done) | (simp; omega)) | (have hq4 := quadOk_len hq; first | omega | (simp; done) | (simp; omega))) rfl one9 trivial (fun w4 (hs4 : SH w w4 [] [.own (some ⟨b1, 0, none⟩) qs.length qs.length 9 1 ((((qs.map Lib.itoa).take k ++ List.replicate (qs.length - k) ([] : List UInt8)).set k (Lib.itoa (qs.getD k 0))).map Str)]) => ?_)
   refine nl ?_
   refine bN ?_
   refine nN ?_
   refine rg ?_
   refine q trivial rfl rfl (add (a := ((k : Nat) : Int)) (b := 1) rfl rfl (by first | (exact ⟨by omega, by omega⟩) | (have hq4 := quadOk_len hq; exact ⟨by omega, by omega⟩))) ?_
   refine q trivial rfl rfl (mv (v := I (((k : Nat) : Int) + 1)) rfl) ?_
   refine nl ?_
   refine nN ?_
   have e3 : ((qs.map Lib.itoa).take k ++ List.replicate (qs.length - k) ([] : List UInt8)).set k (Lib.itoa (qs.getD k 0)) = (qs.map Lib.itoa).take (k + 1) ++ List.replicate (qs.length - (k + 1)) ([] : List UInt8) := by exact quad_set (by omega)
   refine ⟨(k + 1), ⟨⟨rfl, rfl, rfl, rfl, trivial⟩, (by omega), (hs4.cast (lc (own_eq (g := Str) rfl rfl rfl e3) rfl))⟩, ?_⟩
   omega
 · refine ex (tE (tE (bE ?_)))
   refine nN ?_
   refine sq ?_
   refine rg ?_
   refine q trivial rfl rfl (mv (v := sb b1 qs.length qs.length) rfl) ?_
   have e4 : qs.length = ((qs.map Lib.itoa).take k ++ List.replicate (qs.length - k) ([] : List UInt8)).length := by first | rfl | (simp; done) | (simp; omega) | omega
   have hs5 : SH w w2 [] [.own (some ⟨b1, 0, none⟩) (((qs.map Lib.itoa).take k ++ List.replicate (qs.length - k) ([] : List UInt8)).length) qs.length 9 1 (((qs.map Lib.itoa).take k ++ List.replicate (qs.length - k) ([] : List UInt8)).map Str)] := (hs2.cast (lc (own_eq (g := Str) rfl e4 rfl rfl) rfl))
   refine cl trivial rfl (Does.castA (lc (slv rfl e4.symm rfl) (lc rfl rfl)) (stJoin (bxs := b1) (cxs := qs.length) (xs := (qs.map Lib.itoa).take k ++ List.replicate (qs.length - k) ([] : List UInt8)) (m := [46]) (w := _) (hxs := (hs5.sl0 0 rfl)) (hxs_n := (by first | (first | omega | (simp; done) | (simp; omega)) | (have hq4 := quadOk_len hq; first | omega | (simp; done) | (simp; omega)))) (hl := (by rw [quad_whole (by omega)]; exact Nat.le_trans (quadT_len hq) (by decide : 87 ≤ 140737488355328))))) ?_
   rintro _ w5 ⟨rfl, hs6'⟩
   have hs6 : SH w w5 [] [.own (some ⟨b1, 0, none⟩) (((qs.map Lib.itoa).take k ++ List.replicate (qs.length - k) ([] : List UInt8)).length) qs.length 9 1 (((qs.map Lib.itoa).take k ++ List.replicate (qs.length - k) ([] : List UInt8)).map Str)] := hs5.call0 hs6'
   clear hs6'
   refine q trivial rfl rfl (asg (v := Str (Lib.join ((qs.map Lib.itoa).take k ++ List.replicate (qs.length - k) ([] : List UInt8)) [46])) rfl) ?_
   refine nl ?_
   refine nN ?_
   refine rt ?_
   refine fret (v := Str (Lib.join ((qs.map Lib.itoa).take k ++ List.replicate (qs.length - k) ([] : List UInt8)) [46])) (.tmp .nil) rfl ?_
   have e5 : Lib.join ((qs.map Lib.itoa).take k ++ List.replicate (qs.length - k) ([] : List UInt8)) [46] = quadT qs := by rw [quad_whole (by omega)]; rfl
   exact ⟨(congrArg (Str) e5), (hs6.pick [] rfl (by decide))⟩

theorem sL2Quad {Aqs : Option Addr} {cqs : Nat} (qs : List Int) (w : World) (hqs : Sl w [] 1 Aqs qs.length cqs (qs.map I)) (hq : quadOk qs = true) : Does Tryz.prog 67 [.slice Aqs qs.length cqs] w (fun v w' => v = Str (quadT qs) ∧ SH w w' [] []) := by
 refine fn_enter (N := 25) Tryz.func67 rfl (by kernel_rfl) rfl rfl rfl ?_
 have hs0 : SH w w [] [] := SH.refl w []
 have hqs_m : qs.length ≤ 9223372036854775807 := Nat.le_trans hqs.cap hqs.capMax
 refine sq ?_
 refine rg ?_
 refine q trivial rfl rfl (asg (v := Str []) rfl) ?_
 refine nl ?_
 refine nN ?_
 refine sq ?_
 refine rq (fun w' => SH w w' [] []) mixed (by kernel_rfl) hs0.drew ?_
 refine qq trivial rfl rfl (fun wq hsq => mv (v := .slice Aqs qs.length cqs) rfl) ?_
 refine ixq1 0 sl23 rfl rfl hqs (by first | (first | omega | (simp; done) | (simp; omega)) | (have hq4 := quadOk_len hq; have g0 := itoa_b (quad_get hq (k := 0) (by omega)); have g1 := itoa_b (quad_get hq (k := 1) (by omega)); have g2 := itoa_b (quad_get hq (k := 2) (by omega)); have g3 := itoa_b (quad_get hq (k := 3) (by omega)); first | omega | (simp; done) | (simp; omega))) (getm I 0 (by first | (first | omega | (simp; done) | (simp; omega)) | (have hq4 := quadOk_len hq; have g0 := itoa_b (quad_get hq (k := 0) (by omega)); have g1 := itoa_b (quad_get hq (k := 1) (by omega)); have g2 := itoa_b (quad_get hq (k := 2) (by omega)); have g3 := itoa_b (quad_get hq (k := 3) (by omega)); first | omega | (simp; done) | (simp; omega)))) trivial rfl (fun a1 ha1 => ?_)
 refine qq trivial rfl rfl (fun wq hsq => lda (v := I (qs.getD 0 0)) hsq ha1 (fun _ h => h) rfl rfl one3) ?_
 refine qc (Str (Lib.itoa (qs.getD 0 0))) trivial rfl (fun wq hsq => (l6Dec (n := qs.getD 0 0) (w := _) (hn := (by have hq4 := quadOk_len hq; have g0 := quad_get hq (k := 0) (by omega); have g1 := quad_get hq (k := 1) (by omega); have g2 := quad_get hq (k := 2) (by omega); have g3 := quad_get hq (k := 3) (by omega); omega))).mono (fun v w' h => ⟨h.1, by simpa using hsq.call0 h.2⟩)) ?_
 refine qq trivial rfl rfl (fun wq hsq => cat (l := Lib.itoa (qs.getD 0 0)) (m := [46]) rfl rfl (by have hq4 := quadOk_len hq; have g0 := itoa_b (quad_get hq (k := 0) (by omega)); have g1 := itoa_b (quad_get hq (k := 1) (by omega)); have g2 := itoa_b (quad_get hq (k := 2) (by omega)); have g3 := itoa_b (quad_get hq (k := 3) (by omega)); simp only [List.length_append, List.length_cons, List.length_nil]; omega)) ?_
 refine qq trivial rfl rfl (fun wq hsq => mv (v := .slice Aqs qs.length cqs) rfl) ?_
 refine ixq1 1 sl23 rfl rfl hqs (by first | (first | omega | (simp; done) | (simp; omega)) | (have hq4 := quadOk_len hq; have g0 := itoa_b (quad_get hq (k := 0) (by omega)); have g1 := itoa_b (quad_get hq (k := 1) (by omega)); have g2 := itoa_b (quad_get hq (k := 2) (by omega)); have g3 := itoa_b (quad_get hq (k := 3) (by omega)); first | omega | (simp; done) | (simp; omega))) (getm I 0 (by first | (first | omega | (simp; done) | (simp; omega)) | (have hq4 := quadOk_len hq; have g0 := itoa_b (quad_get hq (k := 0) (by omega)); have g1 := itoa_b (quad_get hq (k := 1) (by omega)); have g2 := itoa_b (quad_get hq (k := 2) (by omega)); have g3 := itoa_b (quad_get hq (k := 3) (by omega)); first | omega | (simp; done) | (simp; omega)))) trivial rfl (fun a2 ha2 => ?_)
 refine qq trivial rfl rfl (fun wq hsq => lda (v := I (qs.getD 1 0)) hsq ha2 (fun _ h => h) rfl rfl one3) ?_
 refine qc (Str (Lib.itoa (qs.getD 1 0))) trivial rfl (fun wq hsq => (l6Dec (n := qs.getD 1 0) (w := _) (hn := (by have hq4 := quadOk_len hq; have g0 := quad_get hq (k := 0) (by omega); have g1 := quad_get hq (k := 1) (by omega); have g2 := quad_get hq (k := 2) (by omega); have g3 := quad_get hq (k := 3) (by omega); omega))).mono (fun v w' h => ⟨h.1, by simpa using hsq.call0 h.2⟩)) ?_
 refine qq trivial rfl rfl (fun wq hsq => cat (l := (Lib.itoa (qs.getD 0 0)) ++ [46]) (m := Lib.itoa (qs.getD 1 0)) rfl rfl (by have hq4 := quadOk_len hq; have g0 := itoa_b (quad_get hq (k := 0) (by omega)); have g1 := itoa_b (quad_get hq (k := 1) (by omega)); have g2 := itoa_b (quad_get hq (k := 2) (by omega)); have g3 := itoa_b (quad_get hq (k := 3) (by omega)); simp only [List.length_append, List.length_cons, List.length_nil]; omega)) ?_
 refine qq trivial rfl rfl (fun wq hsq => cat (l := ((Lib.itoa (qs.getD 0 0)) ++ [46]) ++ (Lib.itoa (qs.getD 1 0))) (m := [46]) rfl rfl (by have hq4 := quadOk_len hq; have g0 := itoa_b (quad_get hq (k := 0) (by omega)); have g1 := itoa_b (quad_get hq (k := 1) (by omega)); have g2 := itoa_b (quad_get hq (k := 2) (by omega)); have g3 := itoa_b (quad_get hq (k := 3) (by omega)); simp only [List.length_append, List.length_cons, List.length_nil]; omega)) ?_
 refine qq trivial rfl rfl (fun wq hsq => mv (v := .slice Aqs qs.length cqs) rfl) ?_
 refine ixq1 2 sl23 rfl rfl hqs (by first | (first | omega | (simp; done) | (simp; omega)) | (have hq4 := quadOk_len hq; have g0 := itoa_b (quad_get hq (k := 0) (by omega)); have g1 := itoa_b (quad_get hq (k := 1) (by omega)); have g2 := itoa_b (quad_get hq (k := 2) (by omega)); have g3 := itoa_b (quad_get hq (k := 3) (by omega)); first | omega | (simp; done) | (simp; omega))) (getm I 0 (by first | (first | omega | (simp; done) | (simp; omega)) | (have hq4 := quadOk_len hq; have g0 := itoa_b (quad_get hq (k := 0) (by omega)); have g1 := itoa_b (quad_get hq (k := 1) (by omega)); have g2 := itoa_b (quad_get hq (k := 2) (by omega)); have g3 := itoa_b (quad_get hq (k := 3) (by omega)); first | omega | (simp; done) | (simp; omega)))) trivial rfl (fun a3 ha3 => ?_)
 refine qq trivial rfl rfl (fun wq hsq => lda (v := I (qs.getD 2 0)) hsq ha3 (fun _ h => h) rfl rfl one3) ?_
 refine qc (Str (Lib.itoa (qs.getD 2 0))) trivial rfl (fun wq hsq => (l6Dec (n := qs.getD 2 0) (w := _) (hn := (by have hq4 := quadOk_len hq; have g0 := quad_get hq (k := 0) (by omega); have g1 := quad_get hq (k := 1) (by omega); have g2 := quad_get hq (k := 2) (by omega); have g3 := quad_get hq (k := 3) (by omega); omega))).mono (fun v w' h => ⟨h.1, by simpa using hsq.call0 h.2⟩)) ?_
 refine qq trivial rfl rfl (fun wq hsq => cat (l := (((Lib.itoa (qs.getD 0 0)) ++ [46]) ++ (Lib.itoa (qs.getD 1 0))) ++ [46]) (m := Lib.itoa (qs.getD 2 0)) rfl rfl (by have hq4 := quadOk_len hq; have g0 := itoa_b (quad_get hq (k := 0) (by omega)); have g1 := itoa_b (quad_get hq (k := 1) (by omega)); have g2 := itoa_b (quad_get hq (k := 2) (by omega)); have g3 := itoa_b (quad_get hq (k := 3) (by omega)); simp only [List.length_append, List.length_cons, List.length_nil]; omega)) ?_
 refine qq trivial rfl rfl (fun wq hsq => cat (l := ((((Lib.itoa (qs.getD 0 0)) ++ [46]) ++ (Lib.itoa (qs.getD 1 0))) ++ [46]) ++ (Lib.itoa (qs.getD 2 0))) (m := [46]) rfl rfl (by have hq4 := quadOk_len hq; have g0 := itoa_b (quad_get hq (k := 0) (by omega)); have g1 := itoa_b (quad_get hq (k := 1) (by omega)); have g2 := itoa_b (quad_get hq (k := 2) (by omega)); have g3 := itoa_b (quad_get hq (k := 3) (by omega)); simp only [List.length_append, List.length_cons, List.length_nil]; omega)) ?_
 refine qq trivial rfl rfl (fun wq hsq => mv (v := .slice Aqs qs.length cqs) rfl) ?_
 refine ixq1 3 sl23 rfl rfl hqs (by first | (first | omega | (simp; done) | (simp; omega)) | (have hq4 := quadOk_len hq; have g0 := itoa_b (quad_get hq (k := 0) (by omega)); have g1 := itoa_b (quad_get hq (k := 1) (by omega)); have g2 := itoa_b (quad_get hq (k := 2) (by omega)); have g3 := itoa_b (quad_get hq (k := 3) (by omega)); first | omega | (simp; done) | (simp; omega))) (getm I 0 (by first | (first | omega | (simp; done) | (simp; omega)) | (have hq4 := quadOk_len hq; have g0 := itoa_b (quad_get hq (k := 0) (by omega)); have g1 := itoa_b (quad_get hq (k := 1) (by omega)); have g2 := itoa_b (quad_get hq (k := 2) (by omega)); have g3 := itoa_b (quad_get hq (k := 3) (by omega)); first | omega | (simp; done) | (simp; omega)))) trivial rfl (fun a4 ha4 => ?_)
 refine qq trivial rfl rfl (fun wq hsq => lda (v := I (qs.getD 3 0)) hsq ha4 (fun _ h => h) rfl rfl one3) ?_
 refine qc (Str (Lib.itoa (qs.getD 3 0))) trivial rfl (fun wq hsq => (l6Dec (n := qs.getD 3 0) (w := _) (hn := (by have hq4 := quadOk_len hq; have g0 := quad_get hq (k := 0) (by omega); have g1 := quad_get hq (k := 1) (by omega); have g2 := quad_get hq (k := 2) (by omega); have g3 := quad_get hq (k := 3) (by omega); omega))).mono (fun v w' h => ⟨h.1, by simpa using hsq.call0 h.2⟩)) ?_
 refine qq trivial rfl rfl (fun wq hsq => cat (l := (((((Lib.itoa (qs.getD 0 0)) ++ [46]) ++ (Lib.itoa (qs.getD 1 0))) ++ [46]) ++ (Lib.itoa (qs.getD 2 0))) ++ [46]) (m := Lib.itoa (qs.getD 3 0)) rfl rfl (by have hq4 := quadOk_len hq; have g0 := itoa_b (quad_get hq (k := 0) (by omega)); have g1 := itoa_b (quad_get hq (k := 1) (by omega)); have g2 := itoa_b (quad_get hq (k := 2) (by omega)); have g3 := itoa_b (quad_get hq (k := 3) (by omega)); simp only [List.length_append, List.length_cons, List.length_nil]; omega)) ?_
 refine qq trivial rfl rfl (fun wq hsq => asg (v := Str (((((((Lib.itoa (qs.getD 0 0)) ++ [46]) ++ (Lib.itoa (qs.getD 1 0))) ++ [46]) ++ (Lib.itoa (qs.getD 2 0))) ++ [46]) ++ (Lib.itoa (qs.getD 3 0)))) rfl) ?_
 refine qn (fun w1 hs1 => ?_)
 refine nN ?_
 refine rt ?_
 refine fret (v := Str (((((((Lib.itoa (qs.getD 0 0)) ++ [46]) ++ (Lib.itoa (qs.getD 1 0))) ++ [46]) ++ (Lib.itoa (qs.getD 2 0))) ++ [46]) ++ (Lib.itoa (qs.getD 3 0)))) (.tmp .nil) rfl ?_
 have e1 : ((((((Lib.itoa (qs.getD 0 0)) ++ [46]) ++ (Lib.itoa (qs.getD 1 0))) ++ [46]) ++ (Lib.itoa (qs.getD 2 0))) ++ [46]) ++ (Lib.itoa (qs.getD 3 0)) = quadT qs := by exact (quadT_eq (quadOk_len hq)).symm
 exact ⟨(congrArg (Str) e1), hs1⟩

theorem iHostText (ak : Int) {Aaq : Option Addr} {caq : Nat} (aq : List Int) (an : List UInt8) (apt : Int) (w : World) (haq : Sl w [] 1 Aaq aq.length caq (aq.map I)) (han_n : an.length ≤ 1099511627776) (hok : addrOk ak aq an apt = true) (hGp : Lib.TabIs Tryz.prog w "internal/strconv.uint64pow10" .u64 Lib.pow10Tab) : Does Tryz.prog 47 [.agg #[I ak, .slice Aaq aq.length caq, Str an, I apt]] w (fun v w' => v = Str (hostT ak aq an) ∧ SH w w' [] []) := by
 refine fn_enter (N := 11) Tryz.func47 rfl (by kernel_rfl) rfl rfl rfl ?_
 have hs0 : SH w w [] [] := SH.refl w []
 have haq_m : aq.length ≤ 9223372036854775807 := Nat.le_trans haq.cap haq.capMax
 refine sq ?_
 refine rg ?_
 refine bx (v := .agg #[I ak, .slice Aaq aq.length caq, Str an, I apt]) (cs := [I ak, .slice Aaq aq.length caq, Str an, I apt]) hs0 rfl rfl trivial rfl (fun b1 w1 (hs1 : SH w w1 [] [.blk b1 34 [I ak, .slice Aaq aq.length caq, Str an, I apt]]) => ?_)
 refine q trivial rfl rfl (asg (v := Str []) rfl) ?_
 refine nl ?_
 refine nN ?_
 refine sq ?_
 refine sq ?_
 refine rg ?_
 refine q trivial rfl rfl (fa 0 fo34_0 rfl) ?_
 refine q trivial rfl rfl (ld (v := I ak) hs1 0 rfl rfl rfl one3) ?_
 refine q trivial rfl rfl (eqi (k := .i64) (a := ak) (b := 1) rfl rfl) ?_
 refine nl ?_
 refine nN ?_
 refine cdd (p := ak = 1) rfl (fun h1 => ?_) (fun h1 => ?_)
 · refine sq ?_
   refine rg ?_
   refine q trivial rfl rfl (fa 1 fo34_1 rfl) ?_
   refine q trivial rfl rfl (ld (v := .slice Aaq aq.length caq) hs1 0 rfl rfl rfl one23) ?_
   refine cl trivial rfl (iQuadText (Aqs := Aaq) (cqs := caq) (qs := aq) (w := _) (hqs := (haq.up0 hs1)) (hq := (by exact addr_quad hok (by assumption))) (hGp := (tab_up hGp hs1))) ?_
   rintro _ w2 ⟨rfl, hs2'⟩
   have hs2 : SH w w2 [] [.blk b1 34 [I ak, .slice Aaq aq.length caq, Str an, I apt]] := hs1.call0 hs2'
   clear hs2'
   refine q trivial rfl rfl (asg (v := Str (quadT aq)) rfl) ?_
   refine nl ?_
   refine nN ?_
   refine rt (tR ?_)
   refine fret (v := Str (quadT aq)) (.tmp .nil) rfl ?_
   have e1 : quadT aq = hostT ak aq an := by simp [hostT, h1]
   exact ⟨(congrArg (Str) e1), (hs2.pick [] rfl (by decide))⟩
 · refine sk ?_
   refine nN ?_
   refine sq ?_
   refine rg ?_
   refine q trivial rfl rfl (fa 2 fo34_2 rfl) ?_
   refine q trivial rfl rfl (ld (v := Str an) hs1 0 rfl rfl rfl one9) ?_
   refine q trivial rfl rfl (asg (v := Str an) rfl) ?_
   refine nl ?_
   refine nN ?_
   refine rt ?_
   refine fret (v := Str an) (.tmp .nil) rfl ?_
   have e2 : an = hostT ak aq an := by simp [hostT, h1]
   exact ⟨(congrArg (Str) e2), (hs1.pick [] rfl (by decide))⟩

theorem sL3Host (ak : Int) {Aaq : Option Addr} {caq : Nat} (aq : List Int) (an : List UInt8) (apt : Int) (w : World) (haq : Sl w [] 1 Aaq aq.length caq (aq.map I)) (han_n : an.length ≤ 1099511627776) (hok : addrOk ak aq an apt = true) : Does Tryz.prog 52 [.agg #[I ak, .slice Aaq aq.length caq, Str an, I apt]] w (fun v w' => v = Str (hostT ak aq an) ∧ SH w w' [] []) := by
 refine fn_enter (N := 11) Tryz.func52 rfl (by kernel_rfl) rfl rfl rfl ?_
 have hs0 : SH w w [] [] := SH.refl w []
 have haq_m : aq.length ≤ 9223372036854775807 := Nat.le_trans haq.cap haq.capMax
 refine sq ?_
 refine rg ?_
 refine bx (v := .agg #[I ak, .slice Aaq aq.length caq, Str an, I apt]) (cs := [I ak, .slice Aaq aq.length caq, Str an, I apt]) hs0 rfl rfl trivial rfl (fun b1 w1 (hs1 : SH w w1 [] [.blk b1 34 [I ak, .slice Aaq aq.length caq, Str an, I apt]]) => ?_)
 refine q trivial rfl rfl (asg (v := Str []) rfl) ?_
 refine nl ?_
 refine nN ?_
 refine sq ?_
 refine sq ?_
 refine rg ?_
 refine q trivial rfl rfl (fa 0 fo34_0 rfl) ?_
 refine q trivial rfl rfl (ld (v := I ak) hs1 0 rfl rfl rfl one3) ?_
 refine q trivial rfl rfl (eqi (k := .i64) (a := ak) (b := 1) rfl rfl) ?_
 refine nl ?_
 refine nN ?_
 refine cdd (p := ak = 1) rfl (fun h1 => ?_) (fun h1 => ?_)
 · refine sq ?_
   refine rg ?_
   refine q trivial rfl rfl (fa 1 fo34_1 rfl) ?_
   refine q trivial rfl rfl (ld (v := .slice Aaq aq.length caq) hs1 0 rfl rfl rfl one23) ?_
   refine cl trivial rfl (sL2Quad (Aqs := Aaq) (cqs := caq) (qs := aq) (w := _) (hqs := (haq.up0 hs1)) (hq := (by exact addr_quad hok (by assumption)))) ?_
   rintro _ w2 ⟨rfl, hs2'⟩
   have hs2 : SH w w2 [] [.blk b1 34 [I ak, .slice Aaq aq.length caq, Str an, I apt]] := hs1.call0 hs2'
   clear hs2'
   refine q trivial rfl rfl (asg (v := Str (quadT aq)) rfl) ?_
   refine nl ?_
   refine nN ?_
   refine rt (tR ?_)
   refine fret (v := Str (quadT aq)) (.tmp .nil) rfl ?_
   have e1 : quadT aq = hostT ak aq an := by simp [hostT, h1]
   exact ⟨(congrArg (Str) e1), (hs2.pick [] rfl (by decide))⟩
 · refine sk ?_
   refine nN ?_
   refine sq ?_
   refine rg ?_
   refine q trivial rfl rfl (fa 2 fo34_2 rfl) ?_
   refine q trivial rfl rfl (ld (v := Str an) hs1 0 rfl rfl rfl one9) ?_
   refine q trivial rfl rfl (asg (v := Str an) rfl) ?_
   refine nl ?_
   refine nN ?_
   refine rt ?_
   refine fret (v := Str an) (.tmp .nil) rfl ?_
   have e2 : an = hostT ak aq an := by simp [hostT, h1]
   exact ⟨(congrArg (Str) e2), (hs1.pick [] rfl (by decide))⟩

theorem slHasSuffix (s : List UInt8) (t : List UInt8) (w : World) (hs_n : s.length ≤ 9223372036854775807) (ht_n : t.length ≤ 9223372036854775807) : Does Tryz.prog 59 [Str s, Str t] w (fun v w' => v = .bool (decide (sufP s t)) ∧ SH w w' [] []) := by
 refine fn_enter (N := 21) Tryz.func59 rfl (by kernel_rfl) rfl rfl rfl ?_
 have hs0 : SH w w [] [] := SH.refl w []
 refine sq ?_
 refine rg ?_
 refine q trivial rfl rfl (asg (v := .bool false) rfl) ?_
 refine nl ?_
 refine nN ?_
 refine sq ?_
 refine rg ?_
 refine q trivial rfl rfl (mv (v := Str s) rfl) ?_
 refine q trivial rfl rfl (lnS (l := s) st9 rfl) ?_
 refine q trivial rfl rfl (mv (v := Str t) rfl) ?_
 refine q trivial rfl rfl (lnS (l := t) st9 rfl) ?_
 refine q trivial rfl rfl (geq (k := .i64) (a := ((s.length : Nat) : Int)) (b := ((t.length : Nat) : Int)) rfl rfl) ?_
 refine q trivial rfl rfl (mv (v := .bool (decide (((t.length : Nat) : Int) ≤ ((s.length : Nat) : Int)))) rfl) ?_
 refine spd (p := ((t.length : Nat) : Int) ≤ ((s.length : Nat) : Int)) 10 rfl (fun h1 => ?_) (fun h1 => ?_)
 · refine q ⟨_, rfl, rfl⟩ rfl rfl (mv (v := Str s) rfl) ?_
   refine q ⟨_, rfl, rfl⟩ rfl rfl (mv (v := Str s) rfl) ?_
   refine q ⟨_, rfl, rfl⟩ rfl rfl (lnS (l := s) st9 rfl) ?_
   refine q ⟨_, rfl, rfl⟩ rfl rfl (mv (v := Str t) rfl) ?_
   refine q ⟨_, rfl, rfl⟩ rfl rfl (lnS (l := t) st9 rfl) ?_
   refine q ⟨_, rfl, rfl⟩ rfl rfl (subN (a := s.length) (b := t.length) rfl rfl (by omega) (by omega)) ?_
   refine q ⟨_, rfl, rfl⟩ rfl rfl (culs (l := s) (s.length - t.length) st9 rfl rfl (by first | omega | (simp; done) | (simp; omega))) ?_
   refine q ⟨_, rfl, rfl⟩ rfl rfl (mv (v := Str t) rfl) ?_
   refine q ⟨_, rfl, rfl⟩ rfl rfl (eqs (l := s.drop (s.length - t.length)) (m := t) rfl rfl) ?_
   refine q trivial rfl rfl (pt (v := .bool (decide (s.drop (s.length - t.length) = t))) rfl rfl) ?_
   refine q trivial rfl rfl (asg (v := .bool (decide (s.drop (s.length - t.length) = t))) rfl) ?_
   refine nl ?_
   refine nN ?_
   refine rt ?_
   refine fret (v := .bool (decide (s.drop (s.length - t.length) = t))) (.tmp .nil) rfl ?_
   have e1 : (decide (s.drop (s.length - t.length) = t)) = (decide (sufP s t)) := by first | rfl | exact suf1 (by assumption) | exact suf2 (by assumption)
   exact ⟨(congrArg (Value.bool) e1), hs0⟩
 · refine gk false rfl rfl rfl rfl rfl ?_
   refine gk false rfl rfl rfl rfl rfl ?_
   refine gk false rfl rfl rfl rfl rfl ?_
   refine gk false rfl rfl rfl rfl rfl ?_
   refine gk false rfl rfl rfl rfl rfl ?_
   refine gk false rfl rfl rfl rfl rfl ?_
   refine gk false rfl rfl rfl rfl rfl ?_
   refine gk false rfl rfl rfl rfl rfl ?_
   refine gk false rfl rfl rfl rfl rfl ?_
   refine q trivial rfl rfl (pf (v := .bool false) rfl rfl) ?_
   refine q trivial rfl rfl (asg (v := .bool false) rfl) ?_
   refine nl ?_
   refine nN ?_
   refine rt ?_
   refine fret (v := .bool false) (.tmp .nil) rfl ?_
   have e2 : false = (decide (sufP s t)) := by first | rfl | exact suf1 (by assumption) | exact suf2 (by assumption)
   exact ⟨(congrArg (Value.bool) e2), hs0⟩

theorem stHasSuffix (s : List UInt8) (t : List UInt8) (w : World) (hs_n : s.length ≤ 9223372036854775807) (ht_n : t.length ≤ 9223372036854775807) : Does Tryz.prog 46 [Str s, Str t] w (fun v w' => v = .bool (decide (sufP s t)) ∧ SH w w' [] []) := by
 refine fn_enter (N := 8) Tryz.func46 rfl (by kernel_rfl) rfl rfl rfl ?_
 have hs0 : SH w w [] [] := SH.refl w []
 refine sq ?_
 refine rg ?_
 refine q trivial rfl rfl (asg (v := .bool false) rfl) ?_
 refine nl ?_
 refine nN ?_
 refine sq ?_
 refine rg ?_
 refine q trivial rfl rfl (mv (v := Str s) rfl) ?_
 refine q trivial rfl rfl (mv (v := Str t) rfl) ?_
 refine cl trivial rfl (slHasSuffix (s := s) (t := t) (w := _) (hs_n := (by first | omega | (simp; done) | (simp; omega))) (ht_n := (by first | omega | (simp; done) | (simp; omega)))) ?_
 rintro _ w1 ⟨rfl, hs1'⟩
 have hs1 : SH w w1 [] [] := hs0.call0 hs1'
 clear hs1'
 refine q trivial rfl rfl (asg (v := .bool (decide (sufP s t))) rfl) ?_
 refine nl ?_
 refine nN ?_
 refine rt ?_
 refine fret (v := .bool (decide (sufP s t))) (.tmp .nil) rfl ?_
 exact ⟨rfl, hs1⟩

theorem sL32Fits (l : List UInt8) (n : Int) (b : Bool) (ak : Int) {Aaq : Option Addr} {caq : Nat} (aq : List Int) (an : List UInt8) (apt : Int) (w : World) (hl_n : l.length ≤ 9223372036854775807) (haq : Sl w [] 1 Aaq aq.length caq (aq.map I)) (han_n : an.length ≤ 1099511627776) (hok : addrOk ak aq an apt = true) : Does Tryz.prog 38 [.agg #[Str l, I n, .bool b], .agg #[I ak, .slice Aaq aq.length caq, Str an, I apt]] w (fun v w' => v = .bool (fitB (l, n, b) (hostT ak aq an) apt) ∧ SH w w' [] []) := by
 refine fn_enter (N := 37) Tryz.func38 rfl (by kernel_rfl) rfl rfl rfl ?_
 have hs0 : SH w w [] [] := SH.refl w []
 have haq_m : aq.length ≤ 9223372036854775807 := Nat.le_trans haq.cap haq.capMax
 refine sq ?_
 refine rg ?_
 refine bx (v := .agg #[Str l, I n, .bool b]) (cs := [Str l, I n, .bool b]) hs0 rfl rfl trivial rfl (fun b1 w1 (hs1 : SH w w1 [] [.blk b1 53 [Str l, I n, .bool b]]) => ?_)
 refine bx (v := .agg #[I ak, .slice Aaq aq.length caq, Str an, I apt]) (cs := [I ak, .slice Aaq aq.length caq, Str an, I apt]) hs1 rfl rfl trivial rfl (fun b2 w2 (hs2 : SH w w2 [] [.blk b1 53 [Str l, I n, .bool b], .blk b2 34 [I ak, .slice Aaq aq.length caq, Str an, I apt]]) => ?_)
 refine q trivial rfl rfl (asg (v := .bool false) rfl) ?_
 refine nl ?_
 refine nN ?_
 refine sq ?_
 refine rg ?_
 refine q trivial rfl rfl (ldg (vs := [I ak, .slice Aaq aq.length caq, Str an, I apt]) hs2 1 rfl rfl rfl rfl ag34) ?_
 refine cl trivial rfl (sL3Host (ak := ak) (Aaq := Aaq) (caq := caq) (aq := aq) (an := an) (apt := apt) (w := _) (haq := (haq.up0 hs2)) (han_n := (by first | (first | omega | (simp; done) | (simp; omega)) | (have hhl := hostT_len hok; first | omega | (simp; done) | (simp; omega)))) (hok := (by first | (first | omega | assumption | (simp; done) | (simp; omega)) | (have hhl := hostT_len hok; first | omega | assumption | (simp; done) | (simp; omega))))) ?_
 rintro _ w3 ⟨rfl, hs3'⟩
 have hs3 : SH w w3 [] [.blk b1 53 [Str l, I n, .bool b], .blk b2 34 [I ak, .slice Aaq aq.length caq, Str an, I apt]] := hs2.call0 hs3'
 clear hs3'
 refine q trivial rfl rfl (asg (v := Str (hostT ak aq an)) rfl) ?_
 refine nl ?_
 refine nN ?_
 refine sq ?_
 refine rg ?_
 refine q trivial rfl rfl (mv (v := Str (hostT ak aq an)) rfl) ?_
 refine q trivial rfl rfl (lnS (l := hostT ak aq an) st9 rfl) ?_
 refine q trivial rfl rfl (fa 0 fo53_0 rfl) ?_
 refine q trivial rfl rfl (ld (v := Str l) hs3 0 rfl rfl rfl one9) ?_
 refine q trivial rfl rfl (lnS (l := l) st9 rfl) ?_
 refine q trivial rfl rfl (sub (a := (((hostT ak aq an).length : Nat) : Int)) (b := ((l.length : Nat) : Int)) rfl rfl (by first | (exact ⟨by omega, by omega⟩) | (have hhl := hostT_len hok; exact ⟨by omega, by omega⟩))) ?_
 refine q trivial rfl rfl (asg (v := I ((((hostT ak aq an).length : Nat) : Int) - ((l.length : Nat) : Int))) rfl) ?_
 refine nl ?_
 refine nN ?_
 refine sq ?_
 refine rq (fun w' => SH w w' [] [.blk b1 53 [Str l, I n, .bool b], .blk b2 34 [I ak, .slice Aaq aq.length caq, Str an, I apt]]) mixed (by kernel_rfl) hs3.drew ?_
 refine qq trivial rfl rfl (fun wq hsq => mv (v := I ((((hostT ak aq an).length : Nat) : Int) - ((l.length : Nat) : Int))) rfl) ?_
 refine qq trivial rfl rfl (fun wq hsq => geq (k := .i64) (a := (((hostT ak aq an).length : Nat) : Int) - ((l.length : Nat) : Int)) (b := 0) rfl rfl) ?_
 refine qq trivial rfl rfl (fun wq hsq => mv (v := .bool (decide ((0 : Int) ≤ ((((hostT ak aq an).length : Nat) : Int) - ((l.length : Nat) : Int))))) rfl) ?_
 refine qspd (p := (0 : Int) ≤ ((((hostT ak aq an).length : Nat) : Int) - ((l.length : Nat) : Int))) 17 rfl (fun h1 => ?_) (fun h1 => ?_)
 · refine qq ⟨_, rfl, rfl⟩ rfl rfl (fun wq hsq => mv (v := Str (hostT ak aq an)) rfl) ?_
   refine qq ⟨_, rfl, rfl⟩ rfl rfl (fun wq hsq => mv (v := I ((((hostT ak aq an).length : Nat) : Int) - ((l.length : Nat) : Int))) rfl) ?_
   refine qq ⟨_, rfl, rfl⟩ rfl rfl (fun wq hsq => culs (l := hostT ak aq an) (((((hostT ak aq an).length : Nat) : Int) - ((l.length : Nat) : Int)).toNat) st9 rfl (ieq (x := (((hostT ak aq an).length : Nat) : Int) - ((l.length : Nat) : Int)) (by first | (omega) | (have hhl := hostT_len hok; omega))) (by first | (first | omega | (simp; done) | (simp; omega)) | (have hhl := hostT_len hok; first | omega | (simp; done) | (simp; omega)))) ?_
   refine qq ⟨_, rfl, rfl⟩ rfl rfl (fun wq hsq => fa 0 fo53_0 rfl) ?_
   refine qq ⟨_, rfl, rfl⟩ rfl rfl (fun wq hsq => ld (v := Str l) hsq 0 rfl rfl rfl one9) ?_
   refine qq ⟨_, rfl, rfl⟩ rfl rfl (fun wq hsq => eqs (l := (hostT ak aq an).drop (((((hostT ak aq an).length : Nat) : Int) - ((l.length : Nat) : Int)).toNat)) (m := l) rfl rfl) ?_
   refine qq trivial rfl rfl (fun wq hsq => pt (v := .bool (decide ((hostT ak aq an).drop (((((hostT ak aq an).length : Nat) : Int) - ((l.length : Nat) : Int)).toNat) = l))) rfl rfl) ?_
   refine qq trivial rfl rfl (fun wq hsq => mv (v := .bool (decide ((hostT ak aq an).drop (((((hostT ak aq an).length : Nat) : Int) - ((l.length : Nat) : Int)).toNat) = l))) rfl) ?_
   refine qspd (p := (hostT ak aq an).drop (((((hostT ak aq an).length : Nat) : Int) - ((l.length : Nat) : Int)).toNat) = l) 25 rfl (fun h2 => ?_) (fun h2 => ?_)
   · refine qq ⟨_, rfl, rfl⟩ rfl rfl (fun wq hsq => fa 1 fo53_1 rfl) ?_
     refine qq ⟨_, rfl, rfl⟩ rfl rfl (fun wq hsq => ld (v := I n) hsq 0 rfl rfl rfl one3) ?_
     refine qq ⟨_, rfl, rfl⟩ rfl rfl (fun wq hsq => eqi (k := .i64) (a := n) (b := 0) rfl rfl) ?_
     refine qq ⟨_, rfl, rfl⟩ rfl rfl (fun wq hsq => mv (v := .bool (decide (n = 0))) rfl) ?_
     refine qspd (p := n = 0) 29 rfl (fun h3 => ?_) (fun h3 => ?_)
     · refine qk true rfl rfl rfl rfl rfl ?_
       refine qk true rfl rfl rfl rfl rfl ?_
       refine qk true rfl rfl rfl rfl rfl ?_
       refine qk true rfl rfl rfl rfl rfl ?_
       refine qk true rfl rfl rfl rfl rfl ?_
       refine qq ⟨_, rfl, rfl⟩ rfl rfl (fun wq hsq => pt (v := .bool true) rfl rfl) ?_
       refine qq trivial rfl rfl (fun wq hsq => pt (v := .bool true) rfl rfl) ?_
       refine qq trivial rfl rfl (fun wq hsq => asg (v := .bool true) rfl) ?_
       refine qn (fun w4 hs4 => ?_)
       refine nN ?_
       refine rt ?_
       refine fret (v := .bool true) (.tmp .nil) rfl ?_
       have e1 : true = fitB (l, n, b) (hostT ak aq an) apt := by first | exact (fit_yes (sufZ (by assumption) (by assumption)) (.inl (by assumption))).symm | exact fit_port (sufZ (by assumption) (by assumption)) (by assumption) | exact (fit_no1 (sufZ2 (by assumption))).symm | exact (fit_no1 (sufZ1 (by assumption))).symm
       exact ⟨(congrArg (Value.bool) e1), (hs4.pick [] rfl (by decide))⟩
     · refine qq ⟨_, rfl, rfl⟩ rfl rfl (fun wq hsq => fa 1 fo53_1 rfl) ?_
       refine qq ⟨_, rfl, rfl⟩ rfl rfl (fun wq hsq => ld (v := I n) hsq 0 rfl rfl rfl one3) ?_
       refine qq ⟨_, rfl, rfl⟩ rfl rfl (fun wq hsq => fa 3 fo34_3 rfl) ?_
       refine qq ⟨_, rfl, rfl⟩ rfl rfl (fun wq hsq => ld (v := I apt) hsq 1 rfl rfl rfl one3) ?_
       refine qq ⟨_, rfl, rfl⟩ rfl rfl (fun wq hsq => eqi (k := .i64) (a := n) (b := apt) rfl rfl) ?_
       refine qq ⟨_, rfl, rfl⟩ rfl rfl (fun wq hsq => pf (v := .bool (decide (n = apt))) rfl rfl) ?_
       refine qq trivial rfl rfl (fun wq hsq => pt (v := .bool (decide (n = apt))) rfl rfl) ?_
       refine qq trivial rfl rfl (fun wq hsq => asg (v := .bool (decide (n = apt))) rfl) ?_
       refine qn (fun w5 hs5 => ?_)
       refine nN ?_
       refine rt ?_
       refine fret (v := .bool (decide (n = apt))) (.tmp .nil) rfl ?_
       have e2 : (decide (n = apt)) = fitB (l, n, b) (hostT ak aq an) apt := by first | exact (fit_yes (sufZ (by assumption) (by assumption)) (.inl (by assumption))).symm | exact fit_port (sufZ (by assumption) (by assumption)) (by assumption) | exact (fit_no1 (sufZ2 (by assumption))).symm | exact (fit_no1 (sufZ1 (by assumption))).symm
       exact ⟨(congrArg (Value.bool) e2), (hs5.pick [] rfl (by decide))⟩
   · refine qk false rfl rfl rfl rfl rfl ?_
     refine qk false rfl rfl rfl rfl rfl ?_
     refine qk false rfl rfl rfl rfl rfl ?_
     refine qk false rfl rfl rfl rfl rfl ?_
     refine qku rfl rfl rfl rfl rfl ?_
     refine qku rfl rfl rfl rfl rfl ?_
     refine qku rfl rfl rfl rfl rfl ?_
     refine qku rfl rfl rfl rfl rfl ?_
     refine qku rfl rfl rfl rfl rfl ?_
     refine qk false rfl rfl rfl rfl rfl ?_
     refine qq trivial rfl rfl (fun wq hsq => pf (v := .bool false) rfl rfl) ?_
     refine qq trivial rfl rfl (fun wq hsq => asg (v := .bool false) rfl) ?_
     refine qn (fun w6 hs6 => ?_)
     refine nN ?_
     refine rt ?_
     refine fret (v := .bool false) (.tmp .nil) rfl ?_
     have e3 : false = fitB (l, n, b) (hostT ak aq an) apt := by first | exact (fit_yes (sufZ (by assumption) (by assumption)) (.inl (by assumption))).symm | exact fit_port (sufZ (by assumption) (by assumption)) (by assumption) | exact (fit_no1 (sufZ2 (by assumption))).symm | exact (fit_no1 (sufZ1 (by assumption))).symm
     exact ⟨(congrArg (Value.bool) e3), (hs6.pick [] rfl (by decide))⟩
 · refine qk false rfl rfl rfl rfl rfl ?_
   refine qk false rfl rfl rfl rfl rfl ?_
   refine qk false rfl rfl rfl rfl rfl ?_
   refine qk false rfl rfl rfl rfl rfl ?_
   refine qk false rfl rfl rfl rfl rfl ?_
   refine qk false rfl rfl rfl rfl rfl ?_
   refine qq trivial rfl rfl (fun wq hsq => pf (v := .bool false) rfl rfl) ?_
   refine qq trivial rfl rfl (fun wq hsq => mv (v := .bool false) rfl) ?_
   refine qk false rfl rfl rfl rfl rfl ?_
   refine qk false rfl rfl rfl rfl rfl ?_
   refine qk false rfl rfl rfl rfl rfl ?_
   refine qk false rfl rfl rfl rfl rfl ?_
   refine qku rfl rfl rfl rfl rfl ?_
   refine qku rfl rfl rfl rfl rfl ?_
   refine qku rfl rfl rfl rfl rfl ?_
   refine qku rfl rfl rfl rfl rfl ?_
   refine qku rfl rfl rfl rfl rfl ?_
   refine qk false rfl rfl rfl rfl rfl ?_
   refine qq trivial rfl rfl (fun wq hsq => pf (v := .bool false) rfl rfl) ?_
   refine qq trivial rfl rfl (fun wq hsq => asg (v := .bool false) rfl) ?_
   refine qn (fun w7 hs7 => ?_)
   refine nN ?_
   refine rt ?_
   refine fret (v := .bool false) (.tmp .nil) rfl ?_
   have e4 : false = fitB (l, n, b) (hostT ak aq an) apt := by first | exact (fit_yes (sufZ (by assumption) (by assumption)) (.inl (by assumption))).symm | exact fit_port (sufZ (by assumption) (by assumption)) (by assumption) | exact (fit_no1 (sufZ2 (by assumption))).symm | exact (fit_no1 (sufZ1 (by assumption))).symm
   exact ⟨(congrArg (Value.bool) e4), (hs7.pick [] rfl (by decide))⟩

theorem iAllow {Azs : Option Addr} {czs : Nat} (zs : List (List UInt8 × Int × Bool)) (ak : Int) {Aaq : Option Addr} {caq : Nat} (aq : List Int) (an : List UInt8) (apt : Int) (w : World) (hzs : Sl w [] 3 Azs zs.length czs (zs.flatMap gRule)) (hzs_e : ∀ u ∈ zs, u.1.length ≤ 9223372036854775807) (haq : Sl w [] 1 Aaq aq.length caq (aq.map I)) (han_n : an.length ≤ 1099511627776) (hok : addrOk ak aq an apt = true) (hGp : Lib.TabIs Tryz.prog w "internal/strconv.uint64pow10" .u64 Lib.pow10Tab) : Does Tryz.prog 27 [.slice Azs zs.length czs, .agg #[I ak, .slice Aaq aq.length caq, Str an, I apt]] w (fun v w' => v = .bool (allowL zs (hostT ak aq an) apt) ∧ SH w w' [] []) := by
 refine fn_enter (N := 33) Tryz.func27 rfl (by kernel_rfl) rfl rfl rfl ?_
 have hs0 : SH w w [] [] := SH.refl w []
 have hzs_m : zs.length ≤ 9223372036854775807 := Nat.le_trans hzs.cap hzs.capMax
 have haq_m : aq.length ≤ 9223372036854775807 := Nat.le_trans haq.cap haq.capMax
 refine sq ?_
 refine rg ?_
 refine bx (v := .agg #[I ak, .slice Aaq aq.length caq, Str an, I apt]) (cs := [I ak, .slice Aaq aq.length caq, Str an, I apt]) hs0 rfl rfl trivial rfl (fun b1 w1 (hs1 : SH w w1 [] [.blk b1 34 [I ak, .slice Aaq aq.length caq, Str an, I apt]]) => ?_)
 refine q trivial rfl rfl (asg (v := .bool false) rfl) ?_
 refine nl ?_
 refine nN ?_
 refine sq ?_
 refine sq ?_
 refine rg ?_
 refine q trivial rfl rfl (mv (v := .slice Azs zs.length czs) rfl) ?_
 refine q trivial rfl rfl (lnA (n := zs.length) sl32 rfl) ?_
 refine q trivial rfl rfl (mv (v := I 0) rfl) ?_
 refine nl ?_
 refine nN ?_
 refine bl ?_
 refine lp (σ := Nat) (fun (k : Nat) f w' => Has f [(3, pB b1), (7, .slice Azs zs.length czs), (8, I ((zs.length : Nat) : Int)), (9, I ((k : Nat) : Int))] ∧ (k ≤ zs.length) ∧ (∀ j, j < k → fitB (zs.getD j rule0) (hostT ak aq an) apt = false) ∧ SH w w' [] [.blk b1 34 [I ak, .slice Aaq aq.length caq, Str an, I apt]]) (fun k => zs.length - k) 0 ⟨⟨rfl, rfl, rfl, rfl, trivial⟩, (by simp), (by intro j hj; omega), hs1⟩ ?_
 rintro k f w2 ⟨hf, hk, hn, hs2⟩
 obtain ⟨g1, rfl⟩ := has_upd hf
 clear hf
 refine sq ?_
 refine rg ?_
 refine q trivial rfl rfl (lss (k := .i64) (a := ((k : Nat) : Int)) (b := ((zs.length : Nat) : Int)) rfl rfl) ?_
 refine nl ?_
 refine nN ?_
 refine sq ?_
 refine cdd (p := ((k : Nat) : Int) < ((zs.length : Nat) : Int)) rfl (fun h1 => ?_) (fun h1 => ?_)
 · refine sk ?_
   refine nN ?_
   refine sq ?_
   refine bl ?_
   refine sq ?_
   refine rg ?_
   refine ixwf (g := gRule) (zs := zs) (fun _ => rfl) rule0 k sl32 rfl rfl hzs (by first | (first | omega | (simp; done) | (simp; omega)) | (have hre := hzs_e _ (getD_mem' (d := rule0) (show k < zs.length by omega)); have hhl := hostT_len hok; first | omega | (simp; done) | (simp; omega))) (by first | (first | omega | (simp; done) | (simp; omega)) | (have hre := hzs_e _ (getD_mem' (d := rule0) (show k < zs.length by omega)); have hhl := hostT_len hok; first | omega | (simp; done) | (simp; omega))) trivial rfl (fun a1 ha1 => ?_)
   refine q trivial rfl rfl (ldag (us := [Str ((zs.getD k rule0).1), I ((zs.getD k rule0).2.1), .bool ((zs.getD k rule0).2.2)]) hs2 ha1 (fun _ h => h) rfl rfl ag53) ?_
   refine al (v := .agg #[Str [], I 0, .bool false]) (cs := [Str [], I 0, .bool false]) hs2 tz53 rfl trivial rfl (fun b2 w3 (hs3 : SH w w3 [] [.blk b1 34 [I ak, .slice Aaq aq.length caq, Str an, I apt], .blk b2 53 [Str [], I 0, .bool false]]) => ?_)
   refine stg (vs := [Str ((zs.getD k rule0).1), I ((zs.getD k rule0).2.1), .bool ((zs.getD k rule0).2.2)]) hs3 1 rfl rfl rfl rfl rfl rfl rfl ag53 trivial (fun w4 (hs4 : SH w w4 [] [.blk b1 34 [I ak, .slice Aaq aq.length caq, Str an, I apt], .blk b2 53 [Str ((zs.getD k rule0).1), I ((zs.getD k rule0).2.1), .bool ((zs.getD k rule0).2.2)]]) => ?_)
   refine nl ?_
   refine nN ?_
   refine sq ?_
   refine rq (fun w' => SH w w' [] [.blk b1 34 [I ak, .slice Aaq aq.length caq, Str an, I apt], .blk b2 53 [Str ((zs.getD k rule0).1), I ((zs.getD k rule0).2.1), .bool ((zs.getD k rule0).2.2)]]) mixed (by kernel_rfl) hs4.drew ?_
   refine qq trivial rfl rfl (fun wq hsq => ldg (vs := [I ak, .slice Aaq aq.length caq, Str an, I apt]) hsq 0 rfl rfl rfl rfl ag34) ?_
   refine qc (Str (hostT ak aq an)) trivial rfl (fun wq hsq => (iHostText (ak := ak) (Aaq := Aaq) (caq := caq) (aq := aq) (an := an) (apt := apt) (w := _) (haq := (haq.up0 hsq)) (han_n := (by first | (first | omega | (simp; done) | (simp; omega)) | (have hre := hzs_e _ (getD_mem' (d := rule0) (show k < zs.length by omega)); have hhl := hostT_len hok; first | omega | (simp; done) | (simp; omega)))) (hok := (by first | (first | omega | assumption | (simp; done) | (simp; omega)) | (have hre := hzs_e _ (getD_mem' (d := rule0) (show k < zs.length by omega)); have hhl := hostT_len hok; first | omega | assumption | (simp; done) | (simp; omega)))) (hGp := (tab_up hGp hsq))).mono (fun v w' h => ⟨h.1, by simpa using hsq.call0 h.2⟩)) ?_
   refine qq trivial rfl rfl (fun wq hsq => fa 0 fo53_0 rfl) ?_
   refine qq trivial rfl rfl (fun wq hsq => ld (v := Str ((zs.getD k rule0).1)) hsq 1 rfl rfl rfl one9) ?_
   refine qc (.bool (decide (sufP (hostT ak aq an) ((zs.getD k rule0).1)))) trivial rfl (fun wq hsq => (stHasSuffix (s := hostT ak aq an) (t := (zs.getD k rule0).1) (w := _) (hs_n := (by first | (first | omega | (simp; done) | (simp; omega)) | (have hre := hzs_e _ (getD_mem' (d := rule0) (show k < zs.length by omega)); have hhl := hostT_len hok; first | omega | (simp; done) | (simp; omega)))) (ht_n := (by first | (first | omega | (simp; done) | (simp; omega)) | (have hre := hzs_e _ (getD_mem' (d := rule0) (show k < zs.length by omega)); have hhl := hostT_len hok; first | omega | (simp; done) | (simp; omega))))).mono (fun v w' h => ⟨h.1, by simpa using hsq.call0 h.2⟩)) ?_
   refine qq trivial rfl rfl (fun wq hsq => mv (v := .bool (decide (sufP (hostT ak aq an) ((zs.getD k rule0).1)))) rfl) ?_
   refine qspd (p := sufP (hostT ak aq an) ((zs.getD k rule0).1)) 18 rfl (fun h2 => ?_) (fun h2 => ?_)
   · refine qq ⟨_, rfl, rfl⟩ rfl rfl (fun wq hsq => fa 1 fo53_1 rfl) ?_
     refine qq ⟨_, rfl, rfl⟩ rfl rfl (fun wq hsq => ld (v := I ((zs.getD k rule0).2.1)) hsq 1 rfl rfl rfl one3) ?_
     refine qq ⟨_, rfl, rfl⟩ rfl rfl (fun wq hsq => eqi (k := .i64) (a := (zs.getD k rule0).2.1) (b := 0) rfl rfl) ?_
     refine qq ⟨_, rfl, rfl⟩ rfl rfl (fun wq hsq => mv (v := .bool (decide (((zs.getD k rule0).2.1) = 0))) rfl) ?_
     refine qspd (p := ((zs.getD k rule0).2.1) = 0) 22 rfl (fun h3 => ?_) (fun h3 => ?_)
     · refine qk true rfl rfl rfl rfl rfl ?_
       refine qk true rfl rfl rfl rfl rfl ?_
       refine qk true rfl rfl rfl rfl rfl ?_
       refine qk true rfl rfl rfl rfl rfl ?_
       refine qk true rfl rfl rfl rfl rfl ?_
       refine qq ⟨_, rfl, rfl⟩ rfl rfl (fun wq hsq => pt (v := .bool true) rfl rfl) ?_
       refine qq trivial rfl rfl (fun wq hsq => pt (v := .bool true) rfl rfl) ?_
       refine qn (fun w5 hs5 => ?_)
       refine nN ?_
       refine cdt rfl ?_
       refine sq ?_
       refine rg ?_
       refine q trivial rfl rfl (fa 2 fo53_2 rfl) ?_
       refine q trivial rfl rfl (ld (v := .bool ((zs.getD k rule0).2.2)) hs5 1 rfl rfl rfl one4) ?_
       refine q trivial rfl rfl (asg (v := .bool ((zs.getD k rule0).2.2)) rfl) ?_
       refine nl ?_
       refine nN ?_
       refine rt (bR (tR (tR (bR (tR ?_)))))
       refine fret (v := .bool ((zs.getD k rule0).2.2)) (.tmp .nil) rfl ?_
       have e1 : ((zs.getD k rule0).2.2) = allowL zs (hostT ak aq an) apt := by first | exact (allow_yes (by omega) hn (fit_yes (by assumption) (.inl (by assumption)))).symm | exact (allow_yes (by omega) hn (fit_yes (by assumption) (.inr (by assumption)))).symm | exact (allow_none (by omega) hn).symm
       exact ⟨(congrArg (Value.bool) e1), (hs5.pick [] rfl (by decide))⟩
     · refine qq ⟨_, rfl, rfl⟩ rfl rfl (fun wq hsq => fa 1 fo53_1 rfl) ?_
       refine qq ⟨_, rfl, rfl⟩ rfl rfl (fun wq hsq => ld (v := I ((zs.getD k rule0).2.1)) hsq 1 rfl rfl rfl one3) ?_
       refine qq ⟨_, rfl, rfl⟩ rfl rfl (fun wq hsq => fa 3 fo34_3 rfl) ?_
       refine qq ⟨_, rfl, rfl⟩ rfl rfl (fun wq hsq => ld (v := I apt) hsq 0 rfl rfl rfl one3) ?_
       refine qq ⟨_, rfl, rfl⟩ rfl rfl (fun wq hsq => eqi (k := .i64) (a := (zs.getD k rule0).2.1) (b := apt) rfl rfl) ?_
       refine qq ⟨_, rfl, rfl⟩ rfl rfl (fun wq hsq => pf (v := .bool (decide (((zs.getD k rule0).2.1) = apt))) rfl rfl) ?_
       refine qq trivial rfl rfl (fun wq hsq => pt (v := .bool (decide (((zs.getD k rule0).2.1) = apt))) rfl rfl) ?_
       refine qn (fun w6 hs6 => ?_)
       refine nN ?_
       refine cdd (p := ((zs.getD k rule0).2.1) = apt) rfl (fun h4 => ?_) (fun h4 => ?_)
       · refine sq ?_
         refine rg ?_
         refine q trivial rfl rfl (fa 2 fo53_2 rfl) ?_
         refine q trivial rfl rfl (ld (v := .bool ((zs.getD k rule0).2.2)) hs6 1 rfl rfl rfl one4) ?_
         refine q trivial rfl rfl (asg (v := .bool ((zs.getD k rule0).2.2)) rfl) ?_
         refine nl ?_
         refine nN ?_
         refine rt (bR (tR (tR (bR (tR ?_)))))
         refine fret (v := .bool ((zs.getD k rule0).2.2)) (.tmp .nil) rfl ?_
         have e2 : ((zs.getD k rule0).2.2) = allowL zs (hostT ak aq an) apt := by first | exact (allow_yes (by omega) hn (fit_yes (by assumption) (.inl (by assumption)))).symm | exact (allow_yes (by omega) hn (fit_yes (by assumption) (.inr (by assumption)))).symm | exact (allow_none (by omega) hn).symm
         exact ⟨(congrArg (Value.bool) e2), (hs6.pick [] rfl (by decide))⟩
       · refine sk ?_
         refine bN ?_
         refine nN ?_
         refine rg ?_
         refine q trivial rfl rfl (add (a := ((k : Nat) : Int)) (b := 1) rfl rfl (by first | (exact ⟨by omega, by omega⟩) | (have hre := hzs_e _ (getD_mem' (d := rule0) (show k < zs.length by omega)); have hhl := hostT_len hok; exact ⟨by omega, by omega⟩))) ?_
         refine q trivial rfl rfl (mv (v := I (((k : Nat) : Int) + 1)) rfl) ?_
         refine nl ?_
         refine nN ?_
         refine ⟨(k + 1), ⟨⟨rfl, rfl, rfl, rfl, trivial⟩, (by omega), (by intro j hj; rcases Nat.lt_succ_iff_lt_or_eq.1 hj with h | h; exact hn j h; subst h; first | exact fit_no1 (by assumption) | exact fit_no2 (by assumption) (by assumption)), (hs6.pick [0] rfl (by decide))⟩, ?_⟩
         omega
   · refine qk false rfl rfl rfl rfl rfl ?_
     refine qk false rfl rfl rfl rfl rfl ?_
     refine qk false rfl rfl rfl rfl rfl ?_
     refine qk false rfl rfl rfl rfl rfl ?_
     refine qku rfl rfl rfl rfl rfl ?_
     refine qku rfl rfl rfl rfl rfl ?_
     refine qku rfl rfl rfl rfl rfl ?_
     refine qku rfl rfl rfl rfl rfl ?_
     refine qku rfl rfl rfl rfl rfl ?_
     refine qk false rfl rfl rfl rfl rfl ?_
     refine qq trivial rfl rfl (fun wq hsq => pf (v := .bool false) rfl rfl) ?_
     refine qn (fun w7 hs7 => ?_)
     refine nN ?_
     refine cdf rfl ?_
     refine sk ?_
     refine bN ?_
     refine nN ?_
     refine rg ?_
     refine q trivial rfl rfl (add (a := ((k : Nat) : Int)) (b := 1) rfl rfl (by first | (exact ⟨by omega, by omega⟩) | (have hre := hzs_e _ (getD_mem' (d := rule0) (show k < zs.length by omega)); have hhl := hostT_len hok; exact ⟨by omega, by omega⟩))) ?_
     refine q trivial rfl rfl (mv (v := I (((k : Nat) : Int) + 1)) rfl) ?_
     refine nl ?_
     refine nN ?_
     refine ⟨(k + 1), ⟨⟨rfl, rfl, rfl, rfl, trivial⟩, (by omega), (by intro j hj; rcases Nat.lt_succ_iff_lt_or_eq.1 hj with h | h; exact hn j h; subst h; first | exact fit_no1 (by assumption) | exact fit_no2 (by assumption) (by assumption)), (hs7.pick [0] rfl (by decide))⟩, ?_⟩
     omega
 · refine ex (tE (tE (bE ?_)))
   refine nN ?_
   refine sq ?_
   refine rg ?_
   refine q trivial rfl rfl (asg (v := .bool false) rfl) ?_
   refine nl ?_
   refine nN ?_
   refine rt ?_
   refine fret (v := .bool false) (.tmp .nil) rfl ?_
   have e3 : false = allowL zs (hostT ak aq an) apt := by first | exact (allow_yes (by omega) hn (fit_yes (by assumption) (.inl (by assumption)))).symm | exact (allow_yes (by omega) hn (fit_yes (by assumption) (.inr (by assumption)))).symm | exact (allow_none (by omega) hn).symm
   exact ⟨(congrArg (Value.bool) e3), (hs2.pick [] rfl (by decide))⟩

theorem sRulesAllow {Azs : Option Addr} {czs : Nat} (zs : List (List UInt8 × Int × Bool)) (ak : Int) {Aaq : Option Addr} {caq : Nat} (aq : List Int) (an : List UInt8) (apt : Int) (w : World) (hzs : Sl w [] 3 Azs zs.length czs (zs.flatMap gRule)) (hzs_e : ∀ u ∈ zs, u.1.length ≤ 9223372036854775807) (haq : Sl w [] 1 Aaq aq.length caq (aq.map I)) (han_n : an.length ≤ 1099511627776) : Does Tryz.prog 21 [.slice Azs zs.length czs, .agg #[I ak, .slice Aaq aq.length caq, Str an, I apt]] w (fun v w' => v = .bool (rulesAllow zs ak aq an apt) ∧ SH w w' [] []) := by
 refine fn_enter (N := 31) Tryz.func21 rfl (by kernel_rfl) rfl rfl rfl ?_
 have hs0 : SH w w [] [] := SH.refl w []
 have hzs_m : zs.length ≤ 9223372036854775807 := Nat.le_trans hzs.cap hzs.capMax
 have haq_m : aq.length ≤ 9223372036854775807 := Nat.le_trans haq.cap haq.capMax
 refine sq ?_
 refine rg ?_
 refine bx (v := .agg #[I ak, .slice Aaq aq.length caq, Str an, I apt]) (cs := [I ak, .slice Aaq aq.length caq, Str an, I apt]) hs0 rfl rfl trivial rfl (fun b1 w1 (hs1 : SH w w1 [] [.blk b1 34 [I ak, .slice Aaq aq.length caq, Str an, I apt]]) => ?_)
 refine q trivial rfl rfl (asg (v := .bool false) rfl) ?_
 refine nl ?_
 refine nN ?_
 refine sq ?_
 refine sq ?_
 refine rg ?_
 refine q trivial rfl rfl (asg (v := I 0) rfl) ?_
 refine nl ?_
 refine nN ?_
 refine bl ?_
 refine lp (σ := Nat) (fun (k : Nat) f w' => Has f [(0, .slice Azs zs.length czs), (3, pB b1), (5, I ((k : Nat) : Int))] ∧ (k ≤ zs.length) ∧ (∀ j, j < k → fitB (zs.getD j rule0) (hostT ak aq an) apt = false) ∧ SH w w' [] [.blk b1 34 [I ak, .slice Aaq aq.length caq, Str an, I apt]]) (fun k => zs.length - k) 0 ⟨⟨rfl, rfl, rfl, trivial⟩, (by simp), (by intro j hj; omega), hs1⟩ ?_
 rintro k f w2 ⟨hf, hk, hn, hs2⟩
 obtain ⟨g1, rfl⟩ := has_upd hf
 clear hf
 refine sq ?_
 refine sq ?_
 refine rg ?_
 refine q trivial rfl rfl (mv (v := I ((k : Nat) : Int)) rfl) ?_
 refine q trivial rfl rfl (mv (v := .slice Azs zs.length czs) rfl) ?_
 refine q trivial rfl rfl (lnA (n := zs.length) sl32 rfl) ?_
 refine q trivial rfl rfl (lss (k := .i64) (a := ((k : Nat) : Int)) (b := ((zs.length : Nat) : Int)) rfl rfl) ?_
 refine q trivial rfl rfl (mv (v := .bool (decide (((k : Nat) : Int) < ((zs.length : Nat) : Int)))) rfl) ?_
 refine spd (p := ((k : Nat) : Int) < ((zs.length : Nat) : Int)) 10 rfl (fun h1 => ?_) (fun h1 => ?_)
 · refine q ⟨_, rfl, rfl⟩ rfl rfl (mv (v := .slice Azs zs.length czs) rfl) ?_
   refine cl ⟨_, rfl, rfl⟩ rfl (sRulesValid (Azs := Azs) (czs := czs) (zs := zs) (w := _) (hzs := (hzs.up0 hs2)) (hzs_e := hzs_e)) ?_
   rintro _ w3 ⟨rfl, hs3'⟩
   have hs3 : SH w w3 [] [.blk b1 34 [I ak, .slice Aaq aq.length caq, Str an, I apt]] := hs2.call0 hs3'
   clear hs3'
   refine q trivial rfl rfl (pt (v := .bool (rulesOk zs)) rfl rfl) ?_
   refine q trivial rfl rfl (mv (v := .bool (rulesOk zs)) rfl) ?_
   refine spl (b := rulesOk zs) 14 rfl (fun h2 => ?_) (fun h2 => ?_)
   · refine q ⟨_, rfl, rfl⟩ rfl rfl (ldg (vs := [I ak, .slice Aaq aq.length caq, Str an, I apt]) hs3 0 rfl rfl rfl rfl ag34) ?_
     refine cl ⟨_, rfl, rfl⟩ rfl (sAddressValid (ak := ak) (Aaq := Aaq) (caq := caq) (aq := aq) (an := an) (apt := apt) (w := _) (haq := (haq.up0 hs3)) (han_n := (by first | (first | omega | (simp; done) | (simp; omega)) | (have hre := hzs_e _ (getD_mem' (d := rule0) (show k < zs.length by omega)); first | omega | (simp; done) | (simp; omega))))) ?_
     rintro _ w4 ⟨rfl, hs4'⟩
     have hs4 : SH w w4 [] [.blk b1 34 [I ak, .slice Aaq aq.length caq, Str an, I apt]] := hs3.call0 hs4'
     clear hs4'
     refine q trivial rfl rfl (pt (v := .bool (addrOk ak aq an apt)) rfl rfl) ?_
     refine nl ?_
     refine nN ?_
     refine cd (b := addrOk ak aq an apt) rfl (fun h3 => ?_) (fun h3 => ?_)
     · refine sk ?_
       refine nN ?_
       refine sq ?_
       refine bl ?_
       refine sq ?_
       refine rq (fun w' => SH w w' [] [.blk b1 34 [I ak, .slice Aaq aq.length caq, Str an, I apt]]) mixed (by kernel_rfl) hs4.drew ?_
       refine qq trivial rfl rfl (fun wq hsq => mv (v := .slice Azs zs.length czs) rfl) ?_
       refine qq trivial rfl rfl (fun wq hsq => mv (v := I ((k : Nat) : Int)) rfl) ?_
       refine ixqf (g := gRule) (zs := zs) (fun _ => rfl) rule0 k sl32 rfl rfl hzs (by first | (first | omega | (simp; done) | (simp; omega)) | (have hre := hzs_e _ (getD_mem' (d := rule0) (show k < zs.length by omega)); first | omega | (simp; done) | (simp; omega))) (by first | (first | omega | (simp; done) | (simp; omega)) | (have hre := hzs_e _ (getD_mem' (d := rule0) (show k < zs.length by omega)); first | omega | (simp; done) | (simp; omega))) trivial rfl (fun a1 ha1 => ?_)
       refine qq trivial rfl rfl (fun wq hsq => ldag (us := [Str ((zs.getD k rule0).1), I ((zs.getD k rule0).2.1), .bool ((zs.getD k rule0).2.2)]) hsq ha1 (fun _ h => h) rfl rfl ag53) ?_
       refine qq trivial rfl rfl (fun wq hsq => ldg (vs := [I ak, .slice Aaq aq.length caq, Str an, I apt]) hsq 0 rfl rfl rfl rfl ag34) ?_
       refine qc (.bool (fitB (((zs.getD k rule0).1), ((zs.getD k rule0).2.1), ((zs.getD k rule0).2.2)) (hostT ak aq an) apt)) trivial rfl (fun wq hsq => (sL32Fits (l := (zs.getD k rule0).1) (n := (zs.getD k rule0).2.1) (b := ((zs.getD k rule0).2.2)) (ak := ak) (Aaq := Aaq) (caq := caq) (aq := aq) (an := an) (apt := apt) (w := _) (hl_n := (by first | (first | omega | (simp; done) | (simp; omega)) | (have hre := hzs_e _ (getD_mem' (d := rule0) (show k < zs.length by omega)); first | omega | (simp; done) | (simp; omega)))) (haq := (haq.up0 hsq)) (han_n := (by first | (first | omega | (simp; done) | (simp; omega)) | (have hre := hzs_e _ (getD_mem' (d := rule0) (show k < zs.length by omega)); first | omega | (simp; done) | (simp; omega)))) (hok := (by first | (first | omega | assumption | (simp; done) | (simp; omega)) | (have hre := hzs_e _ (getD_mem' (d := rule0) (show k < zs.length by omega)); first | omega | assumption | (simp; done) | (simp; omega))))).mono (fun v w' h => ⟨h.1, by simpa using hsq.call0 h.2⟩)) ?_
       refine qn (fun w5 hs5 => ?_)
       refine nN ?_
       refine cd (b := fitB (((zs.getD k rule0).1), ((zs.getD k rule0).2.1), ((zs.getD k rule0).2.2)) (hostT ak aq an) apt) rfl (fun h4 => ?_) (fun h4 => ?_)
       · refine sq ?_
         refine rg ?_
         refine q trivial rfl rfl (mv (v := .slice Azs zs.length czs) rfl) ?_
         refine q trivial rfl rfl (mv (v := I ((k : Nat) : Int)) rfl) ?_
         refine ixwf (g := gRule) (zs := zs) (fun _ => rfl) rule0 k sl32 rfl rfl hzs (by first | (first | omega | (simp; done) | (simp; omega)) | (have hre := hzs_e _ (getD_mem' (d := rule0) (show k < zs.length by omega)); first | omega | (simp; done) | (simp; omega))) (by first | (first | omega | (simp; done) | (simp; omega)) | (have hre := hzs_e _ (getD_mem' (d := rule0) (show k < zs.length by omega)); first | omega | (simp; done) | (simp; omega))) trivial rfl (fun a2 ha2 => ?_)
         refine q trivial rfl rfl (fap 2 fo53_2 rfl) ?_
         refine q trivial rfl rfl (ldf (v := .bool ((zs.getD k rule0).2.2)) 2 hs5 ha2 (fun _ h => h) rfl rfl one4) ?_
         refine q trivial rfl rfl (asg (v := .bool ((zs.getD k rule0).2.2)) rfl) ?_
         refine nl ?_
         refine nN ?_
         refine rt (bR (tR (tR (bR (tR ?_)))))
         refine fret (v := .bool ((zs.getD k rule0).2.2)) (.tmp .nil) rfl ?_
         have e1 : ((zs.getD k rule0).2.2) = rulesAllow zs ak aq an apt := by first | (rw [rulesAllow_ok (by assumption) (by assumption)]; exact (allow_yes (by omega) hn (by assumption)).symm) | exact (rulesAllow_no (.inl (by assumption))).symm | exact (rulesAllow_no (.inr (by assumption))).symm | exact (rulesAllow_end (by omega) hn).symm
         exact ⟨(congrArg (Value.bool) e1), (hs5.pick [] rfl (by decide))⟩
       · refine sk ?_
         refine bN ?_
         refine nN ?_
         refine rg ?_
         refine q trivial rfl rfl (mv (v := I ((k : Nat) : Int)) rfl) ?_
         refine q trivial rfl rfl (add (a := ((k : Nat) : Int)) (b := 1) rfl rfl (by first | (exact ⟨by omega, by omega⟩) | (have hre := hzs_e _ (getD_mem' (d := rule0) (show k < zs.length by omega)); exact ⟨by omega, by omega⟩))) ?_
         refine q trivial rfl rfl (asg (v := I (((k : Nat) : Int) + 1)) rfl) ?_
         refine nl ?_
         refine nN ?_
         refine ⟨(k + 1), ⟨⟨rfl, rfl, rfl, trivial⟩, (by omega), (by intro j hj; rcases Nat.lt_succ_iff_lt_or_eq.1 hj with h | h; exact hn j h; subst h; assumption), hs5⟩, ?_⟩
         omega
     · refine ex (tE (tE (bE ?_)))
       refine nN ?_
       refine sq ?_
       refine rg ?_
       refine q trivial rfl rfl (asg (v := .bool false) rfl) ?_
       refine nl ?_
       refine nN ?_
       refine rt ?_
       refine fret (v := .bool false) (.tmp .nil) rfl ?_
       have e2 : false = rulesAllow zs ak aq an apt := by first | (rw [rulesAllow_ok (by assumption) (by assumption)]; exact (allow_yes (by omega) hn (by assumption)).symm) | exact (rulesAllow_no (.inl (by assumption))).symm | exact (rulesAllow_no (.inr (by assumption))).symm | exact (rulesAllow_end (by omega) hn).symm
       exact ⟨(congrArg (Value.bool) e2), (hs4.pick [] rfl (by decide))⟩
   · refine gk false rfl rfl rfl rfl rfl ?_
     refine gk false rfl rfl rfl rfl rfl ?_
     refine q trivial rfl rfl (pf (v := .bool false) rfl rfl) ?_
     refine nl ?_
     refine nN ?_
     refine cdf rfl ?_
     refine ex (tE (tE (bE ?_)))
     refine nN ?_
     refine sq ?_
     refine rg ?_
     refine q trivial rfl rfl (asg (v := .bool false) rfl) ?_
     refine nl ?_
     refine nN ?_
     refine rt ?_
     refine fret (v := .bool false) (.tmp .nil) rfl ?_
     have e3 : false = rulesAllow zs ak aq an apt := by first | (rw [rulesAllow_ok (by assumption) (by assumption)]; exact (allow_yes (by omega) hn (by assumption)).symm) | exact (rulesAllow_no (.inl (by assumption))).symm | exact (rulesAllow_no (.inr (by assumption))).symm | exact (rulesAllow_end (by omega) hn).symm
     exact ⟨(congrArg (Value.bool) e3), (hs3.pick [] rfl (by decide))⟩
 · refine gk false rfl rfl rfl rfl rfl ?_
   refine gk false rfl rfl rfl rfl rfl ?_
   refine q trivial rfl rfl (pf (v := .bool false) rfl rfl) ?_
   refine q trivial rfl rfl (mv (v := .bool false) rfl) ?_
   refine gk false rfl rfl rfl rfl rfl ?_
   refine gk false rfl rfl rfl rfl rfl ?_
   refine q trivial rfl rfl (pf (v := .bool false) rfl rfl) ?_
   refine nl ?_
   refine nN ?_
   refine cdf rfl ?_
   refine ex (tE (tE (bE ?_)))
   refine nN ?_
   refine sq ?_
   refine rg ?_
   refine q trivial rfl rfl (asg (v := .bool false) rfl) ?_
   refine nl ?_
   refine nN ?_
   refine rt ?_
   refine fret (v := .bool false) (.tmp .nil) rfl ?_
   have e4 : false = rulesAllow zs ak aq an apt := by first | (rw [rulesAllow_ok (by assumption) (by assumption)]; exact (allow_yes (by omega) hn (by assumption)).symm) | exact (rulesAllow_no (.inl (by assumption))).symm | exact (rulesAllow_no (.inr (by assumption))).symm | exact (rulesAllow_end (by omega) hn).symm
   exact ⟨(congrArg (Value.bool) e4), (hs2.pick [] rfl (by decide))⟩

set_option maxHeartbeats 8000000 in
theorem iReplyBytes (c : Int) (ak : Int) {Aaq : Option Addr} {caq : Nat} (aq : List Int) (an : List UInt8) (apt : Int) (w : World) (haq : Sl w [] 1 Aaq aq.length caq (aq.map I)) (han_n : an.length ≤ 1099511627776) : Does Tryz.prog 28 [I c, .agg #[I ak, .slice Aaq aq.length caq, Str an, I apt]] w (fun v w' => ∃ Ar : Option Addr, ∃ cr : Nat, v = .tuple #[.slice Ar ((replyP c ak aq an apt).1).length cr, .bool ((replyP c ak aq an apt).2)] ∧ SH w w' [] [.own Ar (((replyP c ak aq an apt).1).length) cr 3 1 (((replyP c ak aq an apt).1).map I)]) := by
 refine fn_enter (N := 19) Tryz.func28 rfl (by kernel_rfl) rfl rfl rfl ?_
 have hs0 : SH w w [] [] := SH.refl w []
 have haq_m : aq.length ≤ 9223372036854775807 := Nat.le_trans haq.cap haq.capMax
 refine sq ?_
 refine rg ?_
 refine bx (v := .agg #[I ak, .slice Aaq aq.length caq, Str an, I apt]) (cs := [I ak, .slice Aaq aq.length caq, Str an, I apt]) hs0 rfl rfl trivial rfl (fun b1 w1 (hs1 : SH w w1 [] [.blk b1 34 [I ak, .slice Aaq aq.length caq, Str an, I apt]]) => ?_)
 refine q trivial rfl rfl (asg (v := ns) rfl) ?_
 refine q trivial rfl rfl (asg (v := .bool false) rfl) ?_
 refine nl ?_
 refine nN ?_
 refine sq ?_
 refine sq ?_
 refine rg ?_
 refine q trivial rfl rfl (mv (v := I c) rfl) ?_
 refine cl trivial rfl (iWithin (x := c) (lo := 0) (hi := 8) (w := _)) ?_
 rintro _ w2 ⟨rfl, hs2'⟩
 have hs2 : SH w w2 [] [.blk b1 34 [I ak, .slice Aaq aq.length caq, Str an, I apt]] := hs1.call0 hs2'
 clear hs2'
 refine q trivial rfl rfl (nd (p := 0 ≤ c ∧ c ≤ 8) rfl) ?_
 refine q trivial rfl rfl (mv (v := .bool (decide (¬ (0 ≤ c ∧ c ≤ 8)))) rfl) ?_
 refine spd (p := ¬ (0 ≤ c ∧ c ≤ 8)) 9 rfl (fun h1 => ?_) (fun h1 => ?_)
 · refine gk true rfl rfl rfl rfl rfl ?_
   refine gk true rfl rfl rfl rfl rfl ?_
   refine gk true rfl rfl rfl rfl rfl ?_
   refine q trivial rfl rfl (pt (v := .bool true) rfl rfl) ?_
   refine nl ?_
   refine nN ?_
   refine cdt rfl ?_
   refine sq ?_
   refine rg ?_
   refine q trivial rfl rfl (asg (v := ns) rfl) ?_
   refine q trivial rfl rfl (asg (v := .bool false) rfl) ?_
   refine nl ?_
   refine nN ?_
   refine rt (tR ?_)
   refine fret (v := .tuple #[ns, .bool false]) (.tmp (.tmp .nil)) rfl ?_
   have hs3 : SH w w2 [] [.blk b1 34 [I ak, .slice Aaq aq.length caq, Str an, I apt], .own none (([] : List Int).length) 0 3 1 (([] : List Int).map I)] := SH.nils (by intro i hi; simp at hi; subst hi; exact nilItem) hs2
   have e1 : replyP c ak aq an apt = (([] : List Int), false) := by simp [replyP, h1]
   have e2 : ([] : List Int) = (replyP c ak aq an apt).1 := by rw [e1]
   have e3 : ([] : List Int).length = ((replyP c ak aq an apt).1).length := by exact congrArg List.length e2
   have e4 : false = (replyP c ak aq an apt).2 := by rw [e1]
   exact ⟨none, 0, (tup2 (slv rfl e3 rfl) (congrArg (Value.bool) e4)), ((hs3.pick [1] rfl (by decide)).cast (lc (own_eq (g := I) rfl e3 rfl e2) rfl))⟩
 · refine q ⟨_, rfl, rfl⟩ rfl rfl (ldg (vs := [I ak, .slice Aaq aq.length caq, Str an, I apt]) hs2 0 rfl rfl rfl rfl ag34) ?_
   refine cl ⟨_, rfl, rfl⟩ rfl (iAddressValid (ak := ak) (Aaq := Aaq) (caq := caq) (aq := aq) (an := an) (apt := apt) (w := _) (haq := (haq.up0 hs2)) (han_n := (by first | omega | (simp; done) | (simp; omega)))) ?_
   rintro _ w3 ⟨rfl, hs4'⟩
   have hs4 : SH w w3 [] [.blk b1 34 [I ak, .slice Aaq aq.length caq, Str an, I apt]] := hs2.call0 hs4'
   clear hs4'
   refine q ⟨_, rfl, rfl⟩ rfl rfl (nt (b := addrOk ak aq an apt) rfl) ?_
   refine q trivial rfl rfl (pf (v := .bool (!(addrOk ak aq an apt))) rfl rfl) ?_
   refine nl ?_
   refine nN ?_
   refine cd (b := !(addrOk ak aq an apt)) rfl (fun h2 => ?_) (fun h2 => ?_)
   · have h3 : (addrOk ak aq an apt) = false := by simpa using h2
     refine sq ?_
     refine rg ?_
     refine q trivial rfl rfl (asg (v := ns) rfl) ?_
     refine q trivial rfl rfl (asg (v := .bool false) rfl) ?_
     refine nl ?_
     refine nN ?_
     refine rt (tR ?_)
     refine fret (v := .tuple #[ns, .bool false]) (.tmp (.tmp .nil)) rfl ?_
     have hs5 : SH w w3 [] [.blk b1 34 [I ak, .slice Aaq aq.length caq, Str an, I apt], .own none (([] : List Int).length) 0 3 1 (([] : List Int).map I)] := SH.nils (by intro i hi; simp at hi; subst hi; exact nilItem) hs4
     have e5 : replyP c ak aq an apt = (([] : List Int), false) := by simp [replyP, h1, h3]
     have e6 : ([] : List Int) = (replyP c ak aq an apt).1 := by rw [e5]
     have e7 : ([] : List Int).length = ((replyP c ak aq an apt).1).length := by exact congrArg List.length e6
     have e8 : false = (replyP c ak aq an apt).2 := by rw [e5]
     exact ⟨none, 0, (tup2 (slv rfl e7 rfl) (congrArg (Value.bool) e8)), ((hs5.pick [1] rfl (by decide)).cast (lc (own_eq (g := I) rfl e7 rfl e6) rfl))⟩
   · have h4 : (addrOk ak aq an apt) = true := by simpa using h2
     refine sk ?_
     refine nN ?_
     refine sq ?_
     refine rg ?_
     refine q trivial rfl rfl (mv (v := I c) rfl) ?_
     refine bsk hs4 sl23 [I 5, I c, I 0] [I 5, I c, I 0] trivial rfl (fun b2 w4 (hs6 : SH w w4 [] [.blk b1 34 [I ak, .slice Aaq aq.length caq, Str an, I apt], oI b2 ([5, c, 0] : List Int) 3 3]) => ?_)
     refine q trivial rfl rfl (ldg (vs := [I ak, .slice Aaq aq.length caq, Str an, I apt]) hs6 0 rfl rfl rfl rfl ag34) ?_
     refine cl trivial rfl (iAddressBytes (ak := ak) (Aaq := Aaq) (caq := caq) (aq := aq) (an := an) (apt := apt) (w := _) (haq := (haq.up0 hs6)) (han_n := (by first | omega | (simp; done) | (simp; omega))) (hok := (by first | omega | assumption | (simp; done) | (simp; omega)))) ?_
     rintro _ w5 ⟨A1, c1, rfl, hs7'⟩
     have hs7 : SH w w5 [] [.blk b1 34 [I ak, .slice Aaq aq.length caq, Str an, I apt], oI b2 ([5, c, 0] : List Int) 3 3, .own A1 ((addrB ak aq an apt).length) c1 3 1 ((addrB ak aq an apt).map I)] := hs6.call0 hs7'
     clear hs7'
     refine apm (g := I) (ys := ([5, c, 0] : List Int)) (zs := addrB ak aq an apt) hs7 1 rfl sl23 rfl rfl rfl (hs7.sl0 2 rfl) (fun _ => rfl) (by unfold maxLen; have hbl := addrB_len (by assumption : addrOk ak aq an apt = true); simp only [List.length_append, List.length_cons, List.length_nil]; omega) (by have hbl := addrB_len (by assumption : addrOk ak aq an apt = true); simp only [List.length_append, List.length_cons, List.length_nil]; omega) trivial rfl (fun A2 c2 w6 (hs8 : SH w w6 [] [.blk b1 34 [I ak, .slice Aaq aq.length caq, Str an, I apt], .own A1 ((addrB ak aq an apt).length) c1 3 1 ((addrB ak aq an apt).map I), .own A2 ((([5, c, 0] : List Int) ++ (addrB ak aq an apt)).length) c2 3 1 ((([5, c, 0] : List Int) ++ (addrB ak aq an apt)).map I)]) => ?_)
     refine q trivial rfl rfl (asg (v := .slice A2 ((([5, c, 0] : List Int) ++ (addrB ak aq an apt)).length) c2) rfl) ?_
     refine q trivial rfl rfl (asg (v := .bool true) rfl) ?_
     refine nl ?_
     refine nN ?_
     refine rt ?_
     refine fret (v := .tuple #[.slice A2 ((([5, c, 0] : List Int) ++ (addrB ak aq an apt)).length) c2, .bool true]) (.tmp (.tmp .nil)) rfl ?_
     have e9 : replyP c ak aq an apt = (([5, c, 0] : List Int) ++ (addrB ak aq an apt), true) := by simp [replyP, h1, h4]
     have e10 : ([5, c, 0] : List Int) ++ (addrB ak aq an apt) = (replyP c ak aq an apt).1 := by rw [e9]
     have e11 : (([5, c, 0] : List Int) ++ (addrB ak aq an apt)).length = ((replyP c ak aq an apt).1).length := by exact congrArg List.length e10
     have e12 : true = (replyP c ak aq an apt).2 := by rw [e9]
     exact ⟨A2, c2, (tup2 (slv rfl e11 rfl) (congrArg (Value.bool) e12)), ((hs8.pick [2] rfl (by decide)).cast (lc (own_eq (g := I) rfl e11 rfl e10) rfl))⟩

set_option maxHeartbeats 8000000 in
theorem sReplyBytes (c : Int) (ak : Int) {Aaq : Option Addr} {caq : Nat} (aq : List Int) (an : List UInt8) (apt : Int) (w : World) (haq : Sl w [] 1 Aaq aq.length caq (aq.map I)) (han_n : an.length ≤ 1099511627776) : Does Tryz.prog 22 [I c, .agg #[I ak, .slice Aaq aq.length caq, Str an, I apt]] w (fun v w' => ∃ Ar : Option Addr, ∃ cr : Nat, v = .tuple #[.slice Ar ((replyP c ak aq an apt).1).length cr, .bool ((replyP c ak aq an apt).2)] ∧ SH w w' [] [.own Ar (((replyP c ak aq an apt).1).length) cr 3 1 (((replyP c ak aq an apt).1).map I)]) := by
 refine fn_enter (N := 18) Tryz.func22 rfl (by kernel_rfl) rfl rfl rfl ?_
 have hs0 : SH w w [] [] := SH.refl w []
 have haq_m : aq.length ≤ 9223372036854775807 := Nat.le_trans haq.cap haq.capMax
 refine sq ?_
 refine rg ?_
 refine bx (v := .agg #[I ak, .slice Aaq aq.length caq, Str an, I apt]) (cs := [I ak, .slice Aaq aq.length caq, Str an, I apt]) hs0 rfl rfl trivial rfl (fun b1 w1 (hs1 : SH w w1 [] [.blk b1 34 [I ak, .slice Aaq aq.length caq, Str an, I apt]]) => ?_)
 refine q trivial rfl rfl (asg (v := ns) rfl) ?_
 refine q trivial rfl rfl (asg (v := .bool false) rfl) ?_
 refine nl ?_
 refine nN ?_
 refine sq ?_
 refine sq ?_
 refine rg ?_
 refine q trivial rfl rfl (mv (v := I c) rfl) ?_
 refine cl trivial rfl (sIn (x := c) (lo := 0) (hi := 8) (w := _)) ?_
 rintro _ w2 ⟨rfl, hs2'⟩
 have hs2 : SH w w2 [] [.blk b1 34 [I ak, .slice Aaq aq.length caq, Str an, I apt]] := hs1.call0 hs2'
 clear hs2'
 refine q trivial rfl rfl (nd (p := 0 ≤ c ∧ c ≤ 8) rfl) ?_
 refine q trivial rfl rfl (mv (v := .bool (decide (¬ (0 ≤ c ∧ c ≤ 8)))) rfl) ?_
 refine spd (p := ¬ (0 ≤ c ∧ c ≤ 8)) 9 rfl (fun h1 => ?_) (fun h1 => ?_)
 · refine gk true rfl rfl rfl rfl rfl ?_
   refine gk true rfl rfl rfl rfl rfl ?_
   refine gk true rfl rfl rfl rfl rfl ?_
   refine q trivial rfl rfl (pt (v := .bool true) rfl rfl) ?_
   refine nl ?_
   refine nN ?_
   refine cdt rfl ?_
   refine sq ?_
   refine rg ?_
   refine bsk hs2 sl23 [] [] trivial rfl (fun b2 w3 (hs3 : SH w w3 [] [.blk b1 34 [I ak, .slice Aaq aq.length caq, Str an, I apt], oI b2 ([] : List Int) 0 3]) => ?_)
   refine q trivial rfl rfl (asg (v := sb b2 (([] : List Int).length) 0) rfl) ?_
   refine q trivial rfl rfl (asg (v := .bool false) rfl) ?_
   refine nl ?_
   refine nN ?_
   refine rt (tR ?_)
   refine fret (v := .tuple #[sb b2 (([] : List Int).length) 0, .bool false]) (.tmp (.tmp .nil)) rfl ?_
   have e1 : replyP c ak aq an apt = (([] : List Int), false) := by simp [replyP, h1]
   have e2 : ([] : List Int) = (replyP c ak aq an apt).1 := by rw [e1]
   have e3 : ([] : List Int).length = ((replyP c ak aq an apt).1).length := by exact congrArg List.length e2
   have e4 : false = (replyP c ak aq an apt).2 := by rw [e1]
   exact ⟨(some ⟨b2, 0, none⟩), 0, (tup2 (slv rfl e3 rfl) (congrArg (Value.bool) e4)), ((hs3.pick [1] rfl (by decide)).cast (lc (own_eq (g := I) rfl e3 rfl e2) rfl))⟩
 · refine q ⟨_, rfl, rfl⟩ rfl rfl (ldg (vs := [I ak, .slice Aaq aq.length caq, Str an, I apt]) hs2 0 rfl rfl rfl rfl ag34) ?_
   refine cl ⟨_, rfl, rfl⟩ rfl (sAddressValid (ak := ak) (Aaq := Aaq) (caq := caq) (aq := aq) (an := an) (apt := apt) (w := _) (haq := (haq.up0 hs2)) (han_n := (by first | omega | (simp; done) | (simp; omega)))) ?_
   rintro _ w4 ⟨rfl, hs4'⟩
   have hs4 : SH w w4 [] [.blk b1 34 [I ak, .slice Aaq aq.length caq, Str an, I apt]] := hs2.call0 hs4'
   clear hs4'
   refine q ⟨_, rfl, rfl⟩ rfl rfl (nt (b := addrOk ak aq an apt) rfl) ?_
   refine q trivial rfl rfl (pf (v := .bool (!(addrOk ak aq an apt))) rfl rfl) ?_
   refine nl ?_
   refine nN ?_
   refine cd (b := !(addrOk ak aq an apt)) rfl (fun h2 => ?_) (fun h2 => ?_)
   · have h3 : (addrOk ak aq an apt) = false := by simpa using h2
     refine sq ?_
     refine rg ?_
     refine bsk hs4 sl23 [] [] trivial rfl (fun b3 w5 (hs5 : SH w w5 [] [.blk b1 34 [I ak, .slice Aaq aq.length caq, Str an, I apt], oI b3 ([] : List Int) 0 3]) => ?_)
     refine q trivial rfl rfl (asg (v := sb b3 (([] : List Int).length) 0) rfl) ?_
     refine q trivial rfl rfl (asg (v := .bool false) rfl) ?_
     refine nl ?_
     refine nN ?_
     refine rt (tR ?_)
     refine fret (v := .tuple #[sb b3 (([] : List Int).length) 0, .bool false]) (.tmp (.tmp .nil)) rfl ?_
     have e5 : replyP c ak aq an apt = (([] : List Int), false) := by simp [replyP, h1, h3]
     have e6 : ([] : List Int) = (replyP c ak aq an apt).1 := by rw [e5]
     have e7 : ([] : List Int).length = ((replyP c ak aq an apt).1).length := by exact congrArg List.length e6
     have e8 : false = (replyP c ak aq an apt).2 := by rw [e5]
     exact ⟨(some ⟨b3, 0, none⟩), 0, (tup2 (slv rfl e7 rfl) (congrArg (Value.bool) e8)), ((hs5.pick [1] rfl (by decide)).cast (lc (own_eq (g := I) rfl e7 rfl e6) rfl))⟩
   · have h4 : (addrOk ak aq an apt) = true := by simpa using h2
     refine sk ?_
     refine nN ?_
     refine sq ?_
     refine rg ?_
     refine q trivial rfl rfl (mv (v := I c) rfl) ?_
     refine q trivial rfl rfl (ldg (vs := [I ak, .slice Aaq aq.length caq, Str an, I apt]) hs4 0 rfl rfl rfl rfl ag34) ?_
     refine cl trivial rfl (sL12Bytes (n := c) (ak := ak) (Aaq := Aaq) (caq := caq) (aq := aq) (an := an) (apt := apt) (w := _) (haq := (haq.up0 hs4)) (han_n := (by first | omega | (simp; done) | (simp; omega))) (hok := (by first | omega | assumption | (simp; done) | (simp; omega)))) ?_
     rintro _ w6 ⟨A1, c1, rfl, hs6'⟩
     have hs6 : SH w w6 [] [.blk b1 34 [I ak, .slice Aaq aq.length caq, Str an, I apt], .own A1 (([5, c, 0] ++ addrB ak aq an apt).length) c1 3 1 (([5, c, 0] ++ addrB ak aq an apt).map I)] := hs4.call0 hs6'
     clear hs6'
     refine q trivial rfl rfl (asg (v := .slice A1 (([5, c, 0] ++ addrB ak aq an apt).length) c1) rfl) ?_
     refine q trivial rfl rfl (asg (v := .bool true) rfl) ?_
     refine nl ?_
     refine nN ?_
     refine rt ?_
     refine fret (v := .tuple #[.slice A1 (([5, c, 0] ++ addrB ak aq an apt).length) c1, .bool true]) (.tmp (.tmp .nil)) rfl ?_
     have e9 : replyP c ak aq an apt = ([5, c, 0] ++ addrB ak aq an apt, true) := by simp [replyP, h1, h4]
     have e10 : [5, c, 0] ++ addrB ak aq an apt = (replyP c ak aq an apt).1 := by rw [e9]
     have e11 : ([5, c, 0] ++ addrB ak aq an apt).length = ((replyP c ak aq an apt).1).length := by exact congrArg List.length e10
     have e12 : true = (replyP c ak aq an apt).2 := by rw [e9]
     exact ⟨A1, c1, (tup2 (slv rfl e11 rfl) (congrArg (Value.bool) e12)), ((hs6.pick [1] rfl (by decide)).cast (lc (own_eq (g := I) rfl e11 rfl e10) rfl))⟩

theorem iRulesReply {Azs : Option Addr} {czs : Nat} (zs : List (List UInt8 × Int × Bool)) (c : Int) (ak : Int) {Aaq : Option Addr} {caq : Nat} (aq : List Int) (an : List UInt8) (apt : Int) (w : World) (hzs : Sl w [] 3 Azs zs.length czs (zs.flatMap gRule)) (hzs_e : ∀ u ∈ zs, u.1.length ≤ 9223372036854775807) (haq : Sl w [] 1 Aaq aq.length caq (aq.map I)) (han_n : an.length ≤ 1099511627776) (hGp : Lib.TabIs Tryz.prog w "internal/strconv.uint64pow10" .u64 Lib.pow10Tab) : Does Tryz.prog 9 [.slice Azs zs.length czs, .agg #[I c, I ak, .slice Aaq aq.length caq, Str an, I apt]] w (fun v w' => ∃ Ar : Option Addr, ∃ cr : Nat, v = .tuple #[.slice Ar ((ruleReply zs c ak aq an apt).1).length cr, .bool ((ruleReply zs c ak aq an apt).2)] ∧ SH w w' [] [.own Ar (((ruleReply zs c ak aq an apt).1).length) cr 3 1 (((ruleReply zs c ak aq an apt).1).map I)]) := by
 refine fn_enter (N := 28) Tryz.func9 rfl (by kernel_rfl) rfl rfl rfl ?_
 have hs0 : SH w w [] [] := SH.refl w []
 have hzs_m : zs.length ≤ 9223372036854775807 := Nat.le_trans hzs.cap hzs.capMax
 have haq_m : aq.length ≤ 9223372036854775807 := Nat.le_trans haq.cap haq.capMax
 refine sq ?_
 refine rg ?_
 refine bx (v := .agg #[I c, I ak, .slice Aaq aq.length caq, Str an, I apt]) (cs := [I c, I ak, .slice Aaq aq.length caq, Str an, I apt]) hs0 rfl rfl trivial rfl (fun b1 w1 (hs1 : SH w w1 [] [.blk b1 36 [I c, I ak, .slice Aaq aq.length caq, Str an, I apt]]) => ?_)
 refine q trivial rfl rfl (asg (v := ns) rfl) ?_
 refine q trivial rfl rfl (asg (v := .bool false) rfl) ?_
 refine nl ?_
 refine nN ?_
 refine sq ?_
 refine sq ?_
 refine rg ?_
 refine q trivial rfl rfl (mv (v := .slice Azs zs.length czs) rfl) ?_
 refine cl trivial rfl (iRulesValid (Azs := Azs) (czs := czs) (zs := zs) (w := _) (hzs := (hzs.up0 hs1)) (hzs_e := hzs_e)) ?_
 rintro _ w2 ⟨rfl, hs2'⟩
 have hs2 : SH w w2 [] [.blk b1 36 [I c, I ak, .slice Aaq aq.length caq, Str an, I apt]] := hs1.call0 hs2'
 clear hs2'
 refine q trivial rfl rfl (nt (b := rulesOk zs) rfl) ?_
 refine q trivial rfl rfl (mv (v := .bool (!(rulesOk zs))) rfl) ?_
 refine spl (b := !(rulesOk zs)) 9 rfl (fun h1 => ?_) (fun h1 => ?_)
 · have h2 : (rulesOk zs) = false := by simpa using h1
   refine gk true rfl rfl rfl rfl rfl ?_
   refine gk true rfl rfl rfl rfl rfl ?_
   refine gk true rfl rfl rfl rfl rfl ?_
   refine q trivial rfl rfl (pt (v := .bool true) rfl rfl) ?_
   refine nl ?_
   refine nN ?_
   refine cdt rfl ?_
   refine sq ?_
   refine rg ?_
   refine q trivial rfl rfl (asg (v := ns) rfl) ?_
   refine q trivial rfl rfl (asg (v := .bool false) rfl) ?_
   refine nl ?_
   refine nN ?_
   refine rt (tR ?_)
   refine fret (v := .tuple #[ns, .bool false]) (.tmp (.tmp .nil)) rfl ?_
   have hs3 : SH w w2 [] [.blk b1 36 [I c, I ak, .slice Aaq aq.length caq, Str an, I apt], .own none (([] : List Int).length) 0 3 1 (([] : List Int).map I)] := SH.nils (by intro i hi; simp at hi; subst hi; exact nilItem) hs2
   have e1 : ruleReply zs c ak aq an apt = (([] : List Int), false) := by first | (simp [ruleReply, h2]; done) | (have hra := reqOk_addr (by assumption : reqOk c ak aq an apt = true); have hrr := rulesAllow_ok (by assumption : rulesOk zs = true) hra; simp [ruleReply, hrr, h2]; done) | (have hrq := (reqP_2 c ak aq an apt).symm.trans (by assumption); simp [ruleReply, hrq, h2]; done)
   have e2 : ([] : List Int) = (ruleReply zs c ak aq an apt).1 := by rw [e1]
   have e3 : ([] : List Int).length = ((ruleReply zs c ak aq an apt).1).length := by exact congrArg List.length e2
   have e4 : false = (ruleReply zs c ak aq an apt).2 := by rw [e1]
   exact ⟨none, 0, (tup2 (slv rfl e3 rfl) (congrArg (Value.bool) e4)), ((hs3.pick [1] rfl (by decide)).cast (lc (own_eq (g := I) rfl e3 rfl e2) rfl))⟩
 · have h3 : (rulesOk zs) = true := by simpa using h1
   refine q ⟨_, rfl, rfl⟩ rfl rfl (ldg (vs := [I c, I ak, .slice Aaq aq.length caq, Str an, I apt]) hs2 0 rfl rfl rfl rfl ag36) ?_
   refine cl ⟨_, rfl, rfl⟩ rfl (iIsRequest (n := c) (ak := ak) (Aaq := Aaq) (caq := caq) (aq := aq) (an := an) (apt := apt) (w := _) (haq := (haq.up0 hs2)) (han_n := (by first | omega | (simp; done) | (simp; omega)))) ?_
   rintro _ w3 ⟨rfl, hs4'⟩
   have hs4 : SH w w3 [] [.blk b1 36 [I c, I ak, .slice Aaq aq.length caq, Str an, I apt]] := hs2.call0 hs4'
   clear hs4'
   refine q ⟨_, rfl, rfl⟩ rfl rfl (nt (b := reqOk c ak aq an apt) rfl) ?_
   refine q trivial rfl rfl (pf (v := .bool (!(reqOk c ak aq an apt))) rfl rfl) ?_
   refine nl ?_
   refine nN ?_
   refine cd (b := !(reqOk c ak aq an apt)) rfl (fun h4 => ?_) (fun h4 => ?_)
   · have h5 : (reqOk c ak aq an apt) = false := by simpa using h4
     refine sq ?_
     refine rg ?_
     refine q trivial rfl rfl (asg (v := ns) rfl) ?_
     refine q trivial rfl rfl (asg (v := .bool false) rfl) ?_
     refine nl ?_
     refine nN ?_
     refine rt (tR ?_)
     refine fret (v := .tuple #[ns, .bool false]) (.tmp (.tmp .nil)) rfl ?_
     have hs5 : SH w w3 [] [.blk b1 36 [I c, I ak, .slice Aaq aq.length caq, Str an, I apt], .own none (([] : List Int).length) 0 3 1 (([] : List Int).map I)] := SH.nils (by intro i hi; simp at hi; subst hi; exact nilItem) hs4
     have e5 : ruleReply zs c ak aq an apt = (([] : List Int), false) := by first | (simp [ruleReply, h3, h5]; done) | (have hra := reqOk_addr (by assumption : reqOk c ak aq an apt = true); have hrr := rulesAllow_ok (by assumption : rulesOk zs = true) hra; simp [ruleReply, hrr, h3, h5]; done) | (have hrq := (reqP_2 c ak aq an apt).symm.trans (by assumption); simp [ruleReply, hrq, h3, h5]; done)
     have e6 : ([] : List Int) = (ruleReply zs c ak aq an apt).1 := by rw [e5]
     have e7 : ([] : List Int).length = ((ruleReply zs c ak aq an apt).1).length := by exact congrArg List.length e6
     have e8 : false = (ruleReply zs c ak aq an apt).2 := by rw [e5]
     exact ⟨none, 0, (tup2 (slv rfl e7 rfl) (congrArg (Value.bool) e8)), ((hs5.pick [1] rfl (by decide)).cast (lc (own_eq (g := I) rfl e7 rfl e6) rfl))⟩
   · have h6 : (reqOk c ak aq an apt) = true := by simpa using h4
     refine sk ?_
     refine nN ?_
     refine sq ?_
     refine sq ?_
     refine rg ?_
     refine q trivial rfl rfl (mv (v := .slice Azs zs.length czs) rfl) ?_
     refine q trivial rfl rfl (fa 1 fo36_1 rfl) ?_
     refine q trivial rfl rfl (ldg (vs := [I ak, .slice Aaq aq.length caq, Str an, I apt]) hs4 0 rfl rfl rfl rfl ag34) ?_
     refine cl trivial rfl (iAllow (Azs := Azs) (czs := czs) (zs := zs) (ak := ak) (Aaq := Aaq) (caq := caq) (aq := aq) (an := an) (apt := apt) (w := _) (hzs := (hzs.up0 hs4)) (hzs_e := hzs_e) (haq := (haq.up0 hs4)) (han_n := (by first | omega | (simp; done) | (simp; omega))) (hok := (by exact reqOk_addr (by assumption))) (hGp := (tab_up hGp hs4))) ?_
     rintro _ w4 ⟨rfl, hs6'⟩
     have hs6 : SH w w4 [] [.blk b1 36 [I c, I ak, .slice Aaq aq.length caq, Str an, I apt]] := hs4.call0 hs6'
     clear hs6'
     refine nl ?_
     refine nN ?_
     refine cd (b := allowL zs (hostT ak aq an) apt) rfl (fun h7 => ?_) (fun h7 => ?_)
     · refine sq ?_
       refine rg ?_
       refine q trivial rfl rfl (fa 1 fo36_1 rfl) ?_
       refine q trivial rfl rfl (ldg (vs := [I ak, .slice Aaq aq.length caq, Str an, I apt]) hs6 0 rfl rfl rfl rfl ag34) ?_
       refine cl trivial rfl (iReplyBytes (c := 0) (ak := ak) (Aaq := Aaq) (caq := caq) (aq := aq) (an := an) (apt := apt) (w := _) (haq := (haq.up0 hs6)) (han_n := (by first | omega | (simp; done) | (simp; omega)))) ?_
       rintro _ w5 ⟨A1, c1, rfl, hs7'⟩
       have hs7 : SH w w5 [] [.blk b1 36 [I c, I ak, .slice Aaq aq.length caq, Str an, I apt], .own A1 (((replyP 0 ak aq an apt).1).length) c1 3 1 (((replyP 0 ak aq an apt).1).map I)] := hs6.call0 hs7'
       clear hs7'
       refine q trivial rfl rfl (xt 0 (v := .slice A1 (((replyP 0 ak aq an apt).1).length) c1) rfl rfl) ?_
       refine q trivial rfl rfl (xt 1 (v := .bool ((replyP 0 ak aq an apt).2)) rfl rfl) ?_
       refine q trivial rfl rfl (asg (v := .slice A1 (((replyP 0 ak aq an apt).1).length) c1) rfl) ?_
       refine q trivial rfl rfl (asg (v := .bool ((replyP 0 ak aq an apt).2)) rfl) ?_
       refine nl ?_
       refine nN ?_
       refine rt (tR ?_)
       refine fret (v := .tuple #[.slice A1 (((replyP 0 ak aq an apt).1).length) c1, .bool ((replyP 0 ak aq an apt).2)]) (.tmp (.tmp .nil)) rfl ?_
       have e9 : ruleReply zs c ak aq an apt = ((replyP 0 ak aq an apt).1, ((replyP 0 ak aq an apt).2)) := by first | (simp [ruleReply, h3, h6, h7]; done) | (have hra := reqOk_addr (by assumption : reqOk c ak aq an apt = true); have hrr := rulesAllow_ok (by assumption : rulesOk zs = true) hra; simp [ruleReply, hrr, h3, h6, h7]; done) | (have hrq := (reqP_2 c ak aq an apt).symm.trans (by assumption); simp [ruleReply, hrq, h3, h6, h7]; done)
       have e10 : (replyP 0 ak aq an apt).1 = (ruleReply zs c ak aq an apt).1 := by rw [e9]
       have e11 : ((replyP 0 ak aq an apt).1).length = ((ruleReply zs c ak aq an apt).1).length := by exact congrArg List.length e10
       have e12 : ((replyP 0 ak aq an apt).2) = (ruleReply zs c ak aq an apt).2 := by rw [e9]
       exact ⟨A1, c1, (tup2 (slv rfl e11 rfl) (congrArg (Value.bool) e12)), ((hs7.pick [1] rfl (by decide)).cast (lc (own_eq (g := I) rfl e11 rfl e10) rfl))⟩
     · refine sk ?_
       refine nN ?_
       refine sq ?_
       refine rg ?_
       refine q trivial rfl rfl (fa 1 fo36_1 rfl) ?_
       refine q trivial rfl rfl (ldg (vs := [I ak, .slice Aaq aq.length caq, Str an, I apt]) hs6 0 rfl rfl rfl rfl ag34) ?_
       refine cl trivial rfl (iReplyBytes (c := 2) (ak := ak) (Aaq := Aaq) (caq := caq) (aq := aq) (an := an) (apt := apt) (w := _) (haq := (haq.up0 hs6)) (han_n := (by first | omega | (simp; done) | (simp; omega)))) ?_
       rintro _ w6 ⟨A2, c2, rfl, hs8'⟩
       have hs8 : SH w w6 [] [.blk b1 36 [I c, I ak, .slice Aaq aq.length caq, Str an, I apt], .own A2 (((replyP 2 ak aq an apt).1).length) c2 3 1 (((replyP 2 ak aq an apt).1).map I)] := hs6.call0 hs8'
       clear hs8'
       refine q trivial rfl rfl (xt 0 (v := .slice A2 (((replyP 2 ak aq an apt).1).length) c2) rfl rfl) ?_
       refine q trivial rfl rfl (xt 1 (v := .bool ((replyP 2 ak aq an apt).2)) rfl rfl) ?_
       refine q trivial rfl rfl (asg (v := .slice A2 (((replyP 2 ak aq an apt).1).length) c2) rfl) ?_
       refine q trivial rfl rfl (asg (v := .bool ((replyP 2 ak aq an apt).2)) rfl) ?_
       refine nl ?_
       refine nN ?_
       refine rt ?_
       refine fret (v := .tuple #[.slice A2 (((replyP 2 ak aq an apt).1).length) c2, .bool ((replyP 2 ak aq an apt).2)]) (.tmp (.tmp .nil)) rfl ?_
       have e13 : ruleReply zs c ak aq an apt = ((replyP 2 ak aq an apt).1, ((replyP 2 ak aq an apt).2)) := by first | (simp [ruleReply, h3, h6, h7]; done) | (have hra := reqOk_addr (by assumption : reqOk c ak aq an apt = true); have hrr := rulesAllow_ok (by assumption : rulesOk zs = true) hra; simp [ruleReply, hrr, h3, h6, h7]; done) | (have hrq := (reqP_2 c ak aq an apt).symm.trans (by assumption); simp [ruleReply, hrq, h3, h6, h7]; done)
       have e14 : (replyP 2 ak aq an apt).1 = (ruleReply zs c ak aq an apt).1 := by rw [e13]
       have e15 : ((replyP 2 ak aq an apt).1).length = ((ruleReply zs c ak aq an apt).1).length := by exact congrArg List.length e14
       have e16 : ((replyP 2 ak aq an apt).2) = (ruleReply zs c ak aq an apt).2 := by rw [e13]
       exact ⟨A2, c2, (tup2 (slv rfl e15 rfl) (congrArg (Value.bool) e16)), ((hs8.pick [1] rfl (by decide)).cast (lc (own_eq (g := I) rfl e15 rfl e14) rfl))⟩

theorem sRulesReply {Azs : Option Addr} {czs : Nat} (zs : List (List UInt8 × Int × Bool)) (c : Int) (ak : Int) {Aaq : Option Addr} {caq : Nat} (aq : List Int) (an : List UInt8) (apt : Int) (w : World) (hzs : Sl w [] 3 Azs zs.length czs (zs.flatMap gRule)) (hzs_e : ∀ u ∈ zs, u.1.length ≤ 9223372036854775807) (haq : Sl w [] 1 Aaq aq.length caq (aq.map I)) (han_n : an.length ≤ 1099511627776) : Does Tryz.prog 6 [.slice Azs zs.length czs, .agg #[I c, I ak, .slice Aaq aq.length caq, Str an, I apt]] w (fun v w' => ∃ Ar : Option Addr, ∃ cr : Nat, v = .tuple #[.slice Ar ((ruleReply zs c ak aq an apt).1).length cr, .bool ((ruleReply zs c ak aq an apt).2)] ∧ SH w w' [] [.own Ar (((ruleReply zs c ak aq an apt).1).length) cr 3 1 (((ruleReply zs c ak aq an apt).1).map I)]) := by
 refine fn_enter (N := 35) Tryz.func6 rfl (by kernel_rfl) rfl rfl rfl ?_
 have hs0 : SH w w [] [] := SH.refl w []
 have hzs_m : zs.length ≤ 9223372036854775807 := Nat.le_trans hzs.cap hzs.capMax
 have haq_m : aq.length ≤ 9223372036854775807 := Nat.le_trans haq.cap haq.capMax
 refine sq ?_
 refine rg ?_
 refine bx (v := .agg #[I c, I ak, .slice Aaq aq.length caq, Str an, I apt]) (cs := [I c, I ak, .slice Aaq aq.length caq, Str an, I apt]) hs0 rfl rfl trivial rfl (fun b1 w1 (hs1 : SH w w1 [] [.blk b1 36 [I c, I ak, .slice Aaq aq.length caq, Str an, I apt]]) => ?_)
 refine q trivial rfl rfl (asg (v := ns) rfl) ?_
 refine q trivial rfl rfl (asg (v := .bool false) rfl) ?_
 refine nl ?_
 refine nN ?_
 refine sq ?_
 refine rg ?_
 refine q trivial rfl rfl (ldg (vs := [I c, I ak, .slice Aaq aq.length caq, Str an, I apt]) hs1 0 rfl rfl rfl rfl ag36) ?_
 refine cl trivial rfl (sRequestBytes (n := c) (ak := ak) (Aaq := Aaq) (caq := caq) (aq := aq) (an := an) (apt := apt) (w := _) (haq := (haq.up0 hs1)) (han_n := (by first | omega | (simp; done) | (simp; omega)))) ?_
 rintro _ w2 ⟨A1, c1, rfl, hs2'⟩
 have hs2 : SH w w2 [] [.blk b1 36 [I c, I ak, .slice Aaq aq.length caq, Str an, I apt], .own A1 (((reqP c ak aq an apt).1).length) c1 3 1 (((reqP c ak aq an apt).1).map I)] := hs1.call0 hs2'
 clear hs2'
 refine q trivial rfl rfl (mv (v := .tuple #[.slice A1 (((reqP c ak aq an apt).1).length) c1, .bool ((reqP c ak aq an apt).2)]) rfl) ?_
 refine q trivial rfl rfl (xt 0 (v := .slice A1 (((reqP c ak aq an apt).1).length) c1) rfl rfl) ?_
 refine q trivial rfl rfl (xt 1 (v := .bool ((reqP c ak aq an apt).2)) rfl rfl) ?_
 refine q trivial rfl rfl (asg (v := .slice A1 (((reqP c ak aq an apt).1).length) c1) rfl) ?_
 refine q trivial rfl rfl (asg (v := .bool ((reqP c ak aq an apt).2)) rfl) ?_
 refine nl ?_
 refine nN ?_
 refine sq ?_
 refine sq ?_
 refine rg ?_
 refine q trivial rfl rfl (mv (v := .slice Azs zs.length czs) rfl) ?_
 refine cl trivial rfl (sRulesValid (Azs := Azs) (czs := czs) (zs := zs) (w := _) (hzs := (hzs.up0 hs2)) (hzs_e := hzs_e)) ?_
 rintro _ w3 ⟨rfl, hs3'⟩
 have hs3 : SH w w3 [] [.blk b1 36 [I c, I ak, .slice Aaq aq.length caq, Str an, I apt], .own A1 (((reqP c ak aq an apt).1).length) c1 3 1 (((reqP c ak aq an apt).1).map I)] := hs2.call0 hs3'
 clear hs3'
 refine q trivial rfl rfl (nt (b := rulesOk zs) rfl) ?_
 refine q trivial rfl rfl (mv (v := .bool (!(rulesOk zs))) rfl) ?_
 refine spl (b := !(rulesOk zs)) 16 rfl (fun h1 => ?_) (fun h1 => ?_)
 · have h2 : (rulesOk zs) = false := by simpa using h1
   refine gk true rfl rfl rfl rfl rfl ?_
   refine gk true rfl rfl rfl rfl rfl ?_
   refine q trivial rfl rfl (pt (v := .bool true) rfl rfl) ?_
   refine nl ?_
   refine nN ?_
   refine cdt rfl ?_
   refine sq ?_
   refine rg ?_
   refine bsk hs3 sl23 [] [] trivial rfl (fun b2 w4 (hs4 : SH w w4 [] [.blk b1 36 [I c, I ak, .slice Aaq aq.length caq, Str an, I apt], .own A1 (((reqP c ak aq an apt).1).length) c1 3 1 (((reqP c ak aq an apt).1).map I), oI b2 ([] : List Int) 0 3]) => ?_)
   refine q trivial rfl rfl (asg (v := sb b2 (([] : List Int).length) 0) rfl) ?_
   refine q trivial rfl rfl (asg (v := .bool false) rfl) ?_
   refine nl ?_
   refine nN ?_
   refine rt (tR ?_)
   refine fret (v := .tuple #[sb b2 (([] : List Int).length) 0, .bool false]) (.tmp (.tmp .nil)) rfl ?_
   have e1 : ruleReply zs c ak aq an apt = (([] : List Int), false) := by first | (simp [ruleReply, h2]; done) | (have hra := reqOk_addr (by assumption : reqOk c ak aq an apt = true); have hrr := rulesAllow_ok (by assumption : rulesOk zs = true) hra; simp [ruleReply, hrr, h2]; done) | (have hrq := (reqP_2 c ak aq an apt).symm.trans (by assumption); simp [ruleReply, hrq, h2]; done)
   have e2 : ([] : List Int) = (ruleReply zs c ak aq an apt).1 := by rw [e1]
   have e3 : ([] : List Int).length = ((ruleReply zs c ak aq an apt).1).length := by exact congrArg List.length e2
   have e4 : false = (ruleReply zs c ak aq an apt).2 := by rw [e1]
   exact ⟨(some ⟨b2, 0, none⟩), 0, (tup2 (slv rfl e3 rfl) (congrArg (Value.bool) e4)), ((hs4.pick [2] rfl (by decide)).cast (lc (own_eq (g := I) rfl e3 rfl e2) rfl))⟩
 · have h3 : (rulesOk zs) = true := by simpa using h1
   refine q ⟨_, rfl, rfl⟩ rfl rfl (mv (v := .bool ((reqP c ak aq an apt).2)) rfl) ?_
   refine q ⟨_, rfl, rfl⟩ rfl rfl (nt (b := (reqP c ak aq an apt).2) rfl) ?_
   refine q trivial rfl rfl (pf (v := .bool (!((reqP c ak aq an apt).2))) rfl rfl) ?_
   refine nl ?_
   refine nN ?_
   refine cd (b := !((reqP c ak aq an apt).2)) rfl (fun h4 => ?_) (fun h4 => ?_)
   · have h5 : ((reqP c ak aq an apt).2) = false := by simpa using h4
     refine sq ?_
     refine rg ?_
     refine bsk hs3 sl23 [] [] trivial rfl (fun b3 w5 (hs5 : SH w w5 [] [.blk b1 36 [I c, I ak, .slice Aaq aq.length caq, Str an, I apt], .own A1 (((reqP c ak aq an apt).1).length) c1 3 1 (((reqP c ak aq an apt).1).map I), oI b3 ([] : List Int) 0 3]) => ?_)
     refine q trivial rfl rfl (asg (v := sb b3 (([] : List Int).length) 0) rfl) ?_
     refine q trivial rfl rfl (asg (v := .bool false) rfl) ?_
     refine nl ?_
     refine nN ?_
     refine rt (tR ?_)
     refine fret (v := .tuple #[sb b3 (([] : List Int).length) 0, .bool false]) (.tmp (.tmp .nil)) rfl ?_
     have e5 : ruleReply zs c ak aq an apt = (([] : List Int), false) := by first | (simp [ruleReply, h3, h5]; done) | (have hra := reqOk_addr (by assumption : reqOk c ak aq an apt = true); have hrr := rulesAllow_ok (by assumption : rulesOk zs = true) hra; simp [ruleReply, hrr, h3, h5]; done) | (have hrq := (reqP_2 c ak aq an apt).symm.trans (by assumption); simp [ruleReply, hrq, h3, h5]; done)
     have e6 : ([] : List Int) = (ruleReply zs c ak aq an apt).1 := by rw [e5]
     have e7 : ([] : List Int).length = ((ruleReply zs c ak aq an apt).1).length := by exact congrArg List.length e6
     have e8 : false = (ruleReply zs c ak aq an apt).2 := by rw [e5]
     exact ⟨(some ⟨b3, 0, none⟩), 0, (tup2 (slv rfl e7 rfl) (congrArg (Value.bool) e8)), ((hs5.pick [2] rfl (by decide)).cast (lc (own_eq (g := I) rfl e7 rfl e6) rfl))⟩
   · have h6 : ((reqP c ak aq an apt).2) = true := by simpa using h4
     refine sk ?_
     refine nN ?_
     refine sq ?_
     refine sq ?_
     refine rg ?_
     refine q trivial rfl rfl (mv (v := .slice Azs zs.length czs) rfl) ?_
     refine q trivial rfl rfl (fa 1 fo36_1 rfl) ?_
     refine q trivial rfl rfl (ldg (vs := [I ak, .slice Aaq aq.length caq, Str an, I apt]) hs3 0 rfl rfl rfl rfl ag34) ?_
     refine cl trivial rfl (sRulesAllow (Azs := Azs) (czs := czs) (zs := zs) (ak := ak) (Aaq := Aaq) (caq := caq) (aq := aq) (an := an) (apt := apt) (w := _) (hzs := (hzs.up0 hs3)) (hzs_e := hzs_e) (haq := (haq.up0 hs3)) (han_n := (by first | omega | (simp; done) | (simp; omega)))) ?_
     rintro _ w6 ⟨rfl, hs6'⟩
     have hs6 : SH w w6 [] [.blk b1 36 [I c, I ak, .slice Aaq aq.length caq, Str an, I apt], .own A1 (((reqP c ak aq an apt).1).length) c1 3 1 (((reqP c ak aq an apt).1).map I)] := hs3.call0 hs6'
     clear hs6'
     refine nl ?_
     refine nN ?_
     refine cd (b := rulesAllow zs ak aq an apt) rfl (fun h7 => ?_) (fun h7 => ?_)
     · refine sq ?_
       refine rg ?_
       refine q trivial rfl rfl (fa 1 fo36_1 rfl) ?_
       refine q trivial rfl rfl (ldg (vs := [I ak, .slice Aaq aq.length caq, Str an, I apt]) hs6 0 rfl rfl rfl rfl ag34) ?_
       refine cl trivial rfl (sReplyBytes (c := 0) (ak := ak) (Aaq := Aaq) (caq := caq) (aq := aq) (an := an) (apt := apt) (w := _) (haq := (haq.up0 hs6)) (han_n := (by first | omega | (simp; done) | (simp; omega)))) ?_
       rintro _ w7 ⟨A2, c2, rfl, hs7'⟩
       have hs7 : SH w w7 [] [.blk b1 36 [I c, I ak, .slice Aaq aq.length caq, Str an, I apt], .own A1 (((reqP c ak aq an apt).1).length) c1 3 1 (((reqP c ak aq an apt).1).map I), .own A2 (((replyP 0 ak aq an apt).1).length) c2 3 1 (((replyP 0 ak aq an apt).1).map I)] := hs6.call0 hs7'
       clear hs7'
       refine q trivial rfl rfl (xt 0 (v := .slice A2 (((replyP 0 ak aq an apt).1).length) c2) rfl rfl) ?_
       refine q trivial rfl rfl (xt 1 (v := .bool ((replyP 0 ak aq an apt).2)) rfl rfl) ?_
       refine q trivial rfl rfl (asg (v := .slice A2 (((replyP 0 ak aq an apt).1).length) c2) rfl) ?_
       refine q trivial rfl rfl (asg (v := .bool ((replyP 0 ak aq an apt).2)) rfl) ?_
       refine nl ?_
       refine nN ?_
       refine rt (tR ?_)
       refine fret (v := .tuple #[.slice A2 (((replyP 0 ak aq an apt).1).length) c2, .bool ((replyP 0 ak aq an apt).2)]) (.tmp (.tmp .nil)) rfl ?_
       have e9 : ruleReply zs c ak aq an apt = ((replyP 0 ak aq an apt).1, ((replyP 0 ak aq an apt).2)) := by first | (simp [ruleReply, h3, h6, h7]; done) | (have hra := reqOk_addr (by assumption : reqOk c ak aq an apt = true); have hrr := rulesAllow_ok (by assumption : rulesOk zs = true) hra; simp [ruleReply, hrr, h3, h6, h7]; done) | (have hrq := (reqP_2 c ak aq an apt).symm.trans (by assumption); simp [ruleReply, hrq, h3, h6, h7]; done)
       have e10 : (replyP 0 ak aq an apt).1 = (ruleReply zs c ak aq an apt).1 := by rw [e9]
       have e11 : ((replyP 0 ak aq an apt).1).length = ((ruleReply zs c ak aq an apt).1).length := by exact congrArg List.length e10
       have e12 : ((replyP 0 ak aq an apt).2) = (ruleReply zs c ak aq an apt).2 := by rw [e9]
       exact ⟨A2, c2, (tup2 (slv rfl e11 rfl) (congrArg (Value.bool) e12)), ((hs7.pick [2] rfl (by decide)).cast (lc (own_eq (g := I) rfl e11 rfl e10) rfl))⟩
     · refine sk ?_
       refine nN ?_
       refine sq ?_
       refine rg ?_
       refine q trivial rfl rfl (fa 1 fo36_1 rfl) ?_
       refine q trivial rfl rfl (ldg (vs := [I ak, .slice Aaq aq.length caq, Str an, I apt]) hs6 0 rfl rfl rfl rfl ag34) ?_
       refine cl trivial rfl (sReplyBytes (c := 2) (ak := ak) (Aaq := Aaq) (caq := caq) (aq := aq) (an := an) (apt := apt) (w := _) (haq := (haq.up0 hs6)) (han_n := (by first | omega | (simp; done) | (simp; omega)))) ?_
       rintro _ w8 ⟨A3, c3, rfl, hs8'⟩
       have hs8 : SH w w8 [] [.blk b1 36 [I c, I ak, .slice Aaq aq.length caq, Str an, I apt], .own A1 (((reqP c ak aq an apt).1).length) c1 3 1 (((reqP c ak aq an apt).1).map I), .own A3 (((replyP 2 ak aq an apt).1).length) c3 3 1 (((replyP 2 ak aq an apt).1).map I)] := hs6.call0 hs8'
       clear hs8'
       refine q trivial rfl rfl (xt 0 (v := .slice A3 (((replyP 2 ak aq an apt).1).length) c3) rfl rfl) ?_
       refine q trivial rfl rfl (xt 1 (v := .bool ((replyP 2 ak aq an apt).2)) rfl rfl) ?_
       refine q trivial rfl rfl (asg (v := .slice A3 (((replyP 2 ak aq an apt).1).length) c3) rfl) ?_
       refine q trivial rfl rfl (asg (v := .bool ((replyP 2 ak aq an apt).2)) rfl) ?_
       refine nl ?_
       refine nN ?_
       refine rt ?_
       refine fret (v := .tuple #[.slice A3 (((replyP 2 ak aq an apt).1).length) c3, .bool ((replyP 2 ak aq an apt).2)]) (.tmp (.tmp .nil)) rfl ?_
       have e13 : ruleReply zs c ak aq an apt = ((replyP 2 ak aq an apt).1, ((replyP 2 ak aq an apt).2)) := by first | (simp [ruleReply, h3, h6, h7]; done) | (have hra := reqOk_addr (by assumption : reqOk c ak aq an apt = true); have hrr := rulesAllow_ok (by assumption : rulesOk zs = true) hra; simp [ruleReply, hrr, h3, h6, h7]; done) | (have hrq := (reqP_2 c ak aq an apt).symm.trans (by assumption); simp [ruleReply, hrq, h3, h6, h7]; done)
       have e14 : (replyP 2 ak aq an apt).1 = (ruleReply zs c ak aq an apt).1 := by rw [e13]
       have e15 : ((replyP 2 ak aq an apt).1).length = ((ruleReply zs c ak aq an apt).1).length := by exact congrArg List.length e14
       have e16 : ((replyP 2 ak aq an apt).2) = (ruleReply zs c ak aq an apt).2 := by rw [e13]
       exact ⟨A3, c3, (tup2 (slv rfl e15 rfl) (congrArg (Value.bool) e16)), ((hs8.pick [2] rfl (by decide)).cast (lc (own_eq (g := I) rfl e15 rfl e14) rfl))⟩

theorem markText (k : Int) (w : World) (hk : 0 ≤ k ∧ k ≤ 4611686018427387904) : Does Tryz.prog 31 [I k] w (fun v w' => v = Str (markT k) ∧ SH w w' [] []) := by
 refine fn_enter (N := 20) Tryz.func31 rfl (by kernel_rfl) rfl rfl rfl ?_
 have hs0 : SH w w [] [] := SH.refl w []
 refine sq ?_
 refine rg ?_
 refine q trivial rfl rfl (asg (v := Str []) rfl) ?_
 refine nl ?_
 refine nN ?_
 refine sq ?_
 refine sq ?_
 refine rg ?_
 refine q trivial rfl rfl (mv (v := I k) rfl) ?_
 refine q trivial rfl rfl (leq (k := .i64) (a := k) (b := 0) rfl rfl) ?_
 refine nl ?_
 refine nN ?_
 refine cdd (p := k ≤ 0) rfl (fun h1 => ?_) (fun h1 => ?_)
 · refine sq ?_
   refine rg ?_
   refine q trivial rfl rfl (asg (v := Str [109, 48]) rfl) ?_
   refine nl ?_
   refine nN ?_
   refine rt (tR ?_)
   refine fret (v := Str [109, 48]) (.tmp .nil) rfl ?_
   have e1 : [109, 48] = markT k := by exact (if_pos (by assumption)).symm
   exact ⟨(congrArg (Str) e1), hs0⟩
 · refine sk ?_
   refine nN ?_
   refine sq ?_
   refine rg ?_
   refine q trivial rfl rfl (asg (v := Str []) rfl) ?_
   refine nl ?_
   refine nN ?_
   refine sq ?_
   refine bl ?_
   refine lp (σ := Int × (List UInt8)) (fun ⟨j, o⟩ f w' => Has f [(0, I j), (3, Str o)] ∧ (0 ≤ j ∧ j ≤ k) ∧ ((if j = 0 then [] else Lib.itoa j) ++ o = Lib.itoa k) ∧ SH w w' [] []) (fun ⟨j, o⟩ => j.toNat) (k, ([] : List UInt8)) ⟨⟨rfl, rfl, trivial⟩, (by omega), (by rw [if_neg (by omega)]; simp), hs0⟩ ?_
   rintro ⟨j, o⟩ f w1 ⟨hf, hj, ho, hs1⟩
   obtain ⟨g1, rfl⟩ := has_upd hf
   clear hf
   refine sq ?_
   refine sq ?_
   refine rg ?_
   refine q trivial rfl rfl (mv (v := I j) rfl) ?_
   refine q trivial rfl rfl (gtr (k := .i64) (a := j) (b := 0) rfl rfl) ?_
   refine nl ?_
   refine nN ?_
   refine cdd (p := (0 : Int) < j) rfl (fun h2 => ?_) (fun h2 => ?_)
   · refine sk ?_
     refine nN ?_
     refine bl ?_
     refine sq ?_
     refine rg ?_
     refine q trivial rfl rfl (mv (v := I j) rfl) ?_
     refine q trivial rfl rfl (rem (a := j) (b := 10) rfl rfl (by omega) (by omega)) ?_
     refine q trivial rfl rfl (add (a := 48) (b := j % 10) rfl rfl (by exact ⟨by omega, by omega⟩)) ?_
     refine q trivial rfl rfl (cvB (a := 48 + (j % 10)) (s := .i64) ti3 ti5 rfl (by omega) (by omega)) ?_
     refine bsk hs1 sl73 [.int .u8 (((UInt8.ofNat (48 + (j % 10)).toNat).toNat : Nat) : Int)] [.int .u8 (((UInt8.ofNat (48 + (j % 10)).toNat).toNat : Nat) : Int)] trivial rfl (fun b1 w2 (hs2 : SH w w2 [] [.own (some ⟨b1, 0, none⟩) (([(UInt8.ofNat (48 + (j % 10)).toNat)] : List UInt8).length) 1 5 1 (([(UInt8.ofNat (48 + (j % 10)).toNat)] : List UInt8).map U)]) => ?_)
     refine q trivial rfl rfl (cvS (l := ([(UInt8.ofNat (48 + (j % 10)).toNat)] : List UInt8)) us73 ti5 st9 rfl (hs2.sl0 0 rfl)) ?_
     refine q trivial rfl rfl (mv (v := Str o) rfl) ?_
     refine q trivial rfl rfl (cat (l := ([(UInt8.ofNat (48 + (j % 10)).toNat)] : List UInt8)) (m := o) rfl rfl (by have hto := markT_o hk ho; simp only [List.length_append, List.length_cons, List.length_nil]; omega)) ?_
     refine q trivial rfl rfl (asg (v := Str (([(UInt8.ofNat (48 + (j % 10)).toNat)] : List UInt8) ++ o)) rfl) ?_
     refine nl ?_
     refine nN ?_
     refine rg ?_
     refine q trivial rfl rfl (mv (v := I j) rfl) ?_
     refine q trivial rfl rfl (quo (a := j) (b := 10) rfl rfl (by omega) (by omega) (by omega)) ?_
     refine q trivial rfl rfl (asg (v := I (j / 10)) rfl) ?_
     refine nl ?_
     refine bN ?_
     refine nN ?_
     refine ⟨(j / 10, (([(UInt8.ofNat (48 + (j % 10)).toNat)] : List UInt8) ++ o)), ⟨⟨rfl, rfl, trivial⟩, (by omega), (markT_step (by omega) ho), (hs2.pick [] rfl (by decide))⟩, ?_⟩
     show (j / 10).toNat < j.toNat
     omega
   · refine ex (tE (tE (bE ?_)))
     refine nN ?_
     refine sq ?_
     refine rg ?_
     refine q trivial rfl rfl (mv (v := Str o) rfl) ?_
     refine q trivial rfl rfl (cat (l := [109]) (m := o) rfl rfl (by have hto := markT_o hk ho; simp only [List.length_append, List.length_cons, List.length_nil]; omega)) ?_
     refine q trivial rfl rfl (asg (v := Str ([109] ++ o)) rfl) ?_
     refine nl ?_
     refine nN ?_
     refine rt ?_
     refine fret (v := Str ([109] ++ o)) (.tmp .nil) rfl ?_
     have e2 : [109] ++ o = markT k := by exact markT_end (by omega) (by omega) (by omega) ho
     exact ⟨(congrArg (Str) e2), hs1⟩

theorem markRuleS {Axs : Option Addr} {cxs : Nat} (xs : List (List UInt8 × Int × Bool)) (k0 : Int) (w : World) (hxs : OwnR w Axs xs.length cxs 53 3 (xs.flatMap gRule)) (hxs_n : xs.length ≤ 1099511627776) (hk0 : 0 ≤ k0 ∧ k0 ≤ 4294967296) : Does Tryz.prog 13 [.slice Axs xs.length cxs, I k0] w (fun v w' => v = .int .i64 (k0 + 3 * ((xs.length : Nat) : Int)) ∧ SH w w' (ownM Axs cxs ++ []) [.own Axs xs.length cxs 53 3 ((markR k0 xs.length).flatMap gRule)]) := by
 refine fn_enter (N := 37) Tryz.func13 rfl (by kernel_rfl) rfl rfl rfl ?_
 have hs0 : SH w w (ownM Axs cxs ++ []) [.own Axs xs.length cxs 53 3 (xs.flatMap gRule)] := entry1o hxs
 have hxs_m : xs.length ≤ 9223372036854775807 := Nat.le_trans hxs.2.1 hxs.2.2.1
 refine sq ?_
 refine rg ?_
 refine q trivial rfl rfl (asg (v := I 0) rfl) ?_
 refine nl ?_
 refine nN ?_
 refine sq ?_
 refine sq ?_
 refine rg ?_
 refine q trivial rfl rfl (asg (v := I 0) rfl) ?_
 refine nl ?_
 refine nN ?_
 refine bl ?_
 have e1 : xs = markR k0 0 ++ xs.drop 0 := by simp [markR]
 refine lp (σ := (Option Addr) × Nat × Nat) (fun ⟨Ag0, cg0, k⟩ f w' => Has f [(0, .slice Ag0 xs.length cg0), (1, I (k0 + 3 * ((k : Nat) : Int))), (5, I ((k : Nat) : Int))] ∧ (k ≤ xs.length) ∧ (Ag0 = Axs) ∧ (cg0 = cxs) ∧ SH w w' (ownM Axs cxs ++ []) [.own Ag0 xs.length cg0 53 3 ((markR k0 k ++ xs.drop k).flatMap gRule)]) (fun ⟨Ag0, cg0, k⟩ => xs.length - k) (Axs, cxs, 0) ⟨⟨rfl, (show (I k0 : Value) = I (k0 + 3 * ((0 : Nat) : Int)) from congrArg (Value.int .i64) (by simp)), rfl, trivial⟩, (by simp), (rfl), (rfl), (hs0.cast (lc (own_eqf (g := gRule) rfl rfl rfl e1) rfl))⟩ ?_
 rintro ⟨Ag0, cg0, k⟩ f w1 ⟨hf, hk, hA, hC, hs1⟩
 obtain ⟨g1, rfl⟩ := has_upd hf
 clear hf
 refine sq ?_
 refine sq ?_
 refine rg ?_
 refine q trivial rfl rfl (mv (v := I ((k : Nat) : Int)) rfl) ?_
 refine q trivial rfl rfl (mv (v := .slice Ag0 xs.length cg0) rfl) ?_
 refine q trivial rfl rfl (lnA (n := xs.length) sl32 rfl) ?_
 refine q trivial rfl rfl (lss (k := .i64) (a := ((k : Nat) : Int)) (b := ((xs.length : Nat) : Int)) rfl rfl) ?_
 refine nl ?_
 refine nN ?_
 refine cdd (p := ((k : Nat) : Int) < ((xs.length : Nat) : Int)) rfl (fun h1 => ?_) (fun h1 => ?_)
 · refine sk ?_
   refine nN ?_
   refine sq ?_
   refine bl ?_
   refine sq ?_
   refine rg ?_
   refine q trivial rfl rfl (mv (v := .slice Ag0 xs.length cg0) rfl) ?_
   refine q trivial rfl rfl (mv (v := I ((k : Nat) : Int)) rfl) ?_
   refine q trivial rfl rfl (mv (v := I (k0 + 3 * ((k : Nat) : Int))) rfl) ?_
   refine cl trivial rfl (markText (k := k0 + 3 * ((k : Nat) : Int)) (w := _) (hk := (by first | omega | assumption | (simp; done) | (simp; omega)))) ?_
   rintro _ w2 ⟨rfl, hs2'⟩
   have hs2 : SH w w2 (ownM Axs cxs ++ []) [.own Ag0 xs.length cg0 53 3 ((markR k0 k ++ xs.drop k).flatMap gRule)] := hs1.call0 hs2'
   clear hs2'
   obtain ⟨b1, rfl⟩ := own_form hs2 0 rfl (by first | omega | (simp; done) | (simp; omega))
   refine q trivial rfl rfl (ixo k sl32 rfl rfl (by first | omega | (simp; done) | (simp; omega))) ?_
   refine q trivial rfl rfl (fa 0 fo53_0 rfl) ?_
   refine stoff (g := gRule) (ys := markR k0 k ++ xs.drop k) (o := k) (off := 0) (u := ((markT (k0 + 3 * ((k : Nat) : Int)), ((markR k0 k ++ xs.drop k).getD k rule0).2.1, (((markR k0 k ++ xs.drop k).getD k rule0).2.2)) : List UInt8 × Int × Bool)) (v := Str (markT (k0 + 3 * ((k : Nat) : Int)))) rule0 (fun _ => rfl) hs2 0 rfl rfl rfl (by first | omega | (simp; done) | (simp; omega)) (by first | omega | (simp; done) | (simp; omega)) rfl rfl rfl one9 trivial (fun w3 (hs3 : SH w w3 (ownM Axs cxs ++ []) [.own (some ⟨b1, 0, none⟩) xs.length cg0 53 3 (((markR k0 k ++ xs.drop k).set k ((markT (k0 + 3 * ((k : Nat) : Int)), ((markR k0 k ++ xs.drop k).getD k rule0).2.1, (((markR k0 k ++ xs.drop k).getD k rule0).2.2)) : List UInt8 × Int × Bool)).flatMap gRule)]) => ?_)
   refine nl ?_
   refine nN ?_
   refine sq ?_
   refine rg ?_
   refine q trivial rfl rfl (mv (v := I (k0 + 3 * ((k : Nat) : Int))) rfl) ?_
   refine q trivial rfl rfl (add (a := k0 + 3 * ((k : Nat) : Int)) (b := 1) rfl rfl (by exact ⟨by omega, by omega⟩)) ?_
   refine q trivial rfl rfl (asg (v := I ((k0 + 3 * ((k : Nat) : Int)) + 1)) rfl) ?_
   refine nl ?_
   refine nN ?_
   refine sq ?_
   refine rg ?_
   refine q trivial rfl rfl (mv (v := sb b1 xs.length cg0) rfl) ?_
   refine q trivial rfl rfl (mv (v := I ((k : Nat) : Int)) rfl) ?_
   refine q trivial rfl rfl (mv (v := I ((k0 + 3 * ((k : Nat) : Int)) + 1)) rfl) ?_
   refine q trivial rfl rfl (ixo k sl32 rfl rfl (by first | omega | (simp; done) | (simp; omega))) ?_
   refine q trivial rfl rfl (fa 1 fo53_1 rfl) ?_
   refine stoff (g := gRule) (ys := (markR k0 k ++ xs.drop k).set k ((markT (k0 + 3 * ((k : Nat) : Int)), ((markR k0 k ++ xs.drop k).getD k rule0).2.1, (((markR k0 k ++ xs.drop k).getD k rule0).2.2)) : List UInt8 × Int × Bool)) (o := k) (off := 1) (u := (((((markR k0 k ++ xs.drop k).set k ((markT (k0 + 3 * ((k : Nat) : Int)), ((markR k0 k ++ xs.drop k).getD k rule0).2.1, (((markR k0 k ++ xs.drop k).getD k rule0).2.2)) : List UInt8 × Int × Bool)).getD k rule0).1, (k0 + 3 * ((k : Nat) : Int)) + 1, ((((markR k0 k ++ xs.drop k).set k ((markT (k0 + 3 * ((k : Nat) : Int)), ((markR k0 k ++ xs.drop k).getD k rule0).2.1, (((markR k0 k ++ xs.drop k).getD k rule0).2.2)) : List UInt8 × Int × Bool)).getD k rule0).2.2)) : List UInt8 × Int × Bool)) (v := I ((k0 + 3 * ((k : Nat) : Int)) + 1)) rule0 (fun _ => rfl) hs3 0 rfl rfl rfl (by first | omega | (simp; done) | (simp; omega)) (by first | omega | (simp; done) | (simp; omega)) rfl rfl rfl one3 trivial (fun w4 (hs4 : SH w w4 (ownM Axs cxs ++ []) [.own (some ⟨b1, 0, none⟩) xs.length cg0 53 3 ((((markR k0 k ++ xs.drop k).set k ((markT (k0 + 3 * ((k : Nat) : Int)), ((markR k0 k ++ xs.drop k).getD k rule0).2.1, (((markR k0 k ++ xs.drop k).getD k rule0).2.2)) : List UInt8 × Int × Bool)).set k (((((markR k0 k ++ xs.drop k).set k ((markT (k0 + 3 * ((k : Nat) : Int)), ((markR k0 k ++ xs.drop k).getD k rule0).2.1, (((markR k0 k ++ xs.drop k).getD k rule0).2.2)) : List UInt8 × Int × Bool)).getD k rule0).1, (k0 + 3 * ((k : Nat) : Int)) + 1, ((((markR k0 k ++ xs.drop k).set k ((markT (k0 + 3 * ((k : Nat) : Int)), ((markR k0 k ++ xs.drop k).getD k rule0).2.1, (((markR k0 k ++ xs.drop k).getD k rule0).2.2)) : List UInt8 × Int × Bool)).getD k rule0).2.2)) : List UInt8 × Int × Bool)).flatMap gRule)]) => ?_)
   refine nl ?_
   refine nN ?_
   refine sq ?_
   refine rg ?_
   refine q trivial rfl rfl (mv (v := I ((k0 + 3 * ((k : Nat) : Int)) + 1)) rfl) ?_
   refine q trivial rfl rfl (add (a := (k0 + 3 * ((k : Nat) : Int)) + 1) (b := 1) rfl rfl (by exact ⟨by omega, by omega⟩)) ?_
   refine q trivial rfl rfl (asg (v := I (((k0 + 3 * ((k : Nat) : Int)) + 1) + 1)) rfl) ?_
   refine nl ?_
   refine nN ?_
   refine sq ?_
   refine rg ?_
   refine q trivial rfl rfl (mv (v := sb b1 xs.length cg0) rfl) ?_
   refine q trivial rfl rfl (mv (v := I ((k : Nat) : Int)) rfl) ?_
   refine q trivial rfl rfl (mv (v := I (((k0 + 3 * ((k : Nat) : Int)) + 1) + 1)) rfl) ?_
   refine q trivial rfl rfl (rem (a := ((k0 + 3 * ((k : Nat) : Int)) + 1) + 1) (b := 3) rfl rfl (by omega) (by omega)) ?_
   refine q trivial rfl rfl (eqi (k := .i64) (a := (((k0 + 3 * ((k : Nat) : Int)) + 1) + 1) % 3) (b := 0) rfl rfl) ?_
   refine q trivial rfl rfl (ixo k sl32 rfl rfl (by first | omega | (simp; done) | (simp; omega))) ?_
   refine q trivial rfl rfl (fa 2 fo53_2 rfl) ?_
   refine stoff (g := gRule) (ys := ((markR k0 k ++ xs.drop k).set k ((markT (k0 + 3 * ((k : Nat) : Int)), ((markR k0 k ++ xs.drop k).getD k rule0).2.1, (((markR k0 k ++ xs.drop k).getD k rule0).2.2)) : List UInt8 × Int × Bool)).set k (((((markR k0 k ++ xs.drop k).set k ((markT (k0 + 3 * ((k : Nat) : Int)), ((markR k0 k ++ xs.drop k).getD k rule0).2.1, (((markR k0 k ++ xs.drop k).getD k rule0).2.2)) : List UInt8 × Int × Bool)).getD k rule0).1, (k0 + 3 * ((k : Nat) : Int)) + 1, ((((markR k0 k ++ xs.drop k).set k ((markT (k0 + 3 * ((k : Nat) : Int)), ((markR k0 k ++ xs.drop k).getD k rule0).2.1, (((markR k0 k ++ xs.drop k).getD k rule0).2.2)) : List UInt8 × Int × Bool)).getD k rule0).2.2)) : List UInt8 × Int × Bool)) (o := k) (off := 2) (u := ((((((markR k0 k ++ xs.drop k).set k ((markT (k0 + 3 * ((k : Nat) : Int)), ((markR k0 k ++ xs.drop k).getD k rule0).2.1, (((markR k0 k ++ xs.drop k).getD k rule0).2.2)) : List UInt8 × Int × Bool)).set k (((((markR k0 k ++ xs.drop k).set k ((markT (k0 + 3 * ((k : Nat) : Int)), ((markR k0 k ++ xs.drop k).getD k rule0).2.1, (((markR k0 k ++ xs.drop k).getD k rule0).2.2)) : List UInt8 × Int × Bool)).getD k rule0).1, (k0 + 3 * ((k : Nat) : Int)) + 1, ((((markR k0 k ++ xs.drop k).set k ((markT (k0 + 3 * ((k : Nat) : Int)), ((markR k0 k ++ xs.drop k).getD k rule0).2.1, (((markR k0 k ++ xs.drop k).getD k rule0).2.2)) : List UInt8 × Int × Bool)).getD k rule0).2.2)) : List UInt8 × Int × Bool)).getD k rule0).1, ((((markR k0 k ++ xs.drop k).set k ((markT (k0 + 3 * ((k : Nat) : Int)), ((markR k0 k ++ xs.drop k).getD k rule0).2.1, (((markR k0 k ++ xs.drop k).getD k rule0).2.2)) : List UInt8 × Int × Bool)).set k (((((markR k0 k ++ xs.drop k).set k ((markT (k0 + 3 * ((k : Nat) : Int)), ((markR k0 k ++ xs.drop k).getD k rule0).2.1, (((markR k0 k ++ xs.drop k).getD k rule0).2.2)) : List UInt8 × Int × Bool)).getD k rule0).1, (k0 + 3 * ((k : Nat) : Int)) + 1, ((((markR k0 k ++ xs.drop k).set k ((markT (k0 + 3 * ((k : Nat) : Int)), ((markR k0 k ++ xs.drop k).getD k rule0).2.1, (((markR k0 k ++ xs.drop k).getD k rule0).2.2)) : List UInt8 × Int × Bool)).getD k rule0).2.2)) : List UInt8 × Int × Bool)).getD k rule0).2.1, (decide (((((k0 + 3 * ((k : Nat) : Int)) + 1) + 1) % 3) = 0))) : List UInt8 × Int × Bool)) (v := .bool (decide (((((k0 + 3 * ((k : Nat) : Int)) + 1) + 1) % 3) = 0))) rule0 (fun _ => rfl) hs4 0 rfl rfl rfl (by first | omega | (simp; done) | (simp; omega)) (by first | omega | (simp; done) | (simp; omega)) rfl rfl rfl one4 trivial (fun w5 (hs5 : SH w w5 (ownM Axs cxs ++ []) [.own (some ⟨b1, 0, none⟩) xs.length cg0 53 3 (((((markR k0 k ++ xs.drop k).set k ((markT (k0 + 3 * ((k : Nat) : Int)), ((markR k0 k ++ xs.drop k).getD k rule0).2.1, (((markR k0 k ++ xs.drop k).getD k rule0).2.2)) : List UInt8 × Int × Bool)).set k (((((markR k0 k ++ xs.drop k).set k ((markT (k0 + 3 * ((k : Nat) : Int)), ((markR k0 k ++ xs.drop k).getD k rule0).2.1, (((markR k0 k ++ xs.drop k).getD k rule0).2.2)) : List UInt8 × Int × Bool)).getD k rule0).1, (k0 + 3 * ((k : Nat) : Int)) + 1, ((((markR k0 k ++ xs.drop k).set k ((markT (k0 + 3 * ((k : Nat) : Int)), ((markR k0 k ++ xs.drop k).getD k rule0).2.1, (((markR k0 k ++ xs.drop k).getD k rule0).2.2)) : List UInt8 × Int × Bool)).getD k rule0).2.2)) : List UInt8 × Int × Bool)).set k ((((((markR k0 k ++ xs.drop k).set k ((markT (k0 + 3 * ((k : Nat) : Int)), ((markR k0 k ++ xs.drop k).getD k rule0).2.1, (((markR k0 k ++ xs.drop k).getD k rule0).2.2)) : List UInt8 × Int × Bool)).set k (((((markR k0 k ++ xs.drop k).set k ((markT (k0 + 3 * ((k : Nat) : Int)), ((markR k0 k ++ xs.drop k).getD k rule0).2.1, (((markR k0 k ++ xs.drop k).getD k rule0).2.2)) : List UInt8 × Int × Bool)).getD k rule0).1, (k0 + 3 * ((k : Nat) : Int)) + 1, ((((markR k0 k ++ xs.drop k).set k ((markT (k0 + 3 * ((k : Nat) : Int)), ((markR k0 k ++ xs.drop k).getD k rule0).2.1, (((markR k0 k ++ xs.drop k).getD k rule0).2.2)) : List UInt8 × Int × Bool)).getD k rule0).2.2)) : List UInt8 × Int × Bool)).getD k rule0).1, ((((markR k0 k ++ xs.drop k).set k ((markT (k0 + 3 * ((k : Nat) : Int)), ((markR k0 k ++ xs.drop k).getD k rule0).2.1, (((markR k0 k ++ xs.drop k).getD k rule0).2.2)) : List UInt8 × Int × Bool)).set k (((((markR k0 k ++ xs.drop k).set k ((markT (k0 + 3 * ((k : Nat) : Int)), ((markR k0 k ++ xs.drop k).getD k rule0).2.1, (((markR k0 k ++ xs.drop k).getD k rule0).2.2)) : List UInt8 × Int × Bool)).getD k rule0).1, (k0 + 3 * ((k : Nat) : Int)) + 1, ((((markR k0 k ++ xs.drop k).set k ((markT (k0 + 3 * ((k : Nat) : Int)), ((markR k0 k ++ xs.drop k).getD k rule0).2.1, (((markR k0 k ++ xs.drop k).getD k rule0).2.2)) : List UInt8 × Int × Bool)).getD k rule0).2.2)) : List UInt8 × Int × Bool)).getD k rule0).2.1, (decide (((((k0 + 3 * ((k : Nat) : Int)) + 1) + 1) % 3) = 0))) : List UInt8 × Int × Bool)).flatMap gRule)]) => ?_)
   refine nl ?_
   refine nN ?_
   refine rg ?_
   refine q trivial rfl rfl (mv (v := I (((k0 + 3 * ((k : Nat) : Int)) + 1) + 1)) rfl) ?_
   refine q trivial rfl rfl (add (a := ((k0 + 3 * ((k : Nat) : Int)) + 1) + 1) (b := 1) rfl rfl (by exact ⟨by omega, by omega⟩)) ?_
   refine q trivial rfl rfl (asg (v := I ((((k0 + 3 * ((k : Nat) : Int)) + 1) + 1) + 1)) rfl) ?_
   refine nl ?_
   refine bN ?_
   refine nN ?_
   refine rg ?_
   refine q trivial rfl rfl (mv (v := I ((k : Nat) : Int)) rfl) ?_
   refine q trivial rfl rfl (add (a := ((k : Nat) : Int)) (b := 1) rfl rfl (by exact ⟨by omega, by omega⟩)) ?_
   refine q trivial rfl rfl (asg (v := I (((k : Nat) : Int) + 1)) rfl) ?_
   refine nl ?_
   refine nN ?_
   have e2 : (((markR k0 k ++ xs.drop k).set k ((markT (k0 + 3 * ((k : Nat) : Int)), ((markR k0 k ++ xs.drop k).getD k rule0).2.1, (((markR k0 k ++ xs.drop k).getD k rule0).2.2)) : List UInt8 × Int × Bool)).set k (((((markR k0 k ++ xs.drop k).set k ((markT (k0 + 3 * ((k : Nat) : Int)), ((markR k0 k ++ xs.drop k).getD k rule0).2.1, (((markR k0 k ++ xs.drop k).getD k rule0).2.2)) : List UInt8 × Int × Bool)).getD k rule0).1, (k0 + 3 * ((k : Nat) : Int)) + 1, ((((markR k0 k ++ xs.drop k).set k ((markT (k0 + 3 * ((k : Nat) : Int)), ((markR k0 k ++ xs.drop k).getD k rule0).2.1, (((markR k0 k ++ xs.drop k).getD k rule0).2.2)) : List UInt8 × Int × Bool)).getD k rule0).2.2)) : List UInt8 × Int × Bool)).set k ((((((markR k0 k ++ xs.drop k).set k ((markT (k0 + 3 * ((k : Nat) : Int)), ((markR k0 k ++ xs.drop k).getD k rule0).2.1, (((markR k0 k ++ xs.drop k).getD k rule0).2.2)) : List UInt8 × Int × Bool)).set k (((((markR k0 k ++ xs.drop k).set k ((markT (k0 + 3 * ((k : Nat) : Int)), ((markR k0 k ++ xs.drop k).getD k rule0).2.1, (((markR k0 k ++ xs.drop k).getD k rule0).2.2)) : List UInt8 × Int × Bool)).getD k rule0).1, (k0 + 3 * ((k : Nat) : Int)) + 1, ((((markR k0 k ++ xs.drop k).set k ((markT (k0 + 3 * ((k : Nat) : Int)), ((markR k0 k ++ xs.drop k).getD k rule0).2.1, (((markR k0 k ++ xs.drop k).getD k rule0).2.2)) : List UInt8 × Int × Bool)).getD k rule0).2.2)) : List UInt8 × Int × Bool)).getD k rule0).1, ((((markR k0 k ++ xs.drop k).set k ((markT (k0 + 3 * ((k : Nat) : Int)), ((markR k0 k ++ xs.drop k).getD k rule0).2.1, (((markR k0 k ++ xs.drop k).getD k rule0).2.2)) : List UInt8 × Int × Bool)).set k (((((markR k0 k ++ xs.drop k).set k ((markT (k0 + 3 * ((k : Nat) : Int)), ((markR k0 k ++ xs.drop k).getD k rule0).2.1, (((markR k0 k ++ xs.drop k).getD k rule0).2.2)) : List UInt8 × Int × Bool)).getD k rule0).1, (k0 + 3 * ((k : Nat) : Int)) + 1, ((((markR k0 k ++ xs.drop k).set k ((markT (k0 + 3 * ((k : Nat) : Int)), ((markR k0 k ++ xs.drop k).getD k rule0).2.1, (((markR k0 k ++ xs.drop k).getD k rule0).2.2)) : List UInt8 × Int × Bool)).getD k rule0).2.2)) : List UInt8 × Int × Bool)).getD k rule0).2.1, (decide (((((k0 + 3 * ((k : Nat) : Int)) + 1) + 1) % 3) = 0))) : List UInt8 × Int × Bool) = markR k0 (k + 1) ++ xs.drop (k + 1) := by (have hl : k < (markR k0 k ++ xs.drop k).length := (by rw [List.length_append, markR_len, List.length_drop]; omega)); simp only [getD_set_self, List.length_set, hl, List.set_set]; exact markR_set (by omega)
   refine ⟨((some ⟨b1, 0, none⟩), cg0, k + 1), ⟨⟨rfl, (show (I ((((k0 + 3 * ((k : Nat) : Int)) + 1) + 1) + 1) : Value) = I (k0 + 3 * (((k + 1) : Nat) : Int)) from congrArg (Value.int .i64) (by omega)), rfl, trivial⟩, (by omega), (hA), (hC), (hs5.cast (lc (own_eqf (g := gRule) rfl rfl rfl e2) rfl))⟩, ?_⟩
   show xs.length - (k + 1) < xs.length - k
   omega
 · refine ex (tE (tE (bE ?_)))
   refine nN ?_
   refine sq ?_
   refine rg ?_
   refine q trivial rfl rfl (mv (v := I (k0 + 3 * ((k : Nat) : Int))) rfl) ?_
   refine q trivial rfl rfl (asg (v := I (k0 + 3 * ((k : Nat) : Int))) rfl) ?_
   refine nl ?_
   refine nN ?_
   refine rt ?_
   refine fret (v := I (k0 + 3 * ((k : Nat) : Int))) (.tmp .nil) rfl ?_
   have e3 : k0 + 3 * ((k : Nat) : Int) = k0 + 3 * ((xs.length : Nat) : Int) := by have : k = xs.length := (by omega); subst this; rfl
   have e4 : Ag0 = Axs := by assumption
   have e5 : cg0 = cxs := by assumption
   have e6 : markR k0 k ++ xs.drop k = markR k0 xs.length := by have : k = xs.length := (by omega); subst this; simp
   exact ⟨(congrArg (Value.int .i64) e3), (hs1.cast (lc (own_eqf (g := gRule) e4 rfl e5 e6) rfl))⟩

theorem szRequest (cm : Int) (ak : Int) {Aaq : Option Addr} {caq : Nat} (aq : List Int) (an : List UInt8) (apt : Int) (z : Int) (w : World) (haq : Sl w [] 1 Aaq aq.length caq (aq.map I)) (han_n : an.length ≤ 9223372036854775807) (hz : 0 ≤ z ∧ z ≤ 1099511627776) : Does Tryz.prog 5 [.agg #[I cm, I ak, .slice Aaq aq.length caq, Str an, I apt], I z] w (fun v w' => ∃ r : Int, v = .int .i64 r ∧ (-1 ≤ r ∧ r ≤ z) ∧ (r < 0 ∨ ((aq.length : Int) ≤ z ∧ (an.length : Int) ≤ z)) ∧ SH w w' [] []) := by
 refine fn_enter (N := 12) Tryz.func5 rfl (by kernel_rfl) rfl rfl rfl ?_
 have hs0 : SH w w [] [] := SH.refl w []
 have haq_m : aq.length ≤ 9223372036854775807 := Nat.le_trans haq.cap haq.capMax
 refine sq ?_
 refine rg ?_
 refine bx (v := .agg #[I cm, I ak, .slice Aaq aq.length caq, Str an, I apt]) (cs := [I cm, I ak, .slice Aaq aq.length caq, Str an, I apt]) hs0 rfl rfl trivial rfl (fun b1 w1 (hs1 : SH w w1 [] [.blk b1 27 [I cm, I ak, .slice Aaq aq.length caq, Str an, I apt]]) => ?_)
 refine q trivial rfl rfl (asg (v := I 0) rfl) ?_
 refine nl ?_
 refine nN ?_
 refine sq ?_
 refine rg ?_
 refine q trivial rfl rfl (fa 1 fo27_1 rfl) ?_
 refine q trivial rfl rfl (ldg (vs := [I ak, .slice Aaq aq.length caq, Str an, I apt]) hs1 0 rfl rfl rfl rfl ag25) ?_
 refine q trivial rfl rfl (mv (v := I z) rfl) ?_
 refine cl trivial rfl (szAddress (ak := ak) (Aaq := Aaq) (caq := caq) (aq := aq) (an := an) (apt := apt) (z := z) (w := _) (haq := (haq.up0 hs1)) (han_n := (by first | omega | (simp; done) | (simp; omega))) (hz := (by first | omega | assumption | (simp; done) | (simp; omega)))) ?_
 rintro _ w2 ⟨r1, rfl, p1, p2, hs2'⟩
 have hs2 : SH w w2 [] [.blk b1 27 [I cm, I ak, .slice Aaq aq.length caq, Str an, I apt]] := hs1.call0 hs2'
 clear hs2'
 refine q trivial rfl rfl (asg (v := I r1) rfl) ?_
 refine nl ?_
 refine nN ?_
 refine sq ?_
 refine sq ?_
 refine rg ?_
 refine q trivial rfl rfl (mv (v := I r1) rfl) ?_
 refine q trivial rfl rfl (lss (k := .i64) (a := r1) (b := 0) rfl rfl) ?_
 refine nl ?_
 refine nN ?_
 refine cdd (p := r1 < 0) rfl (fun h1 => ?_) (fun h1 => ?_)
 · refine sq ?_
   refine rg ?_
   refine q trivial rfl rfl (asg (v := I (-1)) rfl) ?_
   refine nl ?_
   refine nN ?_
   refine rt (tR ?_)
   refine fret (v := I (-1)) (.tmp .nil) rfl ?_
   exact ⟨(-1), rfl, (by first | assumption | omega | (simp; omega)), (by first | assumption | omega | (simp; omega)), (hs2.pick [] rfl (by decide))⟩
 · refine sk ?_
   refine nN ?_
   refine sq ?_
   refine rg ?_
   refine q trivial rfl rfl (mv (v := I r1) rfl) ?_
   refine q trivial rfl rfl (asg (v := I r1) rfl) ?_
   refine nl ?_
   refine nN ?_
   refine rt ?_
   refine fret (v := I r1) (.tmp .nil) rfl ?_
   exact ⟨r1, rfl, (by first | assumption | omega | (simp; omega)), (by first | assumption | omega | (simp; omega)), (hs2.pick [] rfl (by decide))⟩

theorem toRequest (cm : Int) (ak : Int) {Aaq : Option Addr} {caq : Nat} (aq : List Int) (an : List UInt8) (apt : Int) (w : World) (haq : Sl w [] 1 Aaq aq.length caq (aq.map I)) (haq_n : aq.length ≤ 1099511627776) : Does Tryz.prog 8 [.agg #[I cm, I ak, .slice Aaq aq.length caq, Str an, I apt]] w (fun v w' => ∃ Aqr : Option Addr, ∃ cqr : Nat, v = .agg #[.int .i64 cm, .int .i64 ak, .slice Aqr aq.length cqr, Str an, .int .i64 apt] ∧ SH w w' [] [.own Aqr aq.length cqr 3 1 (aq.map I)]) := by
 refine fn_enter (N := 12) Tryz.func8 rfl (by kernel_rfl) rfl rfl rfl ?_
 have hs0 : SH w w [] [] := SH.refl w []
 have haq_m : aq.length ≤ 9223372036854775807 := Nat.le_trans haq.cap haq.capMax
 refine sq ?_
 refine rg ?_
 refine bx (v := .agg #[I cm, I ak, .slice Aaq aq.length caq, Str an, I apt]) (cs := [I cm, I ak, .slice Aaq aq.length caq, Str an, I apt]) hs0 rfl rfl trivial rfl (fun b1 w1 (hs1 : SH w w1 [] [.blk b1 27 [I cm, I ak, .slice Aaq aq.length caq, Str an, I apt]]) => ?_)
 refine al (v := .agg #[I 0, I 0, ns, Str [], I 0]) (cs := [I 0, I 0, ns, Str [], I 0]) hs1 tz36 rfl trivial rfl (fun b2 w2 (hs2 : SH w w2 [] [.blk b1 27 [I cm, I ak, .slice Aaq aq.length caq, Str an, I apt], .blk b2 36 [I 0, I 0, ns, Str [], I 0]]) => ?_)
 refine nl ?_
 refine nN ?_
 refine sq ?_
 refine rg ?_
 refine al (v := .agg #[I 0, I 0, ns, Str [], I 0]) (cs := [I 0, I 0, ns, Str [], I 0]) hs2 tz36 rfl trivial rfl (fun b3 w3 (hs3 : SH w w3 [] [.blk b1 27 [I cm, I ak, .slice Aaq aq.length caq, Str an, I apt], .blk b2 36 [I 0, I 0, ns, Str [], I 0], .blk b3 36 [I 0, I 0, ns, Str [], I 0]]) => ?_)
 refine nl ?_
 refine nN ?_
 refine sq ?_
 refine rg ?_
 refine q trivial rfl rfl (fa 0 fo27_0 rfl) ?_
 refine q trivial rfl rfl (ld (v := I cm) hs3 0 rfl rfl rfl one3) ?_
 refine q trivial rfl rfl (fa 0 fo36_0 rfl) ?_
 refine st (v := I cm) hs3 2 rfl rfl rfl rfl rfl one3 trivial (fun w4 (hs4 : SH w w4 [] [.blk b1 27 [I cm, I ak, .slice Aaq aq.length caq, Str an, I apt], .blk b2 36 [I 0, I 0, ns, Str [], I 0], .blk b3 36 [I cm, I 0, ns, Str [], I 0]]) => ?_)
 refine nl ?_
 refine nN ?_
 refine sq ?_
 refine rg ?_
 refine q trivial rfl rfl (fa 1 fo27_1 rfl) ?_
 refine q trivial rfl rfl (ldg (vs := [I ak, .slice Aaq aq.length caq, Str an, I apt]) hs4 0 rfl rfl rfl rfl ag25) ?_
 refine cl trivial rfl (toAddress (ak := ak) (Aaq := Aaq) (caq := caq) (aq := aq) (an := an) (apt := apt) (w := _) (haq := (haq.up0 hs4)) (haq_n := (by first | omega | (simp; done) | (simp; omega)))) ?_
 rintro _ w5 ⟨Aq1, cq1, rfl, hs5'⟩
 have hs5 : SH w w5 [] [.blk b1 27 [I cm, I ak, .slice Aaq aq.length caq, Str an, I apt], .blk b2 36 [I 0, I 0, ns, Str [], I 0], .blk b3 36 [I cm, I 0, ns, Str [], I 0], .own Aq1 aq.length cq1 3 1 (aq.map I)] := hs4.call0 hs5'
 clear hs5'
 refine q trivial rfl rfl (fa 1 fo36_1 rfl) ?_
 refine stg (vs := [I ak, .slice Aq1 aq.length cq1, Str an, I apt]) hs5 2 rfl rfl rfl rfl rfl rfl rfl ag34 trivial (fun w6 (hs6 : SH w w6 [] [.blk b1 27 [I cm, I ak, .slice Aaq aq.length caq, Str an, I apt], .blk b2 36 [I 0, I 0, ns, Str [], I 0], .own Aq1 aq.length cq1 3 1 (aq.map I), .blk b3 36 [I cm, I ak, .slice Aq1 aq.length cq1, Str an, I apt]]) => ?_)
 refine nl ?_
 refine nN ?_
 refine sq ?_
 refine rg ?_
 refine q trivial rfl rfl (ldg (vs := [I cm, I ak, .slice Aq1 aq.length cq1, Str an, I apt]) hs6 3 rfl rfl rfl rfl ag36) ?_
 refine stg (vs := [I cm, I ak, .slice Aq1 aq.length cq1, Str an, I apt]) hs6 1 rfl rfl rfl rfl rfl rfl rfl ag36 trivial (fun w7 (hs7 : SH w w7 [] [.blk b1 27 [I cm, I ak, .slice Aaq aq.length caq, Str an, I apt], .own Aq1 aq.length cq1 3 1 (aq.map I), .blk b3 36 [I cm, I ak, .slice Aq1 aq.length cq1, Str an, I apt], .blk b2 36 [I cm, I ak, .slice Aq1 aq.length cq1, Str an, I apt]]) => ?_)
 refine nl ?_
 refine nN ?_
 have hs8 : SH w w7 [] [.own Aq1 aq.length cq1 3 1 (aq.map I), .blk b2 36 [I cm, I ak, .slice Aq1 aq.length cq1, Str an, I apt]] := hs7.pick [1, 3] rfl (by decide)
 refine rt ?_
 refine fret (v := .agg #[I cm, I ak, .slice Aq1 aq.length cq1, Str an, I apt]) (resC hs8 1 rfl rfl ag36 rfl .nil) rfl ?_
 exact ⟨Aq1, cq1, rfl, (hs8.pick [0] rfl (by decide))⟩

theorem eqRequest (ca : Int) (ka : Int) {Aqa : Option Addr} {cqa : Nat} (qa : List Int) (na : List UInt8) (pa : Int) (cb : Int) (kb : Int) {Aqb : Option Addr} {cqb : Nat} (qb : List Int) (nb : List UInt8) (pb : Int) (w : World) (hqa : Sl w [] 1 Aqa qa.length cqa (qa.map I)) (hqb : Sl w [] 1 Aqb qb.length cqb (qb.map I)) : Does Tryz.prog 12 [.agg #[I ca, I ka, .slice Aqa qa.length cqa, Str na, I pa], .agg #[I cb, I kb, .slice Aqb qb.length cqb, Str nb, I pb]] w (fun v w' => v = .bool (decide (ca = cb ∧ (ka = kb ∧ qa = qb ∧ na = nb ∧ pa = pb))) ∧ SH w w' [] []) := by
 refine fn_enter (N := 16) Tryz.func12 rfl (by kernel_rfl) rfl rfl rfl ?_
 have hs0 : SH w w [] [] := SH.refl w []
 have hqa_m : qa.length ≤ 9223372036854775807 := Nat.le_trans hqa.cap hqa.capMax
 have hqb_m : qb.length ≤ 9223372036854775807 := Nat.le_trans hqb.cap hqb.capMax
 refine sq ?_
 refine rg ?_
 refine bx (v := .agg #[I ca, I ka, .slice Aqa qa.length cqa, Str na, I pa]) (cs := [I ca, I ka, .slice Aqa qa.length cqa, Str na, I pa]) hs0 rfl rfl trivial rfl (fun b1 w1 (hs1 : SH w w1 [] [.blk b1 36 [I ca, I ka, .slice Aqa qa.length cqa, Str na, I pa]]) => ?_)
 refine bx (v := .agg #[I cb, I kb, .slice Aqb qb.length cqb, Str nb, I pb]) (cs := [I cb, I kb, .slice Aqb qb.length cqb, Str nb, I pb]) hs1 rfl rfl trivial rfl (fun b2 w2 (hs2 : SH w w2 [] [.blk b1 36 [I ca, I ka, .slice Aqa qa.length cqa, Str na, I pa], .blk b2 36 [I cb, I kb, .slice Aqb qb.length cqb, Str nb, I pb]]) => ?_)
 refine q trivial rfl rfl (asg (v := .bool false) rfl) ?_
 refine nl ?_
 refine nN ?_
 refine sq ?_
 refine sq ?_
 refine rg ?_
 refine q trivial rfl rfl (fa 0 fo36_0 rfl) ?_
 refine q trivial rfl rfl (ld (v := I ca) hs2 0 rfl rfl rfl one3) ?_
 refine q trivial rfl rfl (fa 0 fo36_0 rfl) ?_
 refine q trivial rfl rfl (ld (v := I cb) hs2 1 rfl rfl rfl one3) ?_
 refine q trivial rfl rfl (nei (k := .i64) (a := ca) (b := cb) rfl rfl) ?_
 refine nl ?_
 refine nN ?_
 refine cdd (p := ca ≠ cb) rfl (fun h1 => ?_) (fun h1 => ?_)
 · refine sq ?_
   refine rg ?_
   refine q trivial rfl rfl (asg (v := .bool false) rfl) ?_
   refine nl ?_
   refine nN ?_
   refine rt (tR ?_)
   refine fret (v := .bool false) (.tmp .nil) rfl ?_
   have e1 : false = (decide (ca = cb ∧ (ka = kb ∧ qa = qb ∧ na = nb ∧ pa = pb))) := by simp [h1] <;> simp_all
   exact ⟨(congrArg (Value.bool) e1), (hs2.pick [] rfl (by decide))⟩
 · refine sk ?_
   refine nN ?_
   refine sq ?_
   refine sq ?_
   refine rg ?_
   refine q trivial rfl rfl (fa 1 fo36_1 rfl) ?_
   refine q trivial rfl rfl (ldg (vs := [I ka, .slice Aqa qa.length cqa, Str na, I pa]) hs2 0 rfl rfl rfl rfl ag34) ?_
   refine q trivial rfl rfl (fa 1 fo36_1 rfl) ?_
   refine q trivial rfl rfl (ldg (vs := [I kb, .slice Aqb qb.length cqb, Str nb, I pb]) hs2 1 rfl rfl rfl rfl ag34) ?_
   refine cl trivial rfl (eqAddress (ka := ka) (Aqa := Aqa) (cqa := cqa) (qa := qa) (na := na) (pa := pa) (kb := kb) (Aqb := Aqb) (cqb := cqb) (qb := qb) (nb := nb) (pb := pb) (w := _) (hqa := (hqa.up0 hs2)) (hqb := (hqb.up0 hs2))) ?_
   rintro _ w3 ⟨rfl, hs3'⟩
   have hs3 : SH w w3 [] [.blk b1 36 [I ca, I ka, .slice Aqa qa.length cqa, Str na, I pa], .blk b2 36 [I cb, I kb, .slice Aqb qb.length cqb, Str nb, I pb]] := hs2.call0 hs3'
   clear hs3'
   refine q trivial rfl rfl (nd (p := ka = kb ∧ qa = qb ∧ na = nb ∧ pa = pb) rfl) ?_
   refine nl ?_
   refine nN ?_
   refine cdd (p := ¬ (ka = kb ∧ qa = qb ∧ na = nb ∧ pa = pb)) rfl (fun h2 => ?_) (fun h2 => ?_)
   · refine sq ?_
     refine rg ?_
     refine q trivial rfl rfl (asg (v := .bool false) rfl) ?_
     refine nl ?_
     refine nN ?_
     refine rt (tR ?_)
     refine fret (v := .bool false) (.tmp .nil) rfl ?_
     have e2 : false = (decide (ca = cb ∧ (ka = kb ∧ qa = qb ∧ na = nb ∧ pa = pb))) := by simp [h1, h2] <;> simp_all
     exact ⟨(congrArg (Value.bool) e2), (hs3.pick [] rfl (by decide))⟩
   · refine sk ?_
     refine nN ?_
     refine sq ?_
     refine rg ?_
     refine q trivial rfl rfl (asg (v := .bool true) rfl) ?_
     refine nl ?_
     refine nN ?_
     refine rt ?_
     refine fret (v := .bool true) (.tmp .nil) rfl ?_
     have e3 : true = (decide (ca = cb ∧ (ka = kb ∧ qa = qb ∧ na = nb ∧ pa = pb))) := by simp [h1, h2] <;> simp_all
     exact ⟨(congrArg (Value.bool) e3), (hs3.pick [] rfl (by decide))⟩

theorem markRequest (cm : Int) (ak : Int) {Aaq : Option Addr} {caq : Nat} (aq : List Int) (an : List UInt8) (apt : Int) (k0 : Int) (w : World) (haq : OwnR w Aaq aq.length caq 3 1 (aq.map I)) (haq_n : aq.length ≤ 2147483648) (hk0 : 0 ≤ k0 ∧ k0 ≤ 4294967296) : Does Tryz.prog 14 [.agg #[I cm, I ak, .slice Aaq aq.length caq, Str an, I apt], I k0] w (fun v w' => v = .int .i64 (k0 + ((aq.length : Nat) : Int)) ∧ SH w w' (ownM Aaq caq ++ []) [.own Aaq aq.length caq 3 1 ((marks k0 aq.length).map I)]) := by
 refine fn_enter (N := 10) Tryz.func14 rfl (by kernel_rfl) rfl rfl rfl ?_
 have hs0 : SH w w (ownM Aaq caq ++ []) [.own Aaq aq.length caq 3 1 (aq.map I)] := entry1o haq
 have haq_m : aq.length ≤ 9223372036854775807 := Nat.le_trans haq.2.1 haq.2.2.1
 refine sq ?_
 refine rg ?_
 refine bx (v := .agg #[I cm, I ak, .slice Aaq aq.length caq, Str an, I apt]) (cs := [I cm, I ak, .slice Aaq aq.length caq, Str an, I apt]) hs0 rfl rfl trivial rfl (fun b1 w1 (hs1 : SH w w1 (ownM Aaq caq ++ []) [.own Aaq aq.length caq 3 1 (aq.map I), .blk b1 36 [I cm, I ak, .slice Aaq aq.length caq, Str an, I apt]]) => ?_)
 refine q trivial rfl rfl (asg (v := I 0) rfl) ?_
 refine nl ?_
 refine nN ?_
 refine sq ?_
 refine rg ?_
 refine q trivial rfl rfl (fa 1 fo36_1 rfl) ?_
 refine q trivial rfl rfl (ldg (vs := [I ak, .slice Aaq aq.length caq, Str an, I apt]) hs1 1 rfl rfl rfl rfl ag34) ?_
 refine q trivial rfl rfl (mv (v := I k0) rfl) ?_
 refine cl trivial rfl (markAddress (ak := ak) (Aaq := Aaq) (caq := caq) (aq := aq) (an := an) (apt := apt) (k0 := k0) (w := _) (haq := (own_ok hs1 0 rfl)) (haq_n := (by first | omega | (simp; done) | (simp; omega))) (hk0 := (by first | omega | assumption | (simp; done) | (simp; omega)))) ?_
 rintro _ w2 ⟨rfl, hs2'⟩
 have hs2 : SH w w2 (ownM Aaq caq ++ []) [.blk b1 36 [I cm, I ak, .slice Aaq aq.length caq, Str an, I apt], .own Aaq aq.length caq 3 1 ((marks k0 aq.length).map I)] := SH.callK (K := [.own Aaq aq.length caq 3 1 (aq.map I)]) (R := [.blk b1 36 [I cm, I ak, .slice Aaq aq.length caq, Str an, I apt]]) hs1 hs2' rfl
 clear hs2'
 have e1 : aq.length = (marks k0 aq.length).length := by first | rfl | (simp; done) | (simp; omega)
 have hs3 : SH w w2 (ownM Aaq caq ++ []) [.blk b1 36 [I cm, I ak, .slice Aaq aq.length caq, Str an, I apt], .own Aaq ((marks k0 aq.length).length) caq 3 1 ((marks k0 aq.length).map I)] := (hs2.cast (lc rfl (lc (own_eq (g := I) rfl e1 rfl rfl) rfl)))
 clear hs2
 refine q trivial rfl rfl (asg (v := I (k0 + ((aq.length : Nat) : Int))) rfl) ?_
 refine nl ?_
 refine nN ?_
 refine sq ?_
 refine rg ?_
 refine q trivial rfl rfl (mv (v := I (k0 + ((aq.length : Nat) : Int))) rfl) ?_
 refine q trivial rfl rfl (asg (v := I (k0 + ((aq.length : Nat) : Int))) rfl) ?_
 refine nl ?_
 refine nN ?_
 refine rt ?_
 refine fret (v := I (k0 + ((aq.length : Nat) : Int))) (.tmp .nil) rfl ?_
 have e2 : (marks k0 aq.length).length = aq.length := by first | rfl | (simp; done) | omega
 exact ⟨rfl, ((hs3.pick [1] rfl (by decide)).cast (lc (own_eq (g := I) rfl e2 rfl rfl) rfl))⟩


end Go.Proofs.YtcgdccfofinheaaGreatDoor
