/-
  Part of the proofs over this seat: what each function of the program computes, function by function (the text is written by a program of this hand-in's own).
  Conditions: each theorem states its own.
-/
import Derived.Test.YtpddahloogjghaaDoorPfWalks3
namespace Go.Proofs.YtpddahloogjghaaDoor
open Go.PF
set_option maxRecDepth 100000
set_option linter.unusedSimpArgs false
set_option linter.unusedVariables false

theorem drawClientSay {Acs : Option Addr} {ccs : Nat} (cs : List UInt8) (w : World) (hcs : Sl w [] 1 Acs cs.length ccs (cs.map U)) : Does Tryd.prog 14 [.slice Acs cs.length ccs] w (fun v w' => ∃ Amr : Option Addr, ∃ cmr : Nat, ∃ Aqr : Option Addr, ∃ cqr : Nat, ∃ ms : List Int, ∃ lu : List UInt8, ∃ lw : List UInt8, ∃ ak : Int, ∃ aq : List Int, ∃ an : List UInt8, ∃ apt : Int, ∃ n : Int, v = .tuple #[.agg #[.slice Amr ms.length cmr, Str lu, Str lw, .int .i64 ak, .slice Aqr aq.length cqr, Str an, .int .i64 apt], .int .i64 n] ∧ (ms.length ≤ 2) ∧ (lu.length ≤ 5) ∧ (lw.length ≤ 5) ∧ (aq.length ≤ 4) ∧ (an.length ≤ 21) ∧ SH w w' [] [.own Amr ms.length cmr 3 1 (ms.map I), .own Aqr aq.length cqr 3 1 (aq.map I)]) := by
 refine fn_enter (N := 17) Tryd.func14 rfl (by kernel_rfl) rfl rfl rfl ?_
 have hs0 : SH w w [] [] := SH.refl w []
 have hcs_m : cs.length ≤ 9223372036854775807 := Nat.le_trans hcs.cap hcs.capMax
 refine sq ?_
 refine rg ?_
 refine al (v := .agg #[ns, Str [], Str [], I 0, ns, Str [], I 0]) (cs := [ns, Str [], Str [], I 0, ns, Str [], I 0]) hs0 tz29 rfl trivial rfl (fun b1 w1 (hs1 : SH w w1 [] [.blk b1 29 [ns, Str [], Str [], I 0, ns, Str [], I 0]]) => ?_)
 refine q trivial rfl rfl (asg (v := I 0) rfl) ?_
 refine nl ?_
 refine nN ?_
 refine sq ?_
 refine rg ?_
 refine q trivial rfl rfl (mv (v := .slice Acs cs.length ccs) rfl) ?_
 refine cl trivial rfl (l6Open (Acs := Acs) (ccs := ccs) (cs := cs) (w := _) (hcs := (hcs.up0 hs1))) ?_
 rintro _ w2 ⟨g1, rfl, hs2'⟩
 have hs2 : SH w w2 [] [.blk b1 29 [ns, Str [], Str [], I 0, ns, Str [], I 0], .blk g1 78 [.slice Acs ((cs.take 2000).length) ccs, I 0]] := hs1.call0 hs2'
 clear hs2'
 refine q trivial rfl rfl (asg (v := pb g1) rfl) ?_
 refine nl ?_
 refine nN ?_
 refine sq ?_
 refine rg ?_
 refine q trivial rfl rfl (mv (v := pb g1) rfl) ?_
 refine cl trivial rfl (l92Client (rb := g1) (Ab := Acs) (cb := ccs) (bs := cs.take 2000) (p := 0) (w := _) (hr := (blk_heap hs2 1 rfl)) (hb := (Sl.take_ (hcs.up hs2 (by simp) (fun k h => .inr (hs2.lo1 1 rfl k h))) 2000)) (hbn := (by first | assumption | (simp; omega))) (hp := (by omega))) ?_
 rintro _ w3 ⟨Am1, cm1, Aq1, cq1, ms1, lu1, lw1, ak1, aq1, an1, apt1, q1, rfl, p1, p2, p3, p4, p5, p6, hs3'⟩
 have hs3 : SH w w3 [] [.blk b1 29 [ns, Str [], Str [], I 0, ns, Str [], I 0], .blk g1 78 [.slice Acs ((cs.take 2000).length) ccs, I ((q1 : Nat) : Int)], .own Am1 ms1.length cm1 3 1 (ms1.map I), .own Aq1 aq1.length cq1 3 1 (aq1.map I)] := hs2.callM 1 rfl hs3' (by intro k hk; simp at hk; exact hk.symm)
 clear hs3'
 refine al (v := .agg #[ns, Str [], Str [], I 0, ns, Str [], I 0]) (cs := [ns, Str [], Str [], I 0, ns, Str [], I 0]) hs3 tz29 rfl trivial rfl (fun b2 w4 (hs4 : SH w w4 [] [.blk b1 29 [ns, Str [], Str [], I 0, ns, Str [], I 0], .blk g1 78 [.slice Acs ((cs.take 2000).length) ccs, I ((q1 : Nat) : Int)], .own Am1 ms1.length cm1 3 1 (ms1.map I), .own Aq1 aq1.length cq1 3 1 (aq1.map I), .blk b2 29 [ns, Str [], Str [], I 0, ns, Str [], I 0]]) => ?_)
 refine stg (vs := [.slice Am1 ms1.length cm1, Str lu1, Str lw1, I ak1, .slice Aq1 aq1.length cq1, Str an1, I apt1]) hs4 4 rfl rfl rfl rfl rfl rfl rfl ag29 trivial (fun w5 (hs5 : SH w w5 [] [.blk b1 29 [ns, Str [], Str [], I 0, ns, Str [], I 0], .blk g1 78 [.slice Acs ((cs.take 2000).length) ccs, I ((q1 : Nat) : Int)], .own Am1 ms1.length cm1 3 1 (ms1.map I), .own Aq1 aq1.length cq1 3 1 (aq1.map I), .blk b2 29 [.slice Am1 ms1.length cm1, Str lu1, Str lw1, I ak1, .slice Aq1 aq1.length cq1, Str an1, I apt1]]) => ?_)
 refine nl ?_
 refine nN ?_
 refine sq ?_
 refine ra (fun w' => ∃ L, SH w w' [] L ∧ (.blk b2 29 [.slice Am1 ms1.length cm1, Str lu1, Str lw1, I ak1, .slice Aq1 aq1.length cq1, Str an1, I apt1]) ∈ L ∧ True) mixed ?_
 have hs6 := hs5.drew
 refine tk (fuel := 6) (is := [0, 1, 3]) (.cons rfl (.cons rfl (.cons rfl (.nil)))) (by kernel_rfl) (by kernel_rfl) ⟨_, hs6, memi 4 rfl, trivial⟩ ?_
 refine .op trivial rfl rfl (fun wq ⟨Lq, hsq, mh0, _⟩ => ldgm (vs := [.slice Am1 ms1.length cm1, Str lu1, Str lw1, I ak1, .slice Aq1 aq1.length cq1, Str an1, I apt1]) hsq mh0 rfl rfl rfl ag29) ?_
 refine .op trivial rfl rfl (fun wq _ => mv (v := pb g1) rfl) ?_
 refine .op trivial rfl rfl (fun wq _ => mv (v := pb g1) rfl) ?_
 refine .nil ?_
 refine a1 (i := 2) (by kernel_rfl) ?_
 refine one_ rfl ?_
 refine cl trivial rfl (pick (rb := g1) (Ab := Acs) (cb := ccs) (bs := cs.take 2000) (p := q1) (n := 5) (w := _) (hr := (blk_heap hs6 1 rfl)) (hb := (Sl.take_ (hcs.up hs6 (by simp) (fun k h => .inr (hs6.lo1 1 rfl k h))) 2000)) (hbn := (by first | assumption | (simp; omega))) (hp := (by omega))) ?_
 rintro _ w6 ⟨r_3_2, q_3_2, rfl, p7, p8, hs7'⟩
 have hs7 : SH w w6 [] [.blk b1 29 [ns, Str [], Str [], I 0, ns, Str [], I 0], .own Am1 ms1.length cm1 3 1 (ms1.map I), .own Aq1 aq1.length cq1 3 1 (aq1.map I), .blk b2 29 [.slice Am1 ms1.length cm1, Str lu1, Str lw1, I ak1, .slice Aq1 aq1.length cq1, Str an1, I apt1], .blk g1 78 [.slice Acs ((cs.take 2000).length) ccs, I ((q_3_2 : Nat) : Int)]] := hs6.callM 1 rfl hs7' (by intro k hk; simp at hk; exact hk.symm)
 clear hs7'
 refine nl (kq ⟨_, hs7, memi 3 rfl, trivial⟩ ?_)
 refine a1 (i := 4) (by kernel_rfl) ?_
 refine one_ rfl ?_
 refine cl trivial rfl (pick (rb := g1) (Ab := Acs) (cb := ccs) (bs := cs.take 2000) (p := q_3_2) (n := 20) (w := _) (hr := (blk_heap hs7 4 rfl)) (hb := (Sl.take_ (hcs.up hs7 (by simp) (fun k h => .inr (hs7.lo1 4 rfl k h))) 2000)) (hbn := (by first | assumption | (simp; omega))) (hp := (by omega))) ?_
 rintro _ w7 ⟨r_3_4, q_3_4, rfl, p9, p10, hs8'⟩
 have hs8 : SH w w7 [] [.blk b1 29 [ns, Str [], Str [], I 0, ns, Str [], I 0], .own Am1 ms1.length cm1 3 1 (ms1.map I), .own Aq1 aq1.length cq1 3 1 (aq1.map I), .blk b2 29 [.slice Am1 ms1.length cm1, Str lu1, Str lw1, I ak1, .slice Aq1 aq1.length cq1, Str an1, I apt1], .blk g1 78 [.slice Acs ((cs.take 2000).length) ccs, I ((q_3_4 : Nat) : Int)]] := hs7.callM 4 rfl hs8' (by intro k hk; simp at hk; exact hk.symm)
 clear hs8'
 refine nl (kq ⟨_, hs8, memi 3 rfl, trivial⟩ ?_)
 refine tk (fuel := 2) (is := [5, 6]) (.cons rfl (.cons rfl (.nil))) (by kernel_rfl) (by kernel_rfl) ⟨_, hs8, memi 3 rfl, trivial⟩ ?_
 refine .op trivial rfl rfl (fun wq _ => quo (a := r_3_4) (b := 19) rfl rfl (by omega) (by omega) (by omega)) ?_
 refine .op trivial rfl rfl (fun wq _ => sub (a := r_3_2) (b := r_3_4 / 19) rfl rfl (by exact ⟨by omega, by omega⟩)) ?_
 refine .nil ?_
 refine a1 (i := 7) (by kernel_rfl) ?_
 refine one_ rfl ?_
 refine stg (vs := [.slice Am1 ms1.length cm1, Str lu1, Str lw1, I ak1, .slice Aq1 aq1.length cq1, Str an1, I apt1]) hs8 0 rfl rfl rfl rfl rfl rfl rfl ag29 trivial (fun w8 (hs9 : SH w w8 [] [.own Am1 ms1.length cm1 3 1 (ms1.map I), .own Aq1 aq1.length cq1 3 1 (aq1.map I), .blk b2 29 [.slice Am1 ms1.length cm1, Str lu1, Str lw1, I ak1, .slice Aq1 aq1.length cq1, Str an1, I apt1], .blk g1 78 [.slice Acs ((cs.take 2000).length) ccs, I ((q_3_4 : Nat) : Int)], .blk b1 29 [.slice Am1 ms1.length cm1, Str lu1, Str lw1, I ak1, .slice Aq1 aq1.length cq1, Str an1, I apt1]]) => ?_)
 refine nl (kq ⟨_, hs9, memi 2 rfl, trivial⟩ ?_)
 refine tk (fuel := 0) (is := [8]) (.cons rfl (.nil)) (by kernel_rfl) (by kernel_rfl) ⟨_, hs9, memi 2 rfl, trivial⟩ ?_
 refine .op trivial rfl rfl (fun wq _ => asg (v := I (r_3_2 - (r_3_4 / 19))) rfl) ?_
 refine .nil ?_
 refine ad (by kernel_rfl) ?_
 refine nN ?_
 have hs10 : SH w w8 [] [.own Am1 ms1.length cm1 3 1 (ms1.map I), .own Aq1 aq1.length cq1 3 1 (aq1.map I), .blk b1 29 [.slice Am1 ms1.length cm1, Str lu1, Str lw1, I ak1, .slice Aq1 aq1.length cq1, Str an1, I apt1]] := hs9.pick [0, 1, 4] rfl (by decide)
 refine rt ?_
 refine fret (v := .tuple #[.agg #[.slice Am1 ms1.length cm1, Str lu1, Str lw1, I ak1, .slice Aq1 aq1.length cq1, Str an1, I apt1], I (r_3_2 - (r_3_4 / 19))]) (resC hs10 2 rfl rfl ag29 rfl (.tmp .nil)) rfl ?_
 exact ⟨Am1, cm1, Aq1, cq1, ms1, lu1, lw1, ak1, aq1, an1, apt1, r_3_2 - (r_3_4 / 19), rfl, (by first | assumption | omega | (simp; omega)), (by first | assumption | omega | (simp; omega)), (by first | assumption | omega | (simp; omega)), (by first | assumption | omega | (simp; omega)), (by first | assumption | omega | (simp; omega)), (hs10.pick [0, 1] rfl (by decide))⟩

theorem iTextBytes (s : List UInt8) (w : World) (hs_n : s.length ≤ 2147483648) : Does Tryd.prog 48 [Str s] w (fun v w' => ∃ Ar : Option Addr, ∃ cr : Nat, v = .slice Ar (textI s).length cr ∧ SH w w' [] [.own Ar ((textI s).length) cr 3 1 ((textI s).map I)]) := by
 refine fn_enter (N := 22) Tryd.func48 rfl (by kernel_rfl) rfl rfl rfl ?_
 have hs0 : SH w w [] [] := SH.refl w []
 refine sq ?_
 refine rg ?_
 refine q trivial rfl rfl (asg (v := ns) rfl) ?_
 refine nl ?_
 refine nN ?_
 refine sq ?_
 refine rg ?_
 refine q trivial rfl rfl (mv (v := Str s) rfl) ?_
 refine q trivial rfl rfl (lnS (l := s) st9 rfl) ?_
 refine mkm (g := I) (z := 0) (n := s.length) hs0 sl23 rfl rfl rfl (by omega) (by unfold maxLen; omega) trivial rfl (fun b1 w1 (hs1 : SH w w1 [] [oI b1 (List.replicate s.length (0 : Int)) s.length 3]) => ?_)
 refine q trivial rfl rfl (asg (v := sb b1 ((List.replicate s.length (0 : Int)).length) s.length) rfl) ?_
 refine nl ?_
 refine nN ?_
 refine sq ?_
 refine sq ?_
 refine rg ?_
 refine q trivial rfl rfl (mv (v := sb b1 ((List.replicate s.length (0 : Int)).length) s.length) rfl) ?_
 refine q trivial rfl rfl (lnA (n := (List.replicate s.length (0 : Int)).length) sl23 rfl) ?_
 refine q trivial rfl rfl (mv (v := I 0) rfl) ?_
 refine nl ?_
 refine nN ?_
 refine bl ?_
 have e1 : List.replicate s.length (0 : Int) = (textI s).take 0 ++ List.replicate (s.length - 0) (0 : Int) := by simp
 have e2 : (List.replicate s.length (0 : Int)).length = s.length := by first | rfl | (simp; done) | (simp; omega) | omega
 refine lp (σ := (Option Addr) × Nat × Nat) (fun ⟨Ag3, cg3, k⟩ f w' => Has f [(0, Str s), (3, .slice Ag3 s.length cg3), (9, I (((List.replicate s.length (0 : Int)).length : Nat) : Int)), (10, I ((k : Nat) : Int))] ∧ (k ≤ s.length) ∧ SH w w' [] [.own Ag3 s.length cg3 3 1 (((textI s).take k ++ List.replicate (s.length - k) (0 : Int)).map I)]) (fun ⟨Ag3, cg3, k⟩ => s.length - k) ((some ⟨b1, 0, none⟩), s.length, 0) ⟨⟨rfl, (show (.slice (some ⟨b1, 0, none⟩) ((List.replicate s.length (0 : Int)).length) s.length : Value) = .slice (some ⟨b1, 0, none⟩) s.length s.length from slv rfl e2 rfl), rfl, rfl, trivial⟩, (by simp), (hs1.cast (lc (own_eq (g := I) rfl e2 rfl e1) rfl))⟩ ?_
 rintro ⟨Ag3, cg3, k⟩ f w2 ⟨hf, hk, hs2⟩
 obtain ⟨g1, rfl⟩ := has_upd hf
 clear hf
 refine sq ?_
 refine rg ?_
 refine q trivial rfl rfl (lss (k := .i64) (a := ((k : Nat) : Int)) (b := (((List.replicate s.length (0 : Int)).length : Nat) : Int)) rfl rfl) ?_
 refine nl ?_
 refine nN ?_
 refine sq ?_
 refine cdd (p := ((k : Nat) : Int) < (((List.replicate s.length (0 : Int)).length : Nat) : Int)) rfl (fun h1 => ?_) (fun h1 => ?_)
 · refine sk ?_
   refine nN ?_
   refine sq ?_
   refine bl ?_
   refine sq ?_
   refine rg ?_
   refine q trivial rfl rfl (mv (v := I ((k : Nat) : Int)) rfl) ?_
   refine q trivial rfl rfl (asg (v := I ((k : Nat) : Int)) rfl) ?_
   refine nl ?_
   refine nN ?_
   refine rg ?_
   refine q trivial rfl rfl (mv (v := .slice Ag3 s.length cg3) rfl) ?_
   refine q trivial rfl rfl (mv (v := I ((k : Nat) : Int)) rfl) ?_
   refine q trivial rfl rfl (mv (v := Str s) rfl) ?_
   refine q trivial rfl rfl (mv (v := I ((k : Nat) : Int)) rfl) ?_
   refine q trivial rfl rfl (ixs (l := s) k st9 rfl rfl (by first | omega | (simp; done) | (simp; omega))) ?_
   refine q trivial rfl rfl (cvI (a := (((s.getD k 0).toNat : Nat) : Int)) (s := .u8) ti5 ti3 rfl (by have := u8_bd ((s.getD k 0)); exact ⟨by omega, by omega⟩)) ?_
   obtain ⟨b2, rfl⟩ := own_form hs2 0 rfl (by first | omega | (simp; done) | (simp; omega))
   refine q trivial rfl rfl (ixo k sl23 rfl rfl (by first | omega | (simp; done) | (simp; omega))) ?_
   refine stomn (g := I) (ys := (textI s).take k ++ List.replicate (s.length - k) (0 : Int)) (o := k) (u := (((s.getD k 0).toNat : Nat) : Int)) hs2 0 rfl rfl rfl rfl (by first | omega | (simp; done) | (simp; omega)) rfl one3 trivial (fun w3 (hs3 : SH w w3 [] [.own (some ⟨b2, 0, none⟩) s.length cg3 3 1 ((((textI s).take k ++ List.replicate (s.length - k) (0 : Int)).set k (((s.getD k 0).toNat : Nat) : Int)).map I)]) => ?_)
   refine nl ?_
   refine bN ?_
   refine nN ?_
   refine rg ?_
   refine q trivial rfl rfl (add (a := ((k : Nat) : Int)) (b := 1) rfl rfl (by exact ⟨by omega, by omega⟩)) ?_
   refine q trivial rfl rfl (mv (v := I (((k : Nat) : Int) + 1)) rfl) ?_
   refine nl ?_
   refine nN ?_
   have e3 : ((textI s).take k ++ List.replicate (s.length - k) (0 : Int)).set k (((s.getD k 0).toNat : Nat) : Int) = (textI s).take (k + 1) ++ List.replicate (s.length - (k + 1)) (0 : Int) := by exact textI_set (by omega)
   refine ⟨((some ⟨b2, 0, none⟩), cg3, k + 1), ⟨⟨rfl, rfl, rfl, rfl, trivial⟩, (by omega), (hs3.cast (lc (own_eq (g := I) rfl rfl rfl e3) rfl))⟩, ?_⟩
   show s.length - (k + 1) < s.length - k
   omega
 · refine ex (tE (tE (bE ?_)))
   refine nN ?_
   refine sq ?_
   refine rg ?_
   refine q trivial rfl rfl (mv (v := .slice Ag3 s.length cg3) rfl) ?_
   refine q trivial rfl rfl (asg (v := .slice Ag3 s.length cg3) rfl) ?_
   refine nl ?_
   refine nN ?_
   refine rt ?_
   refine fret (v := .slice Ag3 s.length cg3) (.tmp .nil) rfl ?_
   have e4 : (textI s).take k ++ List.replicate (s.length - k) (0 : Int) = textI s := by have : k = s.length := (by omega); subst this; rw [textI_all (Nat.le_refl _)]; simp
   have e5 : s.length = (textI s).length := by exact (show s.length = ((textI s).take k ++ List.replicate (s.length - k) (0 : Int)).length by (simp [textI_len]; omega)).trans (congrArg List.length e4)
   exact ⟨Ag3, cg3, (slv rfl e5 rfl), (hs2.cast (lc (own_eq (g := I) rfl e5 rfl e4) rfl))⟩

theorem sL1Text (s : List UInt8) (w : World) (hs_n : s.length ≤ 2147483648) : Does Tryd.prog 63 [Str s] w (fun v w' => ∃ Ar : Option Addr, ∃ cr : Nat, v = .slice Ar (textI s).length cr ∧ SH w w' [] [.own Ar ((textI s).length) cr 3 1 ((textI s).map I)]) := by
 refine fn_enter (N := 20) Tryd.func63 rfl (by kernel_rfl) rfl rfl rfl ?_
 have hs0 : SH w w [] [] := SH.refl w []
 refine sq ?_
 refine rg ?_
 refine q trivial rfl rfl (asg (v := ns) rfl) ?_
 refine nl ?_
 refine nN ?_
 refine sq ?_
 refine rg ?_
 refine bsk hs0 sl23 [] [] trivial rfl (fun b1 w1 (hs1 : SH w w1 [] [oI b1 ([] : List Int) 0 3]) => ?_)
 refine q trivial rfl rfl (asg (v := sb b1 (([] : List Int).length) 0) rfl) ?_
 refine nl ?_
 refine nN ?_
 refine sq ?_
 refine sq ?_
 refine rg ?_
 refine q trivial rfl rfl (asg (v := I 0) rfl) ?_
 refine nl ?_
 refine nN ?_
 refine bl ?_
 have e1 : ([] : List Int) = (textI s).take 0 := by simp
 have e2 : ([] : List Int).length = ((textI s).take 0).length := by rw [e1]
 refine lp (σ := (Option Addr) × Nat × Nat) (fun ⟨Ag3, cg3, k⟩ f w' => Has f [(0, Str s), (3, .slice Ag3 (((textI s).take k).length) cg3), (4, I ((k : Nat) : Int))] ∧ (k ≤ s.length) ∧ SH w w' [] [.own Ag3 (((textI s).take k).length) cg3 3 1 (((textI s).take k).map I)]) (fun ⟨Ag3, cg3, k⟩ => s.length - k) ((some ⟨b1, 0, none⟩), 0, 0) ⟨⟨rfl, (show (.slice (some ⟨b1, 0, none⟩) (([] : List Int).length) 0 : Value) = .slice (some ⟨b1, 0, none⟩) (((textI s).take 0).length) 0 from slv rfl e2 rfl), rfl, trivial⟩, (by simp), (hs1.cast (lc (own_eq (g := I) rfl e2 rfl e1) rfl))⟩ ?_
 rintro ⟨Ag3, cg3, k⟩ f w2 ⟨hf, hk, hs2⟩
 obtain ⟨g1, rfl⟩ := has_upd hf
 clear hf
 refine sq ?_
 refine sq ?_
 refine rg ?_
 refine q trivial rfl rfl (mv (v := I ((k : Nat) : Int)) rfl) ?_
 refine q trivial rfl rfl (mv (v := Str s) rfl) ?_
 refine q trivial rfl rfl (lnS (l := s) st9 rfl) ?_
 refine q trivial rfl rfl (lss (k := .i64) (a := ((k : Nat) : Int)) (b := ((s.length : Nat) : Int)) rfl rfl) ?_
 refine nl ?_
 refine nN ?_
 refine cdd (p := ((k : Nat) : Int) < ((s.length : Nat) : Int)) rfl (fun h1 => ?_) (fun h1 => ?_)
 · refine sk ?_
   refine nN ?_
   refine sq ?_
   refine bl ?_
   refine rg ?_
   refine q trivial rfl rfl (mv (v := .slice Ag3 (((textI s).take k).length) cg3) rfl) ?_
   refine q trivial rfl rfl (mv (v := Str s) rfl) ?_
   refine q trivial rfl rfl (mv (v := I ((k : Nat) : Int)) rfl) ?_
   refine q trivial rfl rfl (ixs (l := s) k st9 rfl rfl (by first | (first | omega | (simp; done) | (simp; omega)) | (have htl := textI_len s; first | omega | (simp; done) | (simp; omega)))) ?_
   refine q trivial rfl rfl (cvI (a := (((s.getD k 0).toNat : Nat) : Int)) (s := .u8) ti5 ti3 rfl (by have := u8_bd ((s.getD k 0)); exact ⟨by omega, by omega⟩)) ?_
   refine bsk hs2 sl23 [I (((s.getD k 0).toNat : Nat) : Int)] [I (((s.getD k 0).toNat : Nat) : Int)] trivial rfl (fun b2 w3 (hs3 : SH w w3 [] [.own Ag3 (((textI s).take k).length) cg3 3 1 (((textI s).take k).map I), oI b2 ([(((s.getD k 0).toNat : Nat) : Int)] : List Int) 1 3]) => ?_)
   refine apm (g := I) (ys := (textI s).take k) (zs := ([(((s.getD k 0).toNat : Nat) : Int)] : List Int)) hs3 0 rfl sl23 rfl rfl rfl (hs3.sl0 1 rfl) (fun _ => rfl) (by unfold maxLen; have htl := textI_len s; simp only [List.length_take, List.length_cons, List.length_nil]; omega) (by have htl := textI_len s; simp only [List.length_take, List.length_cons, List.length_nil]; omega) trivial rfl (fun A1 c1 w4 (hs4 : SH w w4 [] [oI b2 ([(((s.getD k 0).toNat : Nat) : Int)] : List Int) 1 3, .own A1 ((((textI s).take k) ++ ([(((s.getD k 0).toNat : Nat) : Int)] : List Int)).length) c1 3 1 ((((textI s).take k) ++ ([(((s.getD k 0).toNat : Nat) : Int)] : List Int)).map I)]) => ?_)
   refine q trivial rfl rfl (asg (v := .slice A1 ((((textI s).take k) ++ ([(((s.getD k 0).toNat : Nat) : Int)] : List Int)).length) c1) rfl) ?_
   refine nl ?_
   refine bN ?_
   refine nN ?_
   refine rg ?_
   refine q trivial rfl rfl (mv (v := I ((k : Nat) : Int)) rfl) ?_
   refine q trivial rfl rfl (add (a := ((k : Nat) : Int)) (b := 1) rfl rfl (by first | (exact ⟨by omega, by omega⟩) | (have htl := textI_len s; exact ⟨by omega, by omega⟩))) ?_
   refine q trivial rfl rfl (asg (v := I (((k : Nat) : Int) + 1)) rfl) ?_
   refine nl ?_
   refine nN ?_
   have e3 : ((textI s).take k) ++ ([(((s.getD k 0).toNat : Nat) : Int)] : List Int) = (textI s).take (k + 1) := by exact textI_app (by omega)
   have e4 : (((textI s).take k) ++ ([(((s.getD k 0).toNat : Nat) : Int)] : List Int)).length = ((textI s).take (k + 1)).length := by rw [e3]
   refine ⟨(A1, c1, k + 1), ⟨⟨rfl, (show (.slice A1 ((((textI s).take k) ++ ([(((s.getD k 0).toNat : Nat) : Int)] : List Int)).length) c1 : Value) = .slice A1 (((textI s).take (k + 1)).length) c1 from slv rfl e4 rfl), rfl, trivial⟩, (by omega), ((hs4.pick [1] rfl (by decide)).cast (lc (own_eq (g := I) rfl e4 rfl e3) rfl))⟩, ?_⟩
   show s.length - (k + 1) < s.length - k
   omega
 · refine ex (tE (tE (bE ?_)))
   refine nN ?_
   refine sq ?_
   refine rg ?_
   refine q trivial rfl rfl (mv (v := .slice Ag3 (((textI s).take k).length) cg3) rfl) ?_
   refine q trivial rfl rfl (asg (v := .slice Ag3 (((textI s).take k).length) cg3) rfl) ?_
   refine nl ?_
   refine nN ?_
   refine rt ?_
   refine fret (v := .slice Ag3 (((textI s).take k).length) cg3) (.tmp .nil) rfl ?_
   have e5 : (textI s).take k = textI s := by exact textI_all (by omega)
   have e6 : ((textI s).take k).length = (textI s).length := by exact congrArg List.length e5
   exact ⟨Ag3, cg3, (slv rfl e6 rfl), (hs2.cast (lc (own_eq (g := I) rfl e6 rfl e5) rfl))⟩

theorem iNumberBytes (n : Int) (w : World) (hn : 0 ≤ n ∧ n ≤ 65535) : Does Tryd.prog 66 [I n, I 2] w (fun v w' => ∃ Ar : Option Addr, ∃ cr : Nat, v = .slice Ar (numB n).length cr ∧ SH w w' [] [.own Ar ((numB n).length) cr 3 1 ((numB n).map I)]) := by
 refine fn_enter (N := 27) Tryd.func66 rfl (by kernel_rfl) rfl rfl rfl ?_
 have hs0 : SH w w [] [] := SH.refl w []
 refine sq ?_
 refine rg ?_
 refine q trivial rfl rfl (asg (v := ns) rfl) ?_
 refine nl ?_
 refine nN ?_
 refine sq ?_
 refine rg ?_
 refine q trivial rfl rfl (mv (v := I 2) rfl) ?_
 refine mkm (g := I) (z := 0) (n := 2) hs0 sl23 rfl rfl rfl (by omega) (by unfold maxLen; omega) trivial rfl (fun b1 w1 (hs1 : SH w w1 [] [oI b1 (List.replicate 2 (0 : Int)) 2 3]) => ?_)
 refine q trivial rfl rfl (asg (v := sb b1 ((List.replicate 2 (0 : Int)).length) 2) rfl) ?_
 refine nl ?_
 refine nN ?_
 refine sq ?_
 refine sq ?_
 refine rg ?_
 refine q trivial rfl rfl (mv (v := sb b1 ((List.replicate 2 (0 : Int)).length) 2) rfl) ?_
 refine q trivial rfl rfl (lnA (n := (List.replicate 2 (0 : Int)).length) sl23 rfl) ?_
 refine q trivial rfl rfl (mv (v := I 0) rfl) ?_
 refine nl ?_
 refine nN ?_
 refine bl ?_
 have e1 : List.replicate 2 (0 : Int) = (numB n).take 0 ++ List.replicate (2 - 0) (0 : Int) := by simp
 have e2 : (List.replicate 2 (0 : Int)).length = 2 := by first | rfl | (simp; done) | (simp; omega) | omega
 refine lp (σ := (Option Addr) × Nat × Nat) (fun ⟨Ag5, cg5, k⟩ f w' => Has f [(0, I n), (1, I 2), (5, .slice Ag5 2 cg5), (10, I (((List.replicate 2 (0 : Int)).length : Nat) : Int)), (11, I ((k : Nat) : Int))] ∧ (k ≤ 2) ∧ SH w w' [] [.own Ag5 2 cg5 3 1 (((numB n).take k ++ List.replicate (2 - k) (0 : Int)).map I)]) (fun ⟨Ag5, cg5, k⟩ => 2 - k) ((some ⟨b1, 0, none⟩), 2, 0) ⟨⟨rfl, rfl, (show (.slice (some ⟨b1, 0, none⟩) ((List.replicate 2 (0 : Int)).length) 2 : Value) = .slice (some ⟨b1, 0, none⟩) 2 2 from slv rfl e2 rfl), rfl, rfl, trivial⟩, (by simp), (hs1.cast (lc (own_eq (g := I) rfl e2 rfl e1) rfl))⟩ ?_
 rintro ⟨Ag5, cg5, k⟩ f w2 ⟨hf, hk, hs2⟩
 obtain ⟨g1, rfl⟩ := has_upd hf
 clear hf
 refine sq ?_
 refine rg ?_
 refine q trivial rfl rfl (lss (k := .i64) (a := ((k : Nat) : Int)) (b := (((List.replicate 2 (0 : Int)).length : Nat) : Int)) rfl rfl) ?_
 refine nl ?_
 refine nN ?_
 refine sq ?_
 refine cdd (p := ((k : Nat) : Int) < (((List.replicate 2 (0 : Int)).length : Nat) : Int)) rfl (fun h1 => ?_) (fun h1 => ?_)
 · refine sk ?_
   refine nN ?_
   refine sq ?_
   refine bl ?_
   refine sq ?_
   refine rg ?_
   refine q trivial rfl rfl (mv (v := I ((k : Nat) : Int)) rfl) ?_
   refine q trivial rfl rfl (asg (v := I ((k : Nat) : Int)) rfl) ?_
   refine nl ?_
   refine nN ?_
   refine rg ?_
   refine q trivial rfl rfl (mv (v := .slice Ag5 2 cg5) rfl) ?_
   refine q trivial rfl rfl (mv (v := I ((k : Nat) : Int)) rfl) ?_
   refine q trivial rfl rfl (mv (v := I n) rfl) ?_
   refine q trivial rfl rfl (mv (v := I 2) rfl) ?_
   refine q trivial rfl rfl (sub (a := 2) (b := 1) rfl rfl (by exact ⟨by omega, by omega⟩)) ?_
   refine q trivial rfl rfl (mv (v := I ((k : Nat) : Int)) rfl) ?_
   refine q trivial rfl rfl (sub (a := (2 : Int) - 1) (b := ((k : Nat) : Int)) rfl rfl (by exact ⟨by omega, by omega⟩)) ?_
   refine q trivial rfl rfl (mul (a := 8) (b := ((2 : Int) - 1) - ((k : Nat) : Int)) rfl rfl (by exact ⟨by omega, by omega⟩)) ?_
   refine q trivial rfl rfl (shr (a := n) (b := 8 * (((2 : Int) - 1) - ((k : Nat) : Int))) rfl rfl (by omega) (by omega)) ?_
   refine q trivial rfl rfl (and255 (a := n / 2 ^ (8 * (((2 : Int) - 1) - ((k : Nat) : Int))).toNat) rfl rfl (by first | exact num_and hn | exact num_and2 hn) (by first | exact num_and hn | exact num_and2 hn)) ?_
   obtain ⟨b2, rfl⟩ := own_form hs2 0 rfl (by first | omega | (simp; done) | (simp; omega))
   refine q trivial rfl rfl (ixo k sl23 rfl rfl (by first | omega | (simp; done) | (simp; omega))) ?_
   refine stomn (g := I) (ys := (numB n).take k ++ List.replicate (2 - k) (0 : Int)) (o := k) (u := (n / 2 ^ (8 * (((2 : Int) - 1) - ((k : Nat) : Int))).toNat) % 256) hs2 0 rfl rfl rfl rfl (by first | omega | (simp; done) | (simp; omega)) rfl one3 trivial (fun w3 (hs3 : SH w w3 [] [.own (some ⟨b2, 0, none⟩) 2 cg5 3 1 ((((numB n).take k ++ List.replicate (2 - k) (0 : Int)).set k ((n / 2 ^ (8 * (((2 : Int) - 1) - ((k : Nat) : Int))).toNat) % 256)).map I)]) => ?_)
   refine nl ?_
   refine bN ?_
   refine nN ?_
   refine rg ?_
   refine q trivial rfl rfl (add (a := ((k : Nat) : Int)) (b := 1) rfl rfl (by exact ⟨by omega, by omega⟩)) ?_
   refine q trivial rfl rfl (mv (v := I (((k : Nat) : Int) + 1)) rfl) ?_
   refine nl ?_
   refine nN ?_
   have e3 : ((numB n).take k ++ List.replicate (2 - k) (0 : Int)).set k ((n / 2 ^ (8 * (((2 : Int) - 1) - ((k : Nat) : Int))).toNat) % 256) = (numB n).take (k + 1) ++ List.replicate (2 - (k + 1)) (0 : Int) := by exact numB_set (by omega)
   refine ⟨((some ⟨b2, 0, none⟩), cg5, k + 1), ⟨⟨rfl, rfl, rfl, rfl, rfl, trivial⟩, (by omega), (hs3.cast (lc (own_eq (g := I) rfl rfl rfl e3) rfl))⟩, ?_⟩
   show 2 - (k + 1) < 2 - k
   omega
 · refine ex (tE (tE (bE ?_)))
   refine nN ?_
   refine sq ?_
   refine rg ?_
   refine q trivial rfl rfl (mv (v := .slice Ag5 2 cg5) rfl) ?_
   refine q trivial rfl rfl (asg (v := .slice Ag5 2 cg5) rfl) ?_
   refine nl ?_
   refine nN ?_
   refine rt ?_
   refine fret (v := .slice Ag5 2 cg5) (.tmp .nil) rfl ?_
   have e4 : (numB n).take k ++ List.replicate (2 - k) (0 : Int) = numB n := by have : k = 2 := (by omega); subst this; simp [numB]
   have e5 : 2 = (numB n).length := by exact (show 2 = ((numB n).take k ++ List.replicate (2 - k) (0 : Int)).length by (simp [numB]; omega)).trans (congrArg List.length e4)
   exact ⟨Ag5, cg5, (slv rfl e5 rfl), (hs2.cast (lc (own_eq (g := I) rfl e5 rfl e4) rfl))⟩

theorem sL1Number (n : Int) (w : World) (hn : 0 ≤ n ∧ n ≤ 65535) : Does Tryd.prog 84 [I n, I 2] w (fun v w' => ∃ Ar : Option Addr, ∃ cr : Nat, v = .slice Ar (numB n).length cr ∧ SH w w' [] [.own Ar ((numB n).length) cr 3 1 ((numB n).map I)]) := by
 refine fn_enter (N := 23) Tryd.func84 rfl (by kernel_rfl) rfl rfl rfl ?_
 have hs0 : SH w w [] [] := SH.refl w []
 refine sq ?_
 refine rg ?_
 refine q trivial rfl rfl (asg (v := ns) rfl) ?_
 refine nl ?_
 refine nN ?_
 refine sq ?_
 refine rg ?_
 refine q trivial rfl rfl (mv (v := I 2) rfl) ?_
 refine mkm (g := I) (z := 0) (n := 2) hs0 sl23 rfl rfl rfl (by omega) (by unfold maxLen; omega) trivial rfl (fun b1 w1 (hs1 : SH w w1 [] [oI b1 (List.replicate 2 (0 : Int)) 2 3]) => ?_)
 refine q trivial rfl rfl (asg (v := sb b1 ((List.replicate 2 (0 : Int)).length) 2) rfl) ?_
 refine nl ?_
 refine nN ?_
 refine sq ?_
 refine sq ?_
 refine rg ?_
 refine q trivial rfl rfl (mv (v := I 2) rfl) ?_
 refine q trivial rfl rfl (sub (a := 2) (b := 1) rfl rfl (by exact ⟨by omega, by omega⟩)) ?_
 refine q trivial rfl rfl (asg (v := I ((2 : Int) - 1)) rfl) ?_
 refine nl ?_
 refine nN ?_
 refine bl ?_
 have e1 : List.replicate 2 (0 : Int) = numR n 0 := by simp [numR]
 have e2 : (List.replicate 2 (0 : Int)).length = 2 := by first | rfl | (simp; done) | (simp; omega) | omega
 refine lp (σ := (Option Addr) × Nat × Nat × Int) (fun ⟨Ag5, cg5, k, m⟩ f w' => Has f [(0, I m), (5, .slice Ag5 2 cg5), (6, I (1 - ((k : Nat) : Int)))] ∧ (k ≤ 2) ∧ (m = numM n k) ∧ (0 ≤ m ∧ m ≤ 65535) ∧ SH w w' [] [.own Ag5 2 cg5 3 1 ((numR n k).map I)]) (fun ⟨Ag5, cg5, k, m⟩ => 2 - k) ((some ⟨b1, 0, none⟩), 2, 0, n) ⟨⟨rfl, (show (.slice (some ⟨b1, 0, none⟩) ((List.replicate 2 (0 : Int)).length) 2 : Value) = .slice (some ⟨b1, 0, none⟩) 2 2 from slv rfl e2 rfl), (show (I ((2 : Int) - 1) : Value) = I (1 - ((0 : Nat) : Int)) from congrArg (Value.int .i64) (by simp)), trivial⟩, (by simp), (by simp [numM]), (hn), (hs1.cast (lc (own_eq (g := I) rfl e2 rfl e1) rfl))⟩ ?_
 rintro ⟨Ag5, cg5, k, m⟩ f w2 ⟨hf, hk, hm, hm2, hs2⟩
 obtain ⟨g1, rfl⟩ := has_upd hf
 clear hf
 refine sq ?_
 refine sq ?_
 refine rg ?_
 refine q trivial rfl rfl (mv (v := I (1 - ((k : Nat) : Int))) rfl) ?_
 refine q trivial rfl rfl (geq (k := .i64) (a := 1 - ((k : Nat) : Int)) (b := 0) rfl rfl) ?_
 refine nl ?_
 refine nN ?_
 refine cdd (p := (0 : Int) ≤ (1 - ((k : Nat) : Int))) rfl (fun h1 => ?_) (fun h1 => ?_)
 · refine sk ?_
   refine nN ?_
   refine sq ?_
   refine bl ?_
   refine sq ?_
   refine rg ?_
   refine q trivial rfl rfl (mv (v := .slice Ag5 2 cg5) rfl) ?_
   refine q trivial rfl rfl (mv (v := I (1 - ((k : Nat) : Int))) rfl) ?_
   refine q trivial rfl rfl (mv (v := I m) rfl) ?_
   refine q trivial rfl rfl (rem (a := m) (b := 256) rfl rfl (by omega) (by omega)) ?_
   obtain ⟨b2, rfl⟩ := own_form hs2 0 rfl (by first | omega | (simp; done) | (simp; omega))
   refine q trivial rfl rfl (ixo ((1 - ((k : Nat) : Int)).toNat) sl23 rfl (ieq (x := 1 - ((k : Nat) : Int)) (by omega)) (by first | omega | (simp; done) | (simp; omega))) ?_
   refine stomn (g := I) (ys := numR n k) (o := (1 - ((k : Nat) : Int)).toNat) (u := m % 256) hs2 0 rfl rfl rfl rfl (by first | omega | (simp; done) | (simp; omega)) rfl one3 trivial (fun w3 (hs3 : SH w w3 [] [.own (some ⟨b2, 0, none⟩) 2 cg5 3 1 (((numR n k).set ((1 - ((k : Nat) : Int)).toNat) (m % 256)).map I)]) => ?_)
   refine nl ?_
   refine nN ?_
   refine rg ?_
   refine q trivial rfl rfl (mv (v := I m) rfl) ?_
   refine q trivial rfl rfl (quo (a := m) (b := 256) rfl rfl (by omega) (by omega) (by omega)) ?_
   refine q trivial rfl rfl (asg (v := I (m / 256)) rfl) ?_
   refine nl ?_
   refine bN ?_
   refine nN ?_
   refine rg ?_
   refine q trivial rfl rfl (mv (v := I (1 - ((k : Nat) : Int))) rfl) ?_
   refine q trivial rfl rfl (sub (a := 1 - ((k : Nat) : Int)) (b := 1) rfl rfl (by exact ⟨by omega, by omega⟩)) ?_
   refine q trivial rfl rfl (asg (v := I ((1 - ((k : Nat) : Int)) - 1)) rfl) ?_
   refine nl ?_
   refine nN ?_
   have e3 : (numR n k).set ((1 - ((k : Nat) : Int)).toNat) (m % 256) = numR n (k + 1) := by rw [hm]; exact numR_step (by omega) (by omega)
   refine ⟨((some ⟨b2, 0, none⟩), cg5, k + 1, m / 256), ⟨⟨rfl, rfl, (show (I ((1 - ((k : Nat) : Int)) - 1) : Value) = I (1 - (((k + 1) : Nat) : Int)) from congrArg (Value.int .i64) (by omega)), trivial⟩, (by omega), (by rw [hm]; exact numM_step (by omega)), (by omega), (hs3.cast (lc (own_eq (g := I) rfl rfl rfl e3) rfl))⟩, ?_⟩
   show 2 - (k + 1) < 2 - k
   omega
 · refine ex (tE (tE (bE ?_)))
   refine nN ?_
   refine sq ?_
   refine rg ?_
   refine q trivial rfl rfl (mv (v := .slice Ag5 2 cg5) rfl) ?_
   refine q trivial rfl rfl (asg (v := .slice Ag5 2 cg5) rfl) ?_
   refine nl ?_
   refine nN ?_
   refine rt ?_
   refine fret (v := .slice Ag5 2 cg5) (.tmp .nil) rfl ?_
   have e4 : numR n k = numB n := by have : k = 2 := (by omega); subst this; rfl
   have e5 : 2 = (numB n).length := by exact (show 2 = (numR n k).length by (have : k = 2 := (by omega); subst this; rfl)).trans (congrArg List.length e4)
   exact ⟨Ag5, cg5, (slv rfl e5 rfl), (hs2.cast (lc (own_eq (g := I) rfl e5 rfl e4) rfl))⟩

set_option maxHeartbeats 8000000 in
theorem iAddressBytes (ak : Int) {Aaq : Option Addr} {caq : Nat} (aq : List Int) (an : List UInt8) (apt : Int) (w : World) (haq : Sl w [] 1 Aaq aq.length caq (aq.map I)) (han_n : an.length ≤ 1099511627776) (hok : addrOk ak aq an apt = true) : Does Tryd.prog 50 [.agg #[I ak, .slice Aaq aq.length caq, Str an, I apt]] w (fun v w' => ∃ Ar : Option Addr, ∃ cr : Nat, v = .slice Ar (addrB ak aq an apt).length cr ∧ SH w w' [] [.own Ar ((addrB ak aq an apt).length) cr 3 1 ((addrB ak aq an apt).map I)]) := by
 refine fn_enter (N := 29) Tryd.func50 rfl (by kernel_rfl) rfl rfl rfl ?_
 have hs0 : SH w w [] [] := SH.refl w []
 have haq_m : aq.length ≤ 9223372036854775807 := Nat.le_trans haq.cap haq.capMax
 refine sq ?_
 refine rg ?_
 refine bx (v := .agg #[I ak, .slice Aaq aq.length caq, Str an, I apt]) (cs := [I ak, .slice Aaq aq.length caq, Str an, I apt]) hs0 rfl rfl trivial rfl (fun b1 w1 (hs1 : SH w w1 [] [.blk b1 27 [I ak, .slice Aaq aq.length caq, Str an, I apt]]) => ?_)
 refine q trivial rfl rfl (asg (v := ns) rfl) ?_
 refine nl ?_
 refine nN ?_
 refine sq ?_
 refine rg ?_
 refine q trivial rfl rfl (fa 0 fo27_0 rfl) ?_
 refine q trivial rfl rfl (ld (v := I ak) hs1 0 rfl rfl rfl one3) ?_
 refine bsk hs1 sl23 [I ak] [I ak] trivial rfl (fun b2 w2 (hs2 : SH w w2 [] [.blk b1 27 [I ak, .slice Aaq aq.length caq, Str an, I apt], oI b2 ([ak] : List Int) 1 3]) => ?_)
 refine q trivial rfl rfl (asg (v := sb b2 (([ak] : List Int).length) 1) rfl) ?_
 refine nl ?_
 refine nN ?_
 refine sq ?_
 refine sq ?_
 refine rg ?_
 refine q trivial rfl rfl (fa 0 fo27_0 rfl) ?_
 refine q trivial rfl rfl (ld (v := I ak) hs2 0 rfl rfl rfl one3) ?_
 refine q trivial rfl rfl (eqi (k := .i64) (a := ak) (b := 1) rfl rfl) ?_
 refine nl ?_
 refine nN ?_
 refine cdd (p := ak = 1) rfl (fun h1 => ?_) (fun h1 => ?_)
 · refine rg ?_
   refine q trivial rfl rfl (mv (v := sb b2 (([ak] : List Int).length) 1) rfl) ?_
   refine q trivial rfl rfl (fa 1 fo27_1 rfl) ?_
   refine q trivial rfl rfl (ld (v := .slice Aaq aq.length caq) hs2 0 rfl rfl rfl one23) ?_
   refine apm (g := I) (ys := ([ak] : List Int)) (zs := aq) hs2 1 rfl sl23 rfl rfl rfl (haq.up0 hs2) (fun _ => rfl) (by unfold maxLen; have haf := addrOk_fit hok; have htl := textI_len an; have hnb : (numB apt).length = 2 := rfl; simp only [List.length_append, List.length_cons, List.length_nil]; omega) (by have haf := addrOk_fit hok; have htl := textI_len an; have hnb : (numB apt).length = 2 := rfl; simp only [List.length_append, List.length_cons, List.length_nil]; omega) trivial rfl (fun A1 c1 w3 (hs3 : SH w w3 [] [.blk b1 27 [I ak, .slice Aaq aq.length caq, Str an, I apt], .own A1 ((([ak] : List Int) ++ aq).length) c1 3 1 ((([ak] : List Int) ++ aq).map I)]) => ?_)
   refine q trivial rfl rfl (asg (v := .slice A1 ((([ak] : List Int) ++ aq).length) c1) rfl) ?_
   refine nl ?_
   refine nN ?_
   refine sq ?_
   refine rg ?_
   refine q trivial rfl rfl (mv (v := .slice A1 ((([ak] : List Int) ++ aq).length) c1) rfl) ?_
   refine q trivial rfl rfl (fa 3 fo27_3 rfl) ?_
   refine q trivial rfl rfl (ld (v := I apt) hs3 0 rfl rfl rfl one3) ?_
   refine cl trivial rfl (iNumberBytes (n := apt) (w := _) (hn := (by first | (first | omega | assumption | (simp; done) | (simp; omega)) | (have haf := addrOk_fit hok; have htl := textI_len an; have hnb : (numB apt).length = 2 := rfl; first | omega | assumption | (simp; done) | (simp; omega))))) ?_
   rintro _ w4 ⟨A2, c2, rfl, hs4'⟩
   have hs4 : SH w w4 [] [.blk b1 27 [I ak, .slice Aaq aq.length caq, Str an, I apt], .own A1 ((([ak] : List Int) ++ aq).length) c1 3 1 ((([ak] : List Int) ++ aq).map I), .own A2 ((numB apt).length) c2 3 1 ((numB apt).map I)] := hs3.call0 hs4'
   clear hs4'
   refine apm (g := I) (ys := ([ak] : List Int) ++ aq) (zs := numB apt) hs4 1 rfl sl23 rfl rfl rfl (hs4.sl0 2 rfl) (fun _ => rfl) (by unfold maxLen; have haf := addrOk_fit hok; have htl := textI_len an; have hnb : (numB apt).length = 2 := rfl; simp only [List.length_append, List.length_cons, List.length_nil]; omega) (by have haf := addrOk_fit hok; have htl := textI_len an; have hnb : (numB apt).length = 2 := rfl; simp only [List.length_append, List.length_cons, List.length_nil]; omega) trivial rfl (fun A3 c3 w5 (hs5 : SH w w5 [] [.blk b1 27 [I ak, .slice Aaq aq.length caq, Str an, I apt], .own A2 ((numB apt).length) c2 3 1 ((numB apt).map I), .own A3 (((([ak] : List Int) ++ aq) ++ (numB apt)).length) c3 3 1 (((([ak] : List Int) ++ aq) ++ (numB apt)).map I)]) => ?_)
   refine q trivial rfl rfl (asg (v := .slice A3 (((([ak] : List Int) ++ aq) ++ (numB apt)).length) c3) rfl) ?_
   refine nl ?_
   refine nN ?_
   refine rt ?_
   refine fret (v := .slice A3 (((([ak] : List Int) ++ aq) ++ (numB apt)).length) c3) (.tmp .nil) rfl ?_
   have e1 : (([ak] : List Int) ++ aq) ++ (numB apt) = addrB ak aq an apt := by simp [addrB, h1]
   have e2 : ((([ak] : List Int) ++ aq) ++ (numB apt)).length = (addrB ak aq an apt).length := by exact congrArg List.length e1
   exact ⟨A3, c3, (slv rfl e2 rfl), ((hs5.pick [2] rfl (by decide)).cast (lc (own_eq (g := I) rfl e2 rfl e1) rfl))⟩
 · refine raJ (fun w' => ∃ L, SH w w' [] L ∧ (.blk b1 27 [I ak, .slice Aaq aq.length caq, Str an, I apt]) ∈ L ∧ True) (fun f w' => ∃ (b4' : Nat) (A8' : Option Addr) (c8' : Nat) (A9' : Option Addr) (c9' : Nat), Has f [(1, pb b1), (3, .slice A9' (((([ak] : List Int) ++ ([((an.length : Nat) : Int)] : List Int)) ++ (textI an)).length) c9')] ∧ SH w w' [] [.blk b1 27 [I ak, .slice Aaq aq.length caq, Str an, I apt], .own A9' (((([ak] : List Int) ++ ([((an.length : Nat) : Int)] : List Int)) ++ (textI an)).length) c9' 3 1 (((([ak] : List Int) ++ ([((an.length : Nat) : Int)] : List Int)) ++ (textI an)).map I), oI b4' ([((an.length : Nat) : Int)] : List Int) 1 3, .own A8' ((textI an).length) c8' 3 1 ((textI an).map I)]) mixed ?_ ?_
   · refine dag (fuel' := 2) (listed' := lbits 11 511) (fun f w' => ∃ (b4' : Nat) (A5' : Option Addr) (c5' : Nat) (A8' : Option Addr) (c8' : Nat), Has f [(1, pb b1), (3, sb b2 (([ak] : List Int).length) 1), (19, .slice A5' ((([ak] : List Int) ++ ([((an.length : Nat) : Int)] : List Int)).length) c5'), (22, .slice A8' ((textI an).length) c8')] ∧ SH w w' [] [.blk b1 27 [I ak, .slice Aaq aq.length caq, Str an, I apt], .own A5' ((([ak] : List Int) ++ ([((an.length : Nat) : Int)] : List Int)).length) c5' 3 1 ((([ak] : List Int) ++ ([((an.length : Nat) : Int)] : List Int)).map I), oI b4' ([((an.length : Nat) : Int)] : List Int) 1 3, .own A8' ((textI an).length) c8' 3 1 ((textI an).map I)]) ?_ (fun D_4_0 => ?_)
     · rintro f w6 ⟨b4', A5', c5', A8', c8', hf, hs6⟩
       obtain ⟨g1, rfl⟩ := has_upd hf
       clear hf
       refine aaL [9] (fa_one ?_)
       refine one_ rfl ?_
       refine apm (g := I) (ys := ([ak] : List Int) ++ ([((an.length : Nat) : Int)] : List Int)) (zs := textI an) hs6 1 rfl sl23 rfl rfl rfl (hs6.sl0 3 rfl) (fun _ => rfl) (by unfold maxLen; have haf := addrOk_fit hok; have htl := textI_len an; have hnb : (numB apt).length = 2 := rfl; simp only [List.length_append, List.length_cons, List.length_nil]; omega) (by have haf := addrOk_fit hok; have htl := textI_len an; have hnb : (numB apt).length = 2 := rfl; simp only [List.length_append, List.length_cons, List.length_nil]; omega) trivial rfl (fun A9' c9' w7 hs7 => ?_)
       refine nl (kq ⟨_, hs7, memi 0 rfl, trivial⟩ ?_)
       refine tk (fuel := 0) (is := [10]) (.cons rfl (.nil)) (by kernel_rfl) (by kernel_rfl) ⟨_, hs7, memi 0 rfl, trivial⟩ ?_
       refine .op trivial rfl rfl (fun wq _ => asg (v := .slice A9' (((([ak] : List Int) ++ ([((an.length : Nat) : Int)] : List Int)) ++ (textI an)).length) c9') rfl) ?_
       refine .nil ?_
       refine ad (by kernel_rfl) ?_
       exact ⟨b4', A8', c8', A9', c9', ⟨rfl, rfl, trivial⟩, (hs7.pick [0, 3, 1, 2] rfl (by decide))⟩
     refine dag (fuel' := 3) (listed' := lbits 11 255) (fun f w' => ∃ (b4' : Nat) (A5' : Option Addr) (c5' : Nat), Has f [(1, pb b1), (3, sb b2 (([ak] : List Int).length) 1), (19, .slice A5' ((([ak] : List Int) ++ ([((an.length : Nat) : Int)] : List Int)).length) c5'), (21, Str an)] ∧ SH w w' [] [.blk b1 27 [I ak, .slice Aaq aq.length caq, Str an, I apt], .own A5' ((([ak] : List Int) ++ ([((an.length : Nat) : Int)] : List Int)).length) c5' 3 1 ((([ak] : List Int) ++ ([((an.length : Nat) : Int)] : List Int)).map I), oI b4' ([((an.length : Nat) : Int)] : List Int) 1 3]) ?_ (fun D_4_1 => ?_)
     · rintro f w8 ⟨b4', A5', c5', hf, hs8⟩
       obtain ⟨g2, rfl⟩ := has_upd hf
       clear hf
       refine aaL [8] (fa_one ?_)
       refine one_ rfl ?_
       refine cl trivial rfl (iTextBytes (s := an) (w := _) (hs_n := (by first | (first | omega | (simp; done) | (simp; omega)) | (have haf := addrOk_fit hok; have htl := textI_len an; have hnb : (numB apt).length = 2 := rfl; first | omega | (simp; done) | (simp; omega))))) ?_
       rintro _ w9 ⟨A8', c8', rfl, hs9'⟩
       have hs9 := hs8.call0 hs9'
       clear hs9'
       exact nl (kq ⟨_, hs9, memi 0 rfl, trivial⟩ (alc D_4_0 ⟨b4', A5', c5', A8', c8', ⟨rfl, rfl, rfl, rfl, trivial⟩, hs9⟩))
     refine dag (fuel' := 4) (listed' := lbits 11 223) (fun f w' => ∃ (b4' : Nat), Has f [(1, pb b1), (3, sb b2 (([ak] : List Int).length) 1), (14, sb b2 (([ak] : List Int).length) 1), (18, sb b4' (([((an.length : Nat) : Int)] : List Int).length) 1), (21, Str an)] ∧ SH w w' [] [.blk b1 27 [I ak, .slice Aaq aq.length caq, Str an, I apt], oI b2 ([ak] : List Int) 1 3, oI b4' ([((an.length : Nat) : Int)] : List Int) 1 3]) ?_ (fun D_4_2 => ?_)
     · rintro f w10 ⟨b4', hf, hs10⟩
       obtain ⟨g3, rfl⟩ := has_upd hf
       clear hf
       refine aaL [5] (fa_one ?_)
       refine one_ rfl ?_
       refine apm (g := I) (ys := ([ak] : List Int)) (zs := ([((an.length : Nat) : Int)] : List Int)) hs10 1 rfl sl23 rfl rfl rfl (hs10.sl0 2 rfl) (fun _ => rfl) (by unfold maxLen; have haf := addrOk_fit hok; have htl := textI_len an; have hnb : (numB apt).length = 2 := rfl; simp only [List.length_append, List.length_cons, List.length_nil]; omega) (by have haf := addrOk_fit hok; have htl := textI_len an; have hnb : (numB apt).length = 2 := rfl; simp only [List.length_append, List.length_cons, List.length_nil]; omega) trivial rfl (fun A5' c5' w11 hs11 => ?_)
       exact nl (kq ⟨_, hs11, memi 0 rfl, trivial⟩ (alc D_4_1 ⟨b4', A5', c5', ⟨rfl, rfl, rfl, rfl, trivial⟩, (hs11.pick [0, 2, 1] rfl (by decide))⟩))
     refine dag (fuel' := 5) (listed' := lbits 11 207) (fun f w' => Has f [(1, pb b1), (3, sb b2 (([ak] : List Int).length) 1), (14, sb b2 (([ak] : List Int).length) 1), (17, I ((an.length : Nat) : Int)), (21, Str an)] ∧ SH w w' [] [.blk b1 27 [I ak, .slice Aaq aq.length caq, Str an, I apt], oI b2 ([ak] : List Int) 1 3]) ?_ (fun D_4_3 => ?_)
     · rintro f w12 ⟨hf, hs12⟩
       obtain ⟨g4, rfl⟩ := has_upd hf
       clear hf
       refine aaL [4] (fa_one ?_)
       refine one_ rfl ?_
       refine bsk hs12 sl23 [I ((an.length : Nat) : Int)] [I ((an.length : Nat) : Int)] trivial rfl (fun b4' w13 hs13 => ?_)
       exact nl (kq ⟨_, hs13, memi 0 rfl, trivial⟩ (alc D_4_2 ⟨b4', ⟨rfl, rfl, rfl, rfl, rfl, trivial⟩, hs13⟩))
     have hs14 := hs2.drew
     refine tk (fuel := 5) (is := [0, 1, 2, 3, 6, 7]) (.cons rfl (.cons rfl (.cons rfl (.cons rfl (.cons rfl (.cons rfl (.nil))))))) (by kernel_rfl) (by kernel_rfl) ⟨_, hs14, memi 0 rfl, trivial⟩ ?_
     refine .op trivial rfl rfl (fun wq _ => mv (v := sb b2 (([ak] : List Int).length) 1) rfl) ?_
     refine .op trivial rfl rfl (fun wq _ => fa 2 fo27_2 rfl) ?_
     refine .op trivial rfl rfl (fun wq ⟨Lq, hsq, mh0, _⟩ => ldm (v := Str an) hsq mh0 rfl rfl one9) ?_
     refine .op trivial rfl rfl (fun wq _ => lnS (l := an) st9 rfl) ?_
     refine .op trivial rfl rfl (fun wq _ => fa 2 fo27_2 rfl) ?_
     refine .op trivial rfl rfl (fun wq ⟨Lq, hsq, mh0, _⟩ => ldm (v := Str an) hsq mh0 rfl rfl one9) ?_
     refine .nil ?_
     exact alc D_4_3 ⟨⟨rfl, rfl, rfl, rfl, rfl, trivial⟩, hs14⟩
   rintro f w14 ⟨b4', A8', c8', A9', c9', hf, hs15⟩
   obtain ⟨g5, rfl⟩ := has_upd hf
   clear hf
   refine nN ?_
   have hs16 : SH w w14 [] [.blk b1 27 [I ak, .slice Aaq aq.length caq, Str an, I apt], .own A9' (((([ak] : List Int) ++ ([((an.length : Nat) : Int)] : List Int)) ++ (textI an)).length) c9' 3 1 (((([ak] : List Int) ++ ([((an.length : Nat) : Int)] : List Int)) ++ (textI an)).map I)] := hs15.pick [0, 1] rfl (by decide)
   refine sq ?_
   refine rg ?_
   refine q trivial rfl rfl (mv (v := .slice A9' (((([ak] : List Int) ++ ([((an.length : Nat) : Int)] : List Int)) ++ (textI an)).length) c9') rfl) ?_
   refine q trivial rfl rfl (fa 3 fo27_3 rfl) ?_
   refine q trivial rfl rfl (ld (v := I apt) hs16 0 rfl rfl rfl one3) ?_
   refine cl trivial rfl (iNumberBytes (n := apt) (w := _) (hn := (by first | (first | omega | assumption | (simp; done) | (simp; omega)) | (have haf := addrOk_fit hok; have htl := textI_len an; have hnb : (numB apt).length = 2 := rfl; first | omega | assumption | (simp; done) | (simp; omega))))) ?_
   rintro _ w15 ⟨A4, c4, rfl, hs17'⟩
   have hs17 : SH w w15 [] [.blk b1 27 [I ak, .slice Aaq aq.length caq, Str an, I apt], .own A9' (((([ak] : List Int) ++ ([((an.length : Nat) : Int)] : List Int)) ++ (textI an)).length) c9' 3 1 (((([ak] : List Int) ++ ([((an.length : Nat) : Int)] : List Int)) ++ (textI an)).map I), .own A4 ((numB apt).length) c4 3 1 ((numB apt).map I)] := hs16.call0 hs17'
   clear hs17'
   refine apm (g := I) (ys := (([ak] : List Int) ++ ([((an.length : Nat) : Int)] : List Int)) ++ (textI an)) (zs := numB apt) hs17 1 rfl sl23 rfl rfl rfl (hs17.sl0 2 rfl) (fun _ => rfl) (by unfold maxLen; have haf := addrOk_fit hok; have htl := textI_len an; have hnb : (numB apt).length = 2 := rfl; simp only [List.length_append, List.length_cons, List.length_nil]; omega) (by have haf := addrOk_fit hok; have htl := textI_len an; have hnb : (numB apt).length = 2 := rfl; simp only [List.length_append, List.length_cons, List.length_nil]; omega) trivial rfl (fun A5 c5 w16 (hs18 : SH w w16 [] [.blk b1 27 [I ak, .slice Aaq aq.length caq, Str an, I apt], .own A4 ((numB apt).length) c4 3 1 ((numB apt).map I), .own A5 ((((([ak] : List Int) ++ ([((an.length : Nat) : Int)] : List Int)) ++ (textI an)) ++ (numB apt)).length) c5 3 1 ((((([ak] : List Int) ++ ([((an.length : Nat) : Int)] : List Int)) ++ (textI an)) ++ (numB apt)).map I)]) => ?_)
   refine q trivial rfl rfl (asg (v := .slice A5 ((((([ak] : List Int) ++ ([((an.length : Nat) : Int)] : List Int)) ++ (textI an)) ++ (numB apt)).length) c5) rfl) ?_
   refine nl ?_
   refine nN ?_
   refine rt ?_
   refine fret (v := .slice A5 ((((([ak] : List Int) ++ ([((an.length : Nat) : Int)] : List Int)) ++ (textI an)) ++ (numB apt)).length) c5) (.tmp .nil) rfl ?_
   have e3 : ((([ak] : List Int) ++ ([((an.length : Nat) : Int)] : List Int)) ++ (textI an)) ++ (numB apt) = addrB ak aq an apt := by simp [addrB, h1]
   have e4 : (((([ak] : List Int) ++ ([((an.length : Nat) : Int)] : List Int)) ++ (textI an)) ++ (numB apt)).length = (addrB ak aq an apt).length := by exact congrArg List.length e3
   exact ⟨A5, c5, (slv rfl e4 rfl), ((hs18.pick [2] rfl (by decide)).cast (lc (own_eq (g := I) rfl e4 rfl e3) rfl))⟩

set_option maxHeartbeats 8000000 in
theorem sL3Bytes (ak : Int) {Aaq : Option Addr} {caq : Nat} (aq : List Int) (an : List UInt8) (apt : Int) (w : World) (haq : Sl w [] 1 Aaq aq.length caq (aq.map I)) (han_n : an.length ≤ 1099511627776) (hok : addrOk ak aq an apt = true) : Does Tryd.prog 77 [.agg #[I ak, .slice Aaq aq.length caq, Str an, I apt]] w (fun v w' => ∃ Ar : Option Addr, ∃ cr : Nat, v = .slice Ar (addrB ak aq an apt).length cr ∧ SH w w' [] [.own Ar ((addrB ak aq an apt).length) cr 3 1 ((addrB ak aq an apt).map I)]) := by
 refine fn_enter (N := 30) Tryd.func77 rfl (by kernel_rfl) rfl rfl rfl ?_
 have hs0 : SH w w [] [] := SH.refl w []
 have haq_m : aq.length ≤ 9223372036854775807 := Nat.le_trans haq.cap haq.capMax
 refine sq ?_
 refine rg ?_
 refine bx (v := .agg #[I ak, .slice Aaq aq.length caq, Str an, I apt]) (cs := [I ak, .slice Aaq aq.length caq, Str an, I apt]) hs0 rfl rfl trivial rfl (fun b1 w1 (hs1 : SH w w1 [] [.blk b1 27 [I ak, .slice Aaq aq.length caq, Str an, I apt]]) => ?_)
 refine q trivial rfl rfl (asg (v := ns) rfl) ?_
 refine nl ?_
 refine nN ?_
 refine sq ?_
 refine rg ?_
 refine q trivial rfl rfl (fa 0 fo27_0 rfl) ?_
 refine q trivial rfl rfl (ld (v := I ak) hs1 0 rfl rfl rfl one3) ?_
 refine bsk hs1 sl23 [I ak] [I ak] trivial rfl (fun b2 w2 (hs2 : SH w w2 [] [.blk b1 27 [I ak, .slice Aaq aq.length caq, Str an, I apt], oI b2 ([ak] : List Int) 1 3]) => ?_)
 refine q trivial rfl rfl (asg (v := sb b2 (([ak] : List Int).length) 1) rfl) ?_
 refine nl ?_
 refine nN ?_
 refine sq ?_
 refine sq ?_
 refine rg ?_
 refine q trivial rfl rfl (fa 0 fo27_0 rfl) ?_
 refine q trivial rfl rfl (ld (v := I ak) hs2 0 rfl rfl rfl one3) ?_
 refine q trivial rfl rfl (eqi (k := .i64) (a := ak) (b := 1) rfl rfl) ?_
 refine nl ?_
 refine nN ?_
 refine cdd (p := ak = 1) rfl (fun h1 => ?_) (fun h1 => ?_)
 · refine rg ?_
   refine q trivial rfl rfl (mv (v := sb b2 (([ak] : List Int).length) 1) rfl) ?_
   refine q trivial rfl rfl (fa 1 fo27_1 rfl) ?_
   refine q trivial rfl rfl (ld (v := .slice Aaq aq.length caq) hs2 0 rfl rfl rfl one23) ?_
   refine apm (g := I) (ys := ([ak] : List Int)) (zs := aq) hs2 1 rfl sl23 rfl rfl rfl (haq.up0 hs2) (fun _ => rfl) (by unfold maxLen; have haf := addrOk_fit hok; have htl := textI_len an; have hnb : (numB apt).length = 2 := rfl; simp only [List.length_append, List.length_cons, List.length_nil]; omega) (by have haf := addrOk_fit hok; have htl := textI_len an; have hnb : (numB apt).length = 2 := rfl; simp only [List.length_append, List.length_cons, List.length_nil]; omega) trivial rfl (fun A1 c1 w3 (hs3 : SH w w3 [] [.blk b1 27 [I ak, .slice Aaq aq.length caq, Str an, I apt], .own A1 ((([ak] : List Int) ++ aq).length) c1 3 1 ((([ak] : List Int) ++ aq).map I)]) => ?_)
   refine q trivial rfl rfl (asg (v := .slice A1 ((([ak] : List Int) ++ aq).length) c1) rfl) ?_
   refine nl ?_
   refine nN ?_
   refine sq ?_
   refine rg ?_
   refine q trivial rfl rfl (mv (v := .slice A1 ((([ak] : List Int) ++ aq).length) c1) rfl) ?_
   refine q trivial rfl rfl (fa 3 fo27_3 rfl) ?_
   refine q trivial rfl rfl (ld (v := I apt) hs3 0 rfl rfl rfl one3) ?_
   refine cl trivial rfl (sL1Number (n := apt) (w := _) (hn := (by first | (first | omega | assumption | (simp; done) | (simp; omega)) | (have haf := addrOk_fit hok; have htl := textI_len an; have hnb : (numB apt).length = 2 := rfl; first | omega | assumption | (simp; done) | (simp; omega))))) ?_
   rintro _ w4 ⟨A2, c2, rfl, hs4'⟩
   have hs4 : SH w w4 [] [.blk b1 27 [I ak, .slice Aaq aq.length caq, Str an, I apt], .own A1 ((([ak] : List Int) ++ aq).length) c1 3 1 ((([ak] : List Int) ++ aq).map I), .own A2 ((numB apt).length) c2 3 1 ((numB apt).map I)] := hs3.call0 hs4'
   clear hs4'
   refine apm (g := I) (ys := ([ak] : List Int) ++ aq) (zs := numB apt) hs4 1 rfl sl23 rfl rfl rfl (hs4.sl0 2 rfl) (fun _ => rfl) (by unfold maxLen; have haf := addrOk_fit hok; have htl := textI_len an; have hnb : (numB apt).length = 2 := rfl; simp only [List.length_append, List.length_cons, List.length_nil]; omega) (by have haf := addrOk_fit hok; have htl := textI_len an; have hnb : (numB apt).length = 2 := rfl; simp only [List.length_append, List.length_cons, List.length_nil]; omega) trivial rfl (fun A3 c3 w5 (hs5 : SH w w5 [] [.blk b1 27 [I ak, .slice Aaq aq.length caq, Str an, I apt], .own A2 ((numB apt).length) c2 3 1 ((numB apt).map I), .own A3 (((([ak] : List Int) ++ aq) ++ (numB apt)).length) c3 3 1 (((([ak] : List Int) ++ aq) ++ (numB apt)).map I)]) => ?_)
   refine q trivial rfl rfl (asg (v := .slice A3 (((([ak] : List Int) ++ aq) ++ (numB apt)).length) c3) rfl) ?_
   refine nl ?_
   refine nN ?_
   refine rt ?_
   refine fret (v := .slice A3 (((([ak] : List Int) ++ aq) ++ (numB apt)).length) c3) (.tmp .nil) rfl ?_
   have e1 : (([ak] : List Int) ++ aq) ++ (numB apt) = addrB ak aq an apt := by simp [addrB, h1]
   have e2 : ((([ak] : List Int) ++ aq) ++ (numB apt)).length = (addrB ak aq an apt).length := by exact congrArg List.length e1
   exact ⟨A3, c3, (slv rfl e2 rfl), ((hs5.pick [2] rfl (by decide)).cast (lc (own_eq (g := I) rfl e2 rfl e1) rfl))⟩
 · refine sq ?_
   refine rg ?_
   refine q trivial rfl rfl (mv (v := sb b2 (([ak] : List Int).length) 1) rfl) ?_
   refine q trivial rfl rfl (fa 2 fo27_2 rfl) ?_
   refine q trivial rfl rfl (ld (v := Str an) hs2 0 rfl rfl rfl one9) ?_
   refine q trivial rfl rfl (lnS (l := an) st9 rfl) ?_
   refine bsk hs2 sl23 [I ((an.length : Nat) : Int)] [I ((an.length : Nat) : Int)] trivial rfl (fun b3 w6 (hs6 : SH w w6 [] [.blk b1 27 [I ak, .slice Aaq aq.length caq, Str an, I apt], oI b2 ([ak] : List Int) 1 3, oI b3 ([((an.length : Nat) : Int)] : List Int) 1 3]) => ?_)
   refine apm (g := I) (ys := ([ak] : List Int)) (zs := ([((an.length : Nat) : Int)] : List Int)) hs6 1 rfl sl23 rfl rfl rfl (hs6.sl0 2 rfl) (fun _ => rfl) (by unfold maxLen; have haf := addrOk_fit hok; have htl := textI_len an; have hnb : (numB apt).length = 2 := rfl; simp only [List.length_append, List.length_cons, List.length_nil]; omega) (by have haf := addrOk_fit hok; have htl := textI_len an; have hnb : (numB apt).length = 2 := rfl; simp only [List.length_append, List.length_cons, List.length_nil]; omega) trivial rfl (fun A4 c4 w7 (hs7 : SH w w7 [] [.blk b1 27 [I ak, .slice Aaq aq.length caq, Str an, I apt], oI b3 ([((an.length : Nat) : Int)] : List Int) 1 3, .own A4 ((([ak] : List Int) ++ ([((an.length : Nat) : Int)] : List Int)).length) c4 3 1 ((([ak] : List Int) ++ ([((an.length : Nat) : Int)] : List Int)).map I)]) => ?_)
   refine q trivial rfl rfl (asg (v := .slice A4 ((([ak] : List Int) ++ ([((an.length : Nat) : Int)] : List Int)).length) c4) rfl) ?_
   refine nl ?_
   refine nN ?_
   refine rg ?_
   refine q trivial rfl rfl (mv (v := .slice A4 ((([ak] : List Int) ++ ([((an.length : Nat) : Int)] : List Int)).length) c4) rfl) ?_
   refine q trivial rfl rfl (fa 2 fo27_2 rfl) ?_
   refine q trivial rfl rfl (ld (v := Str an) hs7 0 rfl rfl rfl one9) ?_
   refine cl trivial rfl (sL1Text (s := an) (w := _) (hs_n := (by first | (first | omega | (simp; done) | (simp; omega)) | (have haf := addrOk_fit hok; have htl := textI_len an; have hnb : (numB apt).length = 2 := rfl; first | omega | (simp; done) | (simp; omega))))) ?_
   rintro _ w8 ⟨A5, c5, rfl, hs8'⟩
   have hs8 : SH w w8 [] [.blk b1 27 [I ak, .slice Aaq aq.length caq, Str an, I apt], oI b3 ([((an.length : Nat) : Int)] : List Int) 1 3, .own A4 ((([ak] : List Int) ++ ([((an.length : Nat) : Int)] : List Int)).length) c4 3 1 ((([ak] : List Int) ++ ([((an.length : Nat) : Int)] : List Int)).map I), .own A5 ((textI an).length) c5 3 1 ((textI an).map I)] := hs7.call0 hs8'
   clear hs8'
   refine apm (g := I) (ys := ([ak] : List Int) ++ ([((an.length : Nat) : Int)] : List Int)) (zs := textI an) hs8 2 rfl sl23 rfl rfl rfl (hs8.sl0 3 rfl) (fun _ => rfl) (by unfold maxLen; have haf := addrOk_fit hok; have htl := textI_len an; have hnb : (numB apt).length = 2 := rfl; simp only [List.length_append, List.length_cons, List.length_nil]; omega) (by have haf := addrOk_fit hok; have htl := textI_len an; have hnb : (numB apt).length = 2 := rfl; simp only [List.length_append, List.length_cons, List.length_nil]; omega) trivial rfl (fun A6 c6 w9 (hs9 : SH w w9 [] [.blk b1 27 [I ak, .slice Aaq aq.length caq, Str an, I apt], oI b3 ([((an.length : Nat) : Int)] : List Int) 1 3, .own A5 ((textI an).length) c5 3 1 ((textI an).map I), .own A6 (((([ak] : List Int) ++ ([((an.length : Nat) : Int)] : List Int)) ++ (textI an)).length) c6 3 1 (((([ak] : List Int) ++ ([((an.length : Nat) : Int)] : List Int)) ++ (textI an)).map I)]) => ?_)
   refine q trivial rfl rfl (asg (v := .slice A6 (((([ak] : List Int) ++ ([((an.length : Nat) : Int)] : List Int)) ++ (textI an)).length) c6) rfl) ?_
   refine nl ?_
   refine nN ?_
   have hs10 : SH w w9 [] [.blk b1 27 [I ak, .slice Aaq aq.length caq, Str an, I apt], .own A6 (((([ak] : List Int) ++ ([((an.length : Nat) : Int)] : List Int)) ++ (textI an)).length) c6 3 1 (((([ak] : List Int) ++ ([((an.length : Nat) : Int)] : List Int)) ++ (textI an)).map I)] := hs9.pick [0, 3] rfl (by decide)
   refine sq ?_
   refine rg ?_
   refine q trivial rfl rfl (mv (v := .slice A6 (((([ak] : List Int) ++ ([((an.length : Nat) : Int)] : List Int)) ++ (textI an)).length) c6) rfl) ?_
   refine q trivial rfl rfl (fa 3 fo27_3 rfl) ?_
   refine q trivial rfl rfl (ld (v := I apt) hs10 0 rfl rfl rfl one3) ?_
   refine cl trivial rfl (sL1Number (n := apt) (w := _) (hn := (by first | (first | omega | assumption | (simp; done) | (simp; omega)) | (have haf := addrOk_fit hok; have htl := textI_len an; have hnb : (numB apt).length = 2 := rfl; first | omega | assumption | (simp; done) | (simp; omega))))) ?_
   rintro _ w10 ⟨A7, c7, rfl, hs11'⟩
   have hs11 : SH w w10 [] [.blk b1 27 [I ak, .slice Aaq aq.length caq, Str an, I apt], .own A6 (((([ak] : List Int) ++ ([((an.length : Nat) : Int)] : List Int)) ++ (textI an)).length) c6 3 1 (((([ak] : List Int) ++ ([((an.length : Nat) : Int)] : List Int)) ++ (textI an)).map I), .own A7 ((numB apt).length) c7 3 1 ((numB apt).map I)] := hs10.call0 hs11'
   clear hs11'
   refine apm (g := I) (ys := (([ak] : List Int) ++ ([((an.length : Nat) : Int)] : List Int)) ++ (textI an)) (zs := numB apt) hs11 1 rfl sl23 rfl rfl rfl (hs11.sl0 2 rfl) (fun _ => rfl) (by unfold maxLen; have haf := addrOk_fit hok; have htl := textI_len an; have hnb : (numB apt).length = 2 := rfl; simp only [List.length_append, List.length_cons, List.length_nil]; omega) (by have haf := addrOk_fit hok; have htl := textI_len an; have hnb : (numB apt).length = 2 := rfl; simp only [List.length_append, List.length_cons, List.length_nil]; omega) trivial rfl (fun A8 c8 w11 (hs12 : SH w w11 [] [.blk b1 27 [I ak, .slice Aaq aq.length caq, Str an, I apt], .own A7 ((numB apt).length) c7 3 1 ((numB apt).map I), .own A8 ((((([ak] : List Int) ++ ([((an.length : Nat) : Int)] : List Int)) ++ (textI an)) ++ (numB apt)).length) c8 3 1 ((((([ak] : List Int) ++ ([((an.length : Nat) : Int)] : List Int)) ++ (textI an)) ++ (numB apt)).map I)]) => ?_)
   refine q trivial rfl rfl (asg (v := .slice A8 ((((([ak] : List Int) ++ ([((an.length : Nat) : Int)] : List Int)) ++ (textI an)) ++ (numB apt)).length) c8) rfl) ?_
   refine nl ?_
   refine nN ?_
   refine rt ?_
   refine fret (v := .slice A8 ((((([ak] : List Int) ++ ([((an.length : Nat) : Int)] : List Int)) ++ (textI an)) ++ (numB apt)).length) c8) (.tmp .nil) rfl ?_
   have e3 : ((([ak] : List Int) ++ ([((an.length : Nat) : Int)] : List Int)) ++ (textI an)) ++ (numB apt) = addrB ak aq an apt := by simp [addrB, h1]
   have e4 : (((([ak] : List Int) ++ ([((an.length : Nat) : Int)] : List Int)) ++ (textI an)) ++ (numB apt)).length = (addrB ak aq an apt).length := by exact congrArg List.length e3
   exact ⟨A8, c8, (slv rfl e4 rfl), ((hs12.pick [2] rfl (by decide)).cast (lc (own_eq (g := I) rfl e4 rfl e3) rfl))⟩

set_option maxHeartbeats 8000000 in
theorem sL12Bytes (n : Int) (ak : Int) {Aaq : Option Addr} {caq : Nat} (aq : List Int) (an : List UInt8) (apt : Int) (w : World) (haq : Sl w [] 1 Aaq aq.length caq (aq.map I)) (han_n : an.length ≤ 1099511627776) (hok : addrOk ak aq an apt = true) : Does Tryd.prog 64 [I n, .agg #[I ak, .slice Aaq aq.length caq, Str an, I apt]] w (fun v w' => ∃ Ar : Option Addr, ∃ cr : Nat, v = .slice Ar ([5, n, 0] ++ addrB ak aq an apt).length cr ∧ SH w w' [] [.own Ar (([5, n, 0] ++ addrB ak aq an apt).length) cr 3 1 (([5, n, 0] ++ addrB ak aq an apt).map I)]) := by
 refine fn_enter (N := 10) Tryd.func64 rfl (by kernel_rfl) rfl rfl rfl ?_
 have hs0 : SH w w [] [] := SH.refl w []
 have haq_m : aq.length ≤ 9223372036854775807 := Nat.le_trans haq.cap haq.capMax
 refine sq ?_
 refine rg ?_
 refine bx (v := .agg #[I ak, .slice Aaq aq.length caq, Str an, I apt]) (cs := [I ak, .slice Aaq aq.length caq, Str an, I apt]) hs0 rfl rfl trivial rfl (fun b1 w1 (hs1 : SH w w1 [] [.blk b1 27 [I ak, .slice Aaq aq.length caq, Str an, I apt]]) => ?_)
 refine q trivial rfl rfl (asg (v := ns) rfl) ?_
 refine nl ?_
 refine nN ?_
 refine sq ?_
 refine rg ?_
 refine q trivial rfl rfl (mv (v := I n) rfl) ?_
 refine bsk hs1 sl23 [I 5, I n, I 0] [I 5, I n, I 0] trivial rfl (fun b2 w2 (hs2 : SH w w2 [] [.blk b1 27 [I ak, .slice Aaq aq.length caq, Str an, I apt], oI b2 ([5, n, 0] : List Int) 3 3]) => ?_)
 refine q trivial rfl rfl (ldg (vs := [I ak, .slice Aaq aq.length caq, Str an, I apt]) hs2 0 rfl rfl rfl rfl ag27) ?_
 refine cl trivial rfl (sL3Bytes (ak := ak) (Aaq := Aaq) (caq := caq) (aq := aq) (an := an) (apt := apt) (w := _) (haq := (haq.up0 hs2)) (han_n := (by first | omega | (simp; done) | (simp; omega))) (hok := (by first | omega | assumption | (simp; done) | (simp; omega)))) ?_
 rintro _ w3 ⟨A1, c1, rfl, hs3'⟩
 have hs3 : SH w w3 [] [.blk b1 27 [I ak, .slice Aaq aq.length caq, Str an, I apt], oI b2 ([5, n, 0] : List Int) 3 3, .own A1 ((addrB ak aq an apt).length) c1 3 1 ((addrB ak aq an apt).map I)] := hs2.call0 hs3'
 clear hs3'
 refine apm (g := I) (ys := ([5, n, 0] : List Int)) (zs := addrB ak aq an apt) hs3 1 rfl sl23 rfl rfl rfl (hs3.sl0 2 rfl) (fun _ => rfl) (by unfold maxLen; have hbl := addrB_len hok; simp only [List.length_append, List.length_cons, List.length_nil]; omega) (by have hbl := addrB_len hok; simp only [List.length_append, List.length_cons, List.length_nil]; omega) trivial rfl (fun A2 c2 w4 (hs4 : SH w w4 [] [.blk b1 27 [I ak, .slice Aaq aq.length caq, Str an, I apt], .own A1 ((addrB ak aq an apt).length) c1 3 1 ((addrB ak aq an apt).map I), .own A2 ((([5, n, 0] : List Int) ++ (addrB ak aq an apt)).length) c2 3 1 ((([5, n, 0] : List Int) ++ (addrB ak aq an apt)).map I)]) => ?_)
 refine q trivial rfl rfl (asg (v := .slice A2 ((([5, n, 0] : List Int) ++ (addrB ak aq an apt)).length) c2) rfl) ?_
 refine nl ?_
 refine nN ?_
 refine rt ?_
 refine fret (v := .slice A2 ((([5, n, 0] : List Int) ++ (addrB ak aq an apt)).length) c2) (.tmp .nil) rfl ?_
 have e1 : ([5, n, 0] : List Int) ++ (addrB ak aq an apt) = [5, n, 0] ++ addrB ak aq an apt := by first | rfl | (simp; done) | (simp_all; done) | omega
 have e2 : (([5, n, 0] : List Int) ++ (addrB ak aq an apt)).length = ([5, n, 0] ++ addrB ak aq an apt).length := by exact congrArg List.length e1
 exact ⟨A2, c2, (slv rfl e2 rfl), ((hs4.pick [2] rfl (by decide)).cast (lc (own_eq (g := I) rfl e2 rfl e1) rfl))⟩

theorem iIsRequest (n : Int) (ak : Int) {Aaq : Option Addr} {caq : Nat} (aq : List Int) (an : List UInt8) (apt : Int) (w : World) (haq : Sl w [] 1 Aaq aq.length caq (aq.map I)) (han_n : an.length ≤ 1099511627776) : Does Tryd.prog 49 [.agg #[I n, I ak, .slice Aaq aq.length caq, Str an, I apt]] w (fun v w' => v = .bool (reqOk n ak aq an apt) ∧ SH w w' [] []) := by
 refine fn_enter (N := 11) Tryd.func49 rfl (by kernel_rfl) rfl rfl rfl ?_
 have hs0 : SH w w [] [] := SH.refl w []
 have haq_m : aq.length ≤ 9223372036854775807 := Nat.le_trans haq.cap haq.capMax
 refine sq ?_
 refine rg ?_
 refine bx (v := .agg #[I n, I ak, .slice Aaq aq.length caq, Str an, I apt]) (cs := [I n, I ak, .slice Aaq aq.length caq, Str an, I apt]) hs0 rfl rfl trivial rfl (fun b1 w1 (hs1 : SH w w1 [] [.blk b1 50 [I n, I ak, .slice Aaq aq.length caq, Str an, I apt]]) => ?_)
 refine q trivial rfl rfl (asg (v := .bool false) rfl) ?_
 refine nl ?_
 refine nN ?_
 refine sq ?_
 refine rg ?_
 refine q trivial rfl rfl (fa 0 fo50_0 rfl) ?_
 refine q trivial rfl rfl (ld (v := I n) hs1 0 rfl rfl rfl one3) ?_
 refine cl trivial rfl (iWithin (x := n) (lo := 1) (hi := 3) (w := _)) ?_
 rintro _ w2 ⟨rfl, hs2'⟩
 have hs2 : SH w w2 [] [.blk b1 50 [I n, I ak, .slice Aaq aq.length caq, Str an, I apt]] := hs1.call0 hs2'
 clear hs2'
 refine q trivial rfl rfl (mv (v := .bool (decide (1 ≤ n ∧ n ≤ 3))) rfl) ?_
 refine spd (p := 1 ≤ n ∧ n ≤ 3) 6 rfl (fun h1 => ?_) (fun h1 => ?_)
 · refine q ⟨_, rfl, rfl⟩ rfl rfl (fa 1 fo50_1 rfl) ?_
   refine q ⟨_, rfl, rfl⟩ rfl rfl (ldg (vs := [I ak, .slice Aaq aq.length caq, Str an, I apt]) hs2 0 rfl rfl rfl rfl ag27) ?_
   refine cl ⟨_, rfl, rfl⟩ rfl (iAddressValid (ak := ak) (Aaq := Aaq) (caq := caq) (aq := aq) (an := an) (apt := apt) (w := _) (haq := (haq.up0 hs2)) (han_n := (by first | omega | (simp; done) | (simp; omega)))) ?_
   rintro _ w3 ⟨rfl, hs3'⟩
   have hs3 : SH w w3 [] [.blk b1 50 [I n, I ak, .slice Aaq aq.length caq, Str an, I apt]] := hs2.call0 hs3'
   clear hs3'
   refine q trivial rfl rfl (pt (v := .bool (addrOk ak aq an apt)) rfl rfl) ?_
   refine q trivial rfl rfl (asg (v := .bool (addrOk ak aq an apt)) rfl) ?_
   refine nl ?_
   refine nN ?_
   refine rt ?_
   refine fret (v := .bool (addrOk ak aq an apt)) (.tmp .nil) rfl ?_
   have e1 : (addrOk ak aq an apt) = reqOk n ak aq an apt := by simp [reqOk, h1]
   exact ⟨(congrArg (Value.bool) e1), (hs3.pick [] rfl (by decide))⟩
 · refine gk false rfl rfl rfl rfl rfl ?_
   refine gk false rfl rfl rfl rfl rfl ?_
   refine gk false rfl rfl rfl rfl rfl ?_
   refine q trivial rfl rfl (pf (v := .bool false) rfl rfl) ?_
   refine q trivial rfl rfl (asg (v := .bool false) rfl) ?_
   refine nl ?_
   refine nN ?_
   refine rt ?_
   refine fret (v := .bool false) (.tmp .nil) rfl ?_
   have e2 : false = reqOk n ak aq an apt := by simp [reqOk, h1]
   exact ⟨(congrArg (Value.bool) e2), (hs2.pick [] rfl (by decide))⟩

set_option maxHeartbeats 8000000 in
theorem iRequestBytes (n : Int) (ak : Int) {Aaq : Option Addr} {caq : Nat} (aq : List Int) (an : List UInt8) (apt : Int) (w : World) (haq : Sl w [] 1 Aaq aq.length caq (aq.map I)) (han_n : an.length ≤ 1099511627776) : Does Tryd.prog 20 [.agg #[I n, I ak, .slice Aaq aq.length caq, Str an, I apt]] w (fun v w' => ∃ Ar : Option Addr, ∃ cr : Nat, v = .tuple #[.slice Ar ((reqP n ak aq an apt).1).length cr, .bool ((reqP n ak aq an apt).2)] ∧ SH w w' [] [.own Ar (((reqP n ak aq an apt).1).length) cr 3 1 (((reqP n ak aq an apt).1).map I)]) := by
 refine fn_enter (N := 14) Tryd.func20 rfl (by kernel_rfl) rfl rfl rfl ?_
 have hs0 : SH w w [] [] := SH.refl w []
 have haq_m : aq.length ≤ 9223372036854775807 := Nat.le_trans haq.cap haq.capMax
 refine sq ?_
 refine rg ?_
 refine bx (v := .agg #[I n, I ak, .slice Aaq aq.length caq, Str an, I apt]) (cs := [I n, I ak, .slice Aaq aq.length caq, Str an, I apt]) hs0 rfl rfl trivial rfl (fun b1 w1 (hs1 : SH w w1 [] [.blk b1 50 [I n, I ak, .slice Aaq aq.length caq, Str an, I apt]]) => ?_)
 refine q trivial rfl rfl (asg (v := ns) rfl) ?_
 refine q trivial rfl rfl (asg (v := .bool false) rfl) ?_
 refine nl ?_
 refine nN ?_
 refine sq ?_
 refine sq ?_
 refine rg ?_
 refine q trivial rfl rfl (ldg (vs := [I n, I ak, .slice Aaq aq.length caq, Str an, I apt]) hs1 0 rfl rfl rfl rfl ag50) ?_
 refine cl trivial rfl (iIsRequest (n := n) (ak := ak) (Aaq := Aaq) (caq := caq) (aq := aq) (an := an) (apt := apt) (w := _) (haq := (haq.up0 hs1)) (han_n := (by first | omega | (simp; done) | (simp; omega)))) ?_
 rintro _ w2 ⟨rfl, hs2'⟩
 have hs2 : SH w w2 [] [.blk b1 50 [I n, I ak, .slice Aaq aq.length caq, Str an, I apt]] := hs1.call0 hs2'
 clear hs2'
 refine q trivial rfl rfl (nt (b := reqOk n ak aq an apt) rfl) ?_
 refine nl ?_
 refine nN ?_
 refine cd (b := !(reqOk n ak aq an apt)) rfl (fun h1 => ?_) (fun h1 => ?_)
 · have h2 : (reqOk n ak aq an apt) = false := by simpa using h1
   refine sq ?_
   refine rg ?_
   refine q trivial rfl rfl (asg (v := ns) rfl) ?_
   refine q trivial rfl rfl (asg (v := .bool false) rfl) ?_
   refine nl ?_
   refine nN ?_
   refine rt (tR ?_)
   refine fret (v := .tuple #[ns, .bool false]) (.tmp (.tmp .nil)) rfl ?_
   have hs3 : SH w w2 [] [.blk b1 50 [I n, I ak, .slice Aaq aq.length caq, Str an, I apt], .own none (([] : List Int).length) 0 3 1 (([] : List Int).map I)] := SH.nils (by intro i hi; simp at hi; subst hi; exact nilItem) hs2
   have e1 : reqP n ak aq an apt = (([] : List Int), false) := by first | (simp [reqP, h2]; done) | (simp [reqP, reqOk, h2]; done)
   have e2 : ([] : List Int) = (reqP n ak aq an apt).1 := by rw [e1]
   have e3 : ([] : List Int).length = ((reqP n ak aq an apt).1).length := by exact congrArg List.length e2
   have e4 : false = (reqP n ak aq an apt).2 := by rw [e1]
   exact ⟨none, 0, (tup2 (slv rfl e3 rfl) (congrArg (Value.bool) e4)), ((hs3.pick [1] rfl (by decide)).cast (lc (own_eq (g := I) rfl e3 rfl e2) rfl))⟩
 · have h3 : (reqOk n ak aq an apt) = true := by simpa using h1
   refine sk ?_
   refine nN ?_
   refine sq ?_
   refine raJ (fun w' => ∃ L, SH w w' [] L ∧ (.blk b1 50 [I n, I ak, .slice Aaq aq.length caq, Str an, I apt]) ∈ L ∧ True) (fun f w' => ∃ (A5' : Option Addr) (c5' : Nat) (A6' : Option Addr) (c6' : Nat), Has f [(2, .slice A6' ((([5, n, 0] : List Int) ++ (addrB ak aq an apt)).length) c6'), (3, .bool true)] ∧ SH w w' [] [.blk b1 50 [I n, I ak, .slice Aaq aq.length caq, Str an, I apt], .own A6' ((([5, n, 0] : List Int) ++ (addrB ak aq an apt)).length) c6' 3 1 ((([5, n, 0] : List Int) ++ (addrB ak aq an apt)).map I), .own A5' ((addrB ak aq an apt).length) c5' 3 1 ((addrB ak aq an apt).map I)]) mixed ?_ ?_
   · refine dag (fuel' := 3) (listed' := lbits 9 63) (fun f w' => ∃ (b2' : Nat) (A5' : Option Addr) (c5' : Nat), Has f [(2, ns), (3, .bool false), (9, sb b2' (([5, n, 0] : List Int).length) 3), (12, .slice A5' ((addrB ak aq an apt).length) c5')] ∧ SH w w' [] [.blk b1 50 [I n, I ak, .slice Aaq aq.length caq, Str an, I apt], oI b2' ([5, n, 0] : List Int) 3 3, .own A5' ((addrB ak aq an apt).length) c5' 3 1 ((addrB ak aq an apt).map I)]) ?_ (fun D_3_0 => ?_)
     · rintro f w3 ⟨b2', A5', c5', hf, hs4⟩
       obtain ⟨g1, rfl⟩ := has_upd hf
       clear hf
       refine aaL [6] (fa_one ?_)
       refine one_ rfl ?_
       refine apm (g := I) (ys := ([5, n, 0] : List Int)) (zs := addrB ak aq an apt) hs4 1 rfl sl23 rfl rfl rfl (hs4.sl0 2 rfl) (fun _ => rfl) (by unfold maxLen; have hbl := addrB_len (reqOk_addr (by assumption)); simp only [List.length_append, List.length_cons, List.length_nil]; omega) (by have hbl := addrB_len (reqOk_addr (by assumption)); simp only [List.length_append, List.length_cons, List.length_nil]; omega) trivial rfl (fun A6' c6' w4 hs5 => ?_)
       refine nl (kq ⟨_, hs5, memi 0 rfl, trivial⟩ ?_)
       refine tk (fuel := 0) (is := [7, 8]) (.cons rfl (.cons rfl (.nil))) (by kernel_rfl) (by kernel_rfl) ⟨_, hs5, memi 0 rfl, trivial⟩ ?_
       refine .op trivial rfl rfl (fun wq _ => asg (v := .slice A6' ((([5, n, 0] : List Int) ++ (addrB ak aq an apt)).length) c6') rfl) ?_
       refine .op trivial rfl rfl (fun wq _ => asg (v := .bool true) rfl) ?_
       refine .nil ?_
       refine ad (by kernel_rfl) ?_
       exact ⟨A5', c5', A6', c6', ⟨rfl, rfl, trivial⟩, (hs5.pick [0, 2, 1] rfl (by decide))⟩
     refine dag (fuel' := 4) (listed' := lbits 9 31) (fun f w' => ∃ (b2' : Nat), Has f [(2, ns), (3, .bool false), (9, sb b2' (([5, n, 0] : List Int).length) 3), (11, .agg #[I ak, .slice Aaq aq.length caq, Str an, I apt])] ∧ SH w w' [] [.blk b1 50 [I n, I ak, .slice Aaq aq.length caq, Str an, I apt], oI b2' ([5, n, 0] : List Int) 3 3]) ?_ (fun D_3_1 => ?_)
     · rintro f w5 ⟨b2', hf, hs6⟩
       obtain ⟨g2, rfl⟩ := has_upd hf
       clear hf
       refine aaL [5] (fa_one ?_)
       refine one_ rfl ?_
       refine cl trivial rfl (iAddressBytes (ak := ak) (Aaq := Aaq) (caq := caq) (aq := aq) (an := an) (apt := apt) (w := _) (haq := (haq.up0 hs6)) (han_n := (by first | omega | (simp; done) | (simp; omega))) (hok := (by first | assumption | exact reqOk_addr (by assumption)))) ?_
       rintro _ w6 ⟨A5', c5', rfl, hs7'⟩
       have hs7 := hs6.call0 hs7'
       clear hs7'
       exact nl (kq ⟨_, hs7, memi 0 rfl, trivial⟩ (alc D_3_0 ⟨b2', A5', c5', ⟨rfl, rfl, rfl, rfl, trivial⟩, hs7⟩))
     refine dag (fuel' := 4) (listed' := lbits 9 59) (fun f w' => ∃ (A5' : Option Addr) (c5' : Nat), Has f [(2, ns), (3, .bool false), (8, I n), (12, .slice A5' ((addrB ak aq an apt).length) c5')] ∧ SH w w' [] [.blk b1 50 [I n, I ak, .slice Aaq aq.length caq, Str an, I apt], .own A5' ((addrB ak aq an apt).length) c5' 3 1 ((addrB ak aq an apt).map I)]) ?_ (fun D_3_2 => ?_)
     · rintro f w7 ⟨A5', c5', hf, hs8⟩
       obtain ⟨g3, rfl⟩ := has_upd hf
       clear hf
       refine aaL [2] (fa_one ?_)
       refine one_ rfl ?_
       refine bsk hs8 sl23 [I 5, I n, I 0] [I 5, I n, I 0] trivial rfl (fun b2' w8 hs9 => ?_)
       exact nl (kq ⟨_, hs9, memi 0 rfl, trivial⟩ (alc D_3_0 ⟨b2', A5', c5', ⟨rfl, rfl, rfl, rfl, trivial⟩, (hs9.pick [0, 2, 1] rfl (by decide))⟩))
     refine dag (fuel' := 5) (listed' := lbits 9 27) (fun f w' => Has f [(2, ns), (3, .bool false), (8, I n), (11, .agg #[I ak, .slice Aaq aq.length caq, Str an, I apt])] ∧ SH w w' [] [.blk b1 50 [I n, I ak, .slice Aaq aq.length caq, Str an, I apt]]) ?_ (fun D_3_3 => ?_)
     · rintro f w9 ⟨hf, hs10⟩
       obtain ⟨g4, rfl⟩ := has_upd hf
       clear hf
       refine aaL [2, 5] (fa_cons ?_ (fa_one ?_))
       · refine one_ rfl ?_
         refine bsk hs10 sl23 [I 5, I n, I 0] [I 5, I n, I 0] trivial rfl (fun b2' w10 hs11 => ?_)
         exact nl (kq ⟨_, hs11, memi 0 rfl, trivial⟩ (alc D_3_1 ⟨b2', ⟨rfl, rfl, rfl, rfl, trivial⟩, hs11⟩))
       · refine one_ rfl ?_
         refine cl trivial rfl (iAddressBytes (ak := ak) (Aaq := Aaq) (caq := caq) (aq := aq) (an := an) (apt := apt) (w := _) (haq := (haq.up0 hs10)) (han_n := (by first | omega | (simp; done) | (simp; omega))) (hok := (by first | assumption | exact reqOk_addr (by assumption)))) ?_
         rintro _ w11 ⟨A5', c5', rfl, hs12'⟩
         have hs12 := hs10.call0 hs12'
         clear hs12'
         exact nl (kq ⟨_, hs12, memi 0 rfl, trivial⟩ (alc D_3_2 ⟨A5', c5', ⟨rfl, rfl, rfl, rfl, trivial⟩, hs12⟩))
     have hs13 := hs2.drew
     refine tk (fuel := 5) (is := [0, 1, 3, 4]) (.cons rfl (.cons rfl (.cons rfl (.cons rfl (.nil))))) (by kernel_rfl) (by kernel_rfl) ⟨_, hs13, memi 0 rfl, trivial⟩ ?_
     refine .op trivial rfl rfl (fun wq _ => fa 0 fo50_0 rfl) ?_
     refine .op trivial rfl rfl (fun wq ⟨Lq, hsq, mh0, _⟩ => ldm (v := I n) hsq mh0 rfl rfl one3) ?_
     refine .op trivial rfl rfl (fun wq _ => fa 1 fo50_1 rfl) ?_
     refine .op trivial rfl rfl (fun wq ⟨Lq, hsq, mh0, _⟩ => ldgm (vs := [I ak, .slice Aaq aq.length caq, Str an, I apt]) hsq mh0 rfl rfl rfl ag27) ?_
     refine .nil ?_
     exact alc D_3_3 ⟨⟨rfl, rfl, rfl, rfl, trivial⟩, hs13⟩
   rintro f w12 ⟨A5', c5', A6', c6', hf, hs14⟩
   obtain ⟨g5, rfl⟩ := has_upd hf
   clear hf
   refine nN ?_
   refine rt ?_
   refine fret (v := .tuple #[.slice A6' ((([5, n, 0] : List Int) ++ (addrB ak aq an apt)).length) c6', .bool true]) (.tmp (.tmp .nil)) rfl ?_
   have e5 : reqP n ak aq an apt = (([5, n, 0] : List Int) ++ (addrB ak aq an apt), true) := by first | (simp [reqP, h3]; done) | (simp [reqP, reqOk, h3]; done)
   have e6 : ([5, n, 0] : List Int) ++ (addrB ak aq an apt) = (reqP n ak aq an apt).1 := by rw [e5]
   have e7 : (([5, n, 0] : List Int) ++ (addrB ak aq an apt)).length = ((reqP n ak aq an apt).1).length := by exact congrArg List.length e6
   have e8 : true = (reqP n ak aq an apt).2 := by rw [e5]
   exact ⟨A6', c6', (tup2 (slv rfl e7 rfl) (congrArg (Value.bool) e8)), ((hs14.pick [1] rfl (by decide)).cast (lc (own_eq (g := I) rfl e7 rfl e6) rfl))⟩

set_option maxHeartbeats 8000000 in
theorem sRequestBytes (n : Int) (ak : Int) {Aaq : Option Addr} {caq : Nat} (aq : List Int) (an : List UInt8) (apt : Int) (w : World) (haq : Sl w [] 1 Aaq aq.length caq (aq.map I)) (han_n : an.length ≤ 1099511627776) : Does Tryd.prog 46 [.agg #[I n, I ak, .slice Aaq aq.length caq, Str an, I apt]] w (fun v w' => ∃ Ar : Option Addr, ∃ cr : Nat, v = .tuple #[.slice Ar ((reqP n ak aq an apt).1).length cr, .bool ((reqP n ak aq an apt).2)] ∧ SH w w' [] [.own Ar (((reqP n ak aq an apt).1).length) cr 3 1 (((reqP n ak aq an apt).1).map I)]) := by
 refine fn_enter (N := 20) Tryd.func46 rfl (by kernel_rfl) rfl rfl rfl ?_
 have hs0 : SH w w [] [] := SH.refl w []
 have haq_m : aq.length ≤ 9223372036854775807 := Nat.le_trans haq.cap haq.capMax
 refine sq ?_
 refine rg ?_
 refine bx (v := .agg #[I n, I ak, .slice Aaq aq.length caq, Str an, I apt]) (cs := [I n, I ak, .slice Aaq aq.length caq, Str an, I apt]) hs0 rfl rfl trivial rfl (fun b1 w1 (hs1 : SH w w1 [] [.blk b1 50 [I n, I ak, .slice Aaq aq.length caq, Str an, I apt]]) => ?_)
 refine q trivial rfl rfl (asg (v := ns) rfl) ?_
 refine q trivial rfl rfl (asg (v := .bool false) rfl) ?_
 refine nl ?_
 refine nN ?_
 refine sq ?_
 refine sq ?_
 refine rg ?_
 refine q trivial rfl rfl (fa 0 fo50_0 rfl) ?_
 refine q trivial rfl rfl (ld (v := I n) hs1 0 rfl rfl rfl one3) ?_
 refine cl trivial rfl (sIn (x := n) (lo := 1) (hi := 3) (w := _)) ?_
 rintro _ w2 ⟨rfl, hs2'⟩
 have hs2 : SH w w2 [] [.blk b1 50 [I n, I ak, .slice Aaq aq.length caq, Str an, I apt]] := hs1.call0 hs2'
 clear hs2'
 refine q trivial rfl rfl (nd (p := 1 ≤ n ∧ n ≤ 3) rfl) ?_
 refine q trivial rfl rfl (mv (v := .bool (decide (¬ (1 ≤ n ∧ n ≤ 3)))) rfl) ?_
 refine spd (p := ¬ (1 ≤ n ∧ n ≤ 3)) 8 rfl (fun h1 => ?_) (fun h1 => ?_)
 · refine gk true rfl rfl rfl rfl rfl ?_
   refine gk true rfl rfl rfl rfl rfl ?_
   refine gk true rfl rfl rfl rfl rfl ?_
   refine gk true rfl rfl rfl rfl rfl ?_
   refine q trivial rfl rfl (pt (v := .bool true) rfl rfl) ?_
   refine nl ?_
   refine nN ?_
   refine cdt rfl ?_
   refine sq ?_
   refine rg ?_
   refine bsk hs2 sl23 [] [] trivial rfl (fun b2 w3 (hs3 : SH w w3 [] [.blk b1 50 [I n, I ak, .slice Aaq aq.length caq, Str an, I apt], oI b2 ([] : List Int) 0 3]) => ?_)
   refine q trivial rfl rfl (asg (v := sb b2 (([] : List Int).length) 0) rfl) ?_
   refine q trivial rfl rfl (asg (v := .bool false) rfl) ?_
   refine nl ?_
   refine nN ?_
   refine rt (tR ?_)
   refine fret (v := .tuple #[sb b2 (([] : List Int).length) 0, .bool false]) (.tmp (.tmp .nil)) rfl ?_
   have e1 : reqP n ak aq an apt = (([] : List Int), false) := by first | (simp [reqP, h1]; done) | (simp [reqP, reqOk, h1]; done)
   have e2 : ([] : List Int) = (reqP n ak aq an apt).1 := by rw [e1]
   have e3 : ([] : List Int).length = ((reqP n ak aq an apt).1).length := by exact congrArg List.length e2
   have e4 : false = (reqP n ak aq an apt).2 := by rw [e1]
   exact ⟨(some ⟨b2, 0, none⟩), 0, (tup2 (slv rfl e3 rfl) (congrArg (Value.bool) e4)), ((hs3.pick [1] rfl (by decide)).cast (lc (own_eq (g := I) rfl e3 rfl e2) rfl))⟩
 · refine q ⟨_, rfl, rfl⟩ rfl rfl (fa 1 fo50_1 rfl) ?_
   refine q ⟨_, rfl, rfl⟩ rfl rfl (ldg (vs := [I ak, .slice Aaq aq.length caq, Str an, I apt]) hs2 0 rfl rfl rfl rfl ag27) ?_
   refine cl ⟨_, rfl, rfl⟩ rfl (sAddressValid (ak := ak) (Aaq := Aaq) (caq := caq) (aq := aq) (an := an) (apt := apt) (w := _) (haq := (haq.up0 hs2)) (han_n := (by first | omega | (simp; done) | (simp; omega)))) ?_
   rintro _ w4 ⟨rfl, hs4'⟩
   have hs4 : SH w w4 [] [.blk b1 50 [I n, I ak, .slice Aaq aq.length caq, Str an, I apt]] := hs2.call0 hs4'
   clear hs4'
   refine q ⟨_, rfl, rfl⟩ rfl rfl (nt (b := addrOk ak aq an apt) rfl) ?_
   refine q trivial rfl rfl (pf (v := .bool (!(addrOk ak aq an apt))) rfl rfl) ?_
   refine nl ?_
   refine nN ?_
   refine cd (b := !(addrOk ak aq an apt)) rfl (fun h2 => ?_) (fun h2 => ?_)
   · have h3 : (addrOk ak aq an apt) = false := by simpa using h2
     refine sq ?_
     refine rg ?_
     refine bsk hs4 sl23 [] [] trivial rfl (fun b3 w5 (hs5 : SH w w5 [] [.blk b1 50 [I n, I ak, .slice Aaq aq.length caq, Str an, I apt], oI b3 ([] : List Int) 0 3]) => ?_)
     refine q trivial rfl rfl (asg (v := sb b3 (([] : List Int).length) 0) rfl) ?_
     refine q trivial rfl rfl (asg (v := .bool false) rfl) ?_
     refine nl ?_
     refine nN ?_
     refine rt (tR ?_)
     refine fret (v := .tuple #[sb b3 (([] : List Int).length) 0, .bool false]) (.tmp (.tmp .nil)) rfl ?_
     have e5 : reqP n ak aq an apt = (([] : List Int), false) := by first | (simp [reqP, h1, h3]; done) | (simp [reqP, reqOk, h1, h3]; done)
     have e6 : ([] : List Int) = (reqP n ak aq an apt).1 := by rw [e5]
     have e7 : ([] : List Int).length = ((reqP n ak aq an apt).1).length := by exact congrArg List.length e6
     have e8 : false = (reqP n ak aq an apt).2 := by rw [e5]
     exact ⟨(some ⟨b3, 0, none⟩), 0, (tup2 (slv rfl e7 rfl) (congrArg (Value.bool) e8)), ((hs5.pick [1] rfl (by decide)).cast (lc (own_eq (g := I) rfl e7 rfl e6) rfl))⟩
   · have h4 : (addrOk ak aq an apt) = true := by simpa using h2
     refine sk ?_
     refine nN ?_
     refine sq ?_
     refine rg ?_
     refine q trivial rfl rfl (fa 0 fo50_0 rfl) ?_
     refine q trivial rfl rfl (ld (v := I n) hs4 0 rfl rfl rfl one3) ?_
     refine q trivial rfl rfl (fa 1 fo50_1 rfl) ?_
     refine q trivial rfl rfl (ldg (vs := [I ak, .slice Aaq aq.length caq, Str an, I apt]) hs4 0 rfl rfl rfl rfl ag27) ?_
     refine cl trivial rfl (sL12Bytes (n := n) (ak := ak) (Aaq := Aaq) (caq := caq) (aq := aq) (an := an) (apt := apt) (w := _) (haq := (haq.up0 hs4)) (han_n := (by first | omega | (simp; done) | (simp; omega))) (hok := (by first | assumption | exact reqOk_addr (by assumption)))) ?_
     rintro _ w6 ⟨A1, c1, rfl, hs6'⟩
     have hs6 : SH w w6 [] [.blk b1 50 [I n, I ak, .slice Aaq aq.length caq, Str an, I apt], .own A1 (([5, n, 0] ++ addrB ak aq an apt).length) c1 3 1 (([5, n, 0] ++ addrB ak aq an apt).map I)] := hs4.call0 hs6'
     clear hs6'
     refine q trivial rfl rfl (asg (v := .slice A1 (([5, n, 0] ++ addrB ak aq an apt).length) c1) rfl) ?_
     refine q trivial rfl rfl (asg (v := .bool true) rfl) ?_
     refine nl ?_
     refine nN ?_
     refine rt ?_
     refine fret (v := .tuple #[.slice A1 (([5, n, 0] ++ addrB ak aq an apt).length) c1, .bool true]) (.tmp (.tmp .nil)) rfl ?_
     have e9 : reqP n ak aq an apt = ([5, n, 0] ++ addrB ak aq an apt, true) := by first | (simp [reqP, h1, h4]; done) | (simp [reqP, reqOk, h1, h4]; done)
     have e10 : [5, n, 0] ++ addrB ak aq an apt = (reqP n ak aq an apt).1 := by rw [e9]
     have e11 : ([5, n, 0] ++ addrB ak aq an apt).length = ((reqP n ak aq an apt).1).length := by exact congrArg List.length e10
     have e12 : true = (reqP n ak aq an apt).2 := by rw [e9]
     exact ⟨A1, c1, (tup2 (slv rfl e11 rfl) (congrArg (Value.bool) e12)), ((hs6.pick [1] rfl (by decide)).cast (lc (own_eq (g := I) rfl e11 rfl e10) rfl))⟩

theorem iHelloBytes {Ams : Option Addr} {cms : Nat} (ms : List Int) (w : World) (hms : Sl w [] 1 Ams ms.length cms (ms.map I)) : Does Tryd.prog 18 [.slice Ams ms.length cms] w (fun v w' => ∃ Ar : Option Addr, ∃ cr : Nat, v = .tuple #[.slice Ar ((helloP ms).1).length cr, .bool ((helloP ms).2)] ∧ SH w w' [] [.own Ar (((helloP ms).1).length) cr 3 1 (((helloP ms).1).map I)]) := by
 refine fn_enter (N := 12) Tryd.func18 rfl (by kernel_rfl) rfl rfl rfl ?_
 have hs0 : SH w w [] [] := SH.refl w []
 have hms_m : ms.length ≤ 9223372036854775807 := Nat.le_trans hms.cap hms.capMax
 refine sq ?_
 refine rg ?_
 refine q trivial rfl rfl (asg (v := ns) rfl) ?_
 refine q trivial rfl rfl (asg (v := .bool false) rfl) ?_
 refine nl ?_
 refine nN ?_
 refine sq ?_
 refine sq ?_
 refine rg ?_
 refine q trivial rfl rfl (mv (v := .slice Ams ms.length cms) rfl) ?_
 refine cl trivial rfl (iAreMethods (Ams := Ams) (cms := cms) (ms := ms) (w := _) (hms := (hms.up0 hs0))) ?_
 rintro _ w1 ⟨rfl, hs1'⟩
 have hs1 : SH w w1 [] [] := hs0.call0 hs1'
 clear hs1'
 refine q trivial rfl rfl (nt (b := methOk ms) rfl) ?_
 refine nl ?_
 refine nN ?_
 refine cd (b := !(methOk ms)) rfl (fun h1 => ?_) (fun h1 => ?_)
 · have h2 : (methOk ms) = false := by simpa using h1
   refine sq ?_
   refine rg ?_
   refine q trivial rfl rfl (asg (v := ns) rfl) ?_
   refine q trivial rfl rfl (asg (v := .bool false) rfl) ?_
   refine nl ?_
   refine nN ?_
   refine rt (tR ?_)
   refine fret (v := .tuple #[ns, .bool false]) (.tmp (.tmp .nil)) rfl ?_
   have hs2 : SH w w1 [] [.own none (([] : List Int).length) 0 3 1 (([] : List Int).map I)] := SH.nils (by intro i hi; simp at hi; subst hi; exact nilItem) hs1
   have e1 : helloP ms = (([] : List Int), false) := by simp [helloP, h2]
   have e2 : ([] : List Int) = (helloP ms).1 := by rw [e1]
   have e3 : ([] : List Int).length = ((helloP ms).1).length := by exact congrArg List.length e2
   have e4 : false = (helloP ms).2 := by rw [e1]
   exact ⟨none, 0, (tup2 (slv rfl e3 rfl) (congrArg (Value.bool) e4)), (hs2.cast (lc (own_eq (g := I) rfl e3 rfl e2) rfl))⟩
 · have h3 : (methOk ms) = true := by simpa using h1
   refine sk ?_
   refine nN ?_
   refine sq ?_
   refine rg ?_
   refine q trivial rfl rfl (mv (v := .slice Ams ms.length cms) rfl) ?_
   refine q trivial rfl rfl (lnA (n := ms.length) sl23 rfl) ?_
   refine bsk hs1 sl23 [I 5, I ((ms.length : Nat) : Int)] [I 5, I ((ms.length : Nat) : Int)] trivial rfl (fun b1 w2 (hs3 : SH w w2 [] [oI b1 ([5, ((ms.length : Nat) : Int)] : List Int) 2 3]) => ?_)
   refine q trivial rfl rfl (mv (v := .slice Ams ms.length cms) rfl) ?_
   refine apm (g := I) (ys := ([5, ((ms.length : Nat) : Int)] : List Int)) (zs := ms) hs3 0 rfl sl23 rfl rfl rfl (hms.up0 hs3) (fun _ => rfl) (by unfold maxLen; have hml := methOk_len (by assumption); simp only [List.length_append, List.length_cons, List.length_nil]; omega) (by have hml := methOk_len (by assumption); simp only [List.length_append, List.length_cons, List.length_nil]; omega) trivial rfl (fun A1 c1 w3 (hs4 : SH w w3 [] [.own A1 ((([5, ((ms.length : Nat) : Int)] : List Int) ++ ms).length) c1 3 1 ((([5, ((ms.length : Nat) : Int)] : List Int) ++ ms).map I)]) => ?_)
   refine q trivial rfl rfl (asg (v := .slice A1 ((([5, ((ms.length : Nat) : Int)] : List Int) ++ ms).length) c1) rfl) ?_
   refine q trivial rfl rfl (asg (v := .bool true) rfl) ?_
   refine nl ?_
   refine nN ?_
   refine rt ?_
   refine fret (v := .tuple #[.slice A1 ((([5, ((ms.length : Nat) : Int)] : List Int) ++ ms).length) c1, .bool true]) (.tmp (.tmp .nil)) rfl ?_
   have e5 : helloP ms = (([5, ((ms.length : Nat) : Int)] : List Int) ++ ms, true) := by simp [helloP, h3]
   have e6 : ([5, ((ms.length : Nat) : Int)] : List Int) ++ ms = (helloP ms).1 := by rw [e5]
   have e7 : (([5, ((ms.length : Nat) : Int)] : List Int) ++ ms).length = ((helloP ms).1).length := by exact congrArg List.length e6
   have e8 : true = (helloP ms).2 := by rw [e5]
   exact ⟨A1, c1, (tup2 (slv rfl e7 rfl) (congrArg (Value.bool) e8)), (hs4.cast (lc (own_eq (g := I) rfl e7 rfl e6) rfl))⟩

theorem sHelloBytes {Ams : Option Addr} {cms : Nat} (ms : List Int) (w : World) (hms : Sl w [] 1 Ams ms.length cms (ms.map I)) : Does Tryd.prog 44 [.slice Ams ms.length cms] w (fun v w' => ∃ Ar : Option Addr, ∃ cr : Nat, v = .tuple #[.slice Ar ((helloP ms).1).length cr, .bool ((helloP ms).2)] ∧ SH w w' [] [.own Ar (((helloP ms).1).length) cr 3 1 (((helloP ms).1).map I)]) := by
 refine fn_enter (N := 13) Tryd.func44 rfl (by kernel_rfl) rfl rfl rfl ?_
 have hs0 : SH w w [] [] := SH.refl w []
 have hms_m : ms.length ≤ 9223372036854775807 := Nat.le_trans hms.cap hms.capMax
 refine sq ?_
 refine rg ?_
 refine q trivial rfl rfl (asg (v := ns) rfl) ?_
 refine q trivial rfl rfl (asg (v := .bool false) rfl) ?_
 refine nl ?_
 refine nN ?_
 refine sq ?_
 refine sq ?_
 refine rg ?_
 refine q trivial rfl rfl (mv (v := .slice Ams ms.length cms) rfl) ?_
 refine cl trivial rfl (sL5Ok (Ams := Ams) (cms := cms) (ms := ms) (w := _) (hms := (hms.up0 hs0))) ?_
 rintro _ w1 ⟨rfl, hs1'⟩
 have hs1 : SH w w1 [] [] := hs0.call0 hs1'
 clear hs1'
 refine q trivial rfl rfl (nt (b := methOk ms) rfl) ?_
 refine nl ?_
 refine nN ?_
 refine cd (b := !(methOk ms)) rfl (fun h1 => ?_) (fun h1 => ?_)
 · have h2 : (methOk ms) = false := by simpa using h1
   refine sq ?_
   refine rg ?_
   refine bsk hs1 sl23 [] [] trivial rfl (fun b1 w2 (hs2 : SH w w2 [] [oI b1 ([] : List Int) 0 3]) => ?_)
   refine q trivial rfl rfl (asg (v := sb b1 (([] : List Int).length) 0) rfl) ?_
   refine q trivial rfl rfl (asg (v := .bool false) rfl) ?_
   refine nl ?_
   refine nN ?_
   refine rt (tR ?_)
   refine fret (v := .tuple #[sb b1 (([] : List Int).length) 0, .bool false]) (.tmp (.tmp .nil)) rfl ?_
   have e1 : helloP ms = (([] : List Int), false) := by simp [helloP, h2]
   have e2 : ([] : List Int) = (helloP ms).1 := by rw [e1]
   have e3 : ([] : List Int).length = ((helloP ms).1).length := by exact congrArg List.length e2
   have e4 : false = (helloP ms).2 := by rw [e1]
   exact ⟨(some ⟨b1, 0, none⟩), 0, (tup2 (slv rfl e3 rfl) (congrArg (Value.bool) e4)), (hs2.cast (lc (own_eq (g := I) rfl e3 rfl e2) rfl))⟩
 · have h3 : (methOk ms) = true := by simpa using h1
   refine sk ?_
   refine nN ?_
   refine sq ?_
   refine rg ?_
   refine q trivial rfl rfl (mv (v := .slice Ams ms.length cms) rfl) ?_
   refine q trivial rfl rfl (lnA (n := ms.length) sl23 rfl) ?_
   refine bsk hs1 sl23 [I 5, I ((ms.length : Nat) : Int)] [I 5, I ((ms.length : Nat) : Int)] trivial rfl (fun b2 w3 (hs3 : SH w w3 [] [oI b2 ([5, ((ms.length : Nat) : Int)] : List Int) 2 3]) => ?_)
   refine q trivial rfl rfl (mv (v := .slice Ams ms.length cms) rfl) ?_
   refine apm (g := I) (ys := ([5, ((ms.length : Nat) : Int)] : List Int)) (zs := ms) hs3 0 rfl sl23 rfl rfl rfl (hms.up0 hs3) (fun _ => rfl) (by unfold maxLen; have hml := methOk_len (by assumption); simp only [List.length_append, List.length_cons, List.length_nil]; omega) (by have hml := methOk_len (by assumption); simp only [List.length_append, List.length_cons, List.length_nil]; omega) trivial rfl (fun A1 c1 w4 (hs4 : SH w w4 [] [.own A1 ((([5, ((ms.length : Nat) : Int)] : List Int) ++ ms).length) c1 3 1 ((([5, ((ms.length : Nat) : Int)] : List Int) ++ ms).map I)]) => ?_)
   refine q trivial rfl rfl (asg (v := .slice A1 ((([5, ((ms.length : Nat) : Int)] : List Int) ++ ms).length) c1) rfl) ?_
   refine q trivial rfl rfl (asg (v := .bool true) rfl) ?_
   refine nl ?_
   refine nN ?_
   refine rt ?_
   refine fret (v := .tuple #[.slice A1 ((([5, ((ms.length : Nat) : Int)] : List Int) ++ ms).length) c1, .bool true]) (.tmp (.tmp .nil)) rfl ?_
   have e5 : helloP ms = (([5, ((ms.length : Nat) : Int)] : List Int) ++ ms, true) := by simp [helloP, h3]
   have e6 : ([5, ((ms.length : Nat) : Int)] : List Int) ++ ms = (helloP ms).1 := by rw [e5]
   have e7 : (([5, ((ms.length : Nat) : Int)] : List Int) ++ ms).length = ((helloP ms).1).length := by exact congrArg List.length e6
   have e8 : true = (helloP ms).2 := by rw [e5]
   exact ⟨A1, c1, (tup2 (slv rfl e7 rfl) (congrArg (Value.bool) e8)), (hs4.cast (lc (own_eq (g := I) rfl e7 rfl e6) rfl))⟩

set_option maxHeartbeats 8000000 in
theorem iLoginBytes (lu : List UInt8) (lw : List UInt8) (w : World) (hlu_n : lu.length ≤ 2147483648) (hlw_n : lw.length ≤ 2147483648) : Does Tryd.prog 19 [.agg #[Str lu, Str lw]] w (fun v w' => ∃ Ar : Option Addr, ∃ cr : Nat, v = .tuple #[.slice Ar ((loginP lu lw).1).length cr, .bool ((loginP lu lw).2)] ∧ SH w w' [] [.own Ar (((loginP lu lw).1).length) cr 3 1 (((loginP lu lw).1).map I)]) := by
 refine fn_enter (N := 23) Tryd.func19 rfl (by kernel_rfl) rfl rfl rfl ?_
 have hs0 : SH w w [] [] := SH.refl w []
 refine sq ?_
 refine rg ?_
 refine bx (v := .agg #[Str lu, Str lw]) (cs := [Str lu, Str lw]) hs0 rfl rfl trivial rfl (fun b1 w1 (hs1 : SH w w1 [] [.blk b1 25 [Str lu, Str lw]]) => ?_)
 refine q trivial rfl rfl (asg (v := ns) rfl) ?_
 refine q trivial rfl rfl (asg (v := .bool false) rfl) ?_
 refine nl ?_
 refine nN ?_
 refine sq ?_
 refine sq ?_
 refine rg ?_
 refine q trivial rfl rfl (ldg (vs := [Str lu, Str lw]) hs1 0 rfl rfl rfl rfl ag25) ?_
 refine cl trivial rfl (iIsLogin (lu := lu) (lw := lw) (w := _) (hlu_n := (by first | omega | (simp; done) | (simp; omega))) (hlw_n := (by first | omega | (simp; done) | (simp; omega)))) ?_
 rintro _ w2 ⟨rfl, hs2'⟩
 have hs2 : SH w w2 [] [.blk b1 25 [Str lu, Str lw]] := hs1.call0 hs2'
 clear hs2'
 refine q trivial rfl rfl (nt (b := loginOk lu lw) rfl) ?_
 refine nl ?_
 refine nN ?_
 refine cd (b := !(loginOk lu lw)) rfl (fun h1 => ?_) (fun h1 => ?_)
 · have h2 : (loginOk lu lw) = false := by simpa using h1
   refine sq ?_
   refine rg ?_
   refine q trivial rfl rfl (asg (v := ns) rfl) ?_
   refine q trivial rfl rfl (asg (v := .bool false) rfl) ?_
   refine nl ?_
   refine nN ?_
   refine rt (tR ?_)
   refine fret (v := .tuple #[ns, .bool false]) (.tmp (.tmp .nil)) rfl ?_
   have hs3 : SH w w2 [] [.blk b1 25 [Str lu, Str lw], .own none (([] : List Int).length) 0 3 1 (([] : List Int).map I)] := SH.nils (by intro i hi; simp at hi; subst hi; exact nilItem) hs2
   have e1 : loginP lu lw = (([] : List Int), false) := by (try simp only [catH_cons, catH_nil, List.append_nil]); simp [loginP, h2]
   have e2 : ([] : List Int) = (loginP lu lw).1 := by rw [e1]
   have e3 : ([] : List Int).length = ((loginP lu lw).1).length := by exact congrArg List.length e2
   have e4 : false = (loginP lu lw).2 := by rw [e1]
   exact ⟨none, 0, (tup2 (slv rfl e3 rfl) (congrArg (Value.bool) e4)), ((hs3.pick [1] rfl (by decide)).cast (lc (own_eq (g := I) rfl e3 rfl e2) rfl))⟩
 · have h3 : (loginOk lu lw) = true := by simpa using h1
   refine sk ?_
   refine nN ?_
   refine sq ?_
   refine raJ (fun w' => ∃ L, SH w w' [] L ∧ (.blk b1 25 [Str lu, Str lw]) ∈ L ∧ True) (fun f w' => ∃ (b3' : Nat) (A6' : Option Addr) (c6' b10' : Nat) (A13' : Option Addr) (c13' b14' : Nat) (A15' : Option Addr) (c15' : Nat), Has f [(2, .slice A15' ((catH ([(⟨(some ⟨b3', 0, none⟩), 2, ([1, ((lu.length : Nat) : Int)] : List Int)⟩ : Hd), (⟨A6', c6', textI lu⟩ : Hd), (⟨(some ⟨b10', 0, none⟩), 1, ([((lw.length : Nat) : Int)] : List Int)⟩ : Hd), (⟨A13', c13', textI lw⟩ : Hd)] : List Hd)).length) c15'), (3, .bool true)] ∧ SH w w' [] [.blk b1 25 [Str lu, Str lw], oI b10' ([((lw.length : Nat) : Int)] : List Int) 1 3, .own A13' ((textI lw).length) c13' 3 1 ((textI lw).map I), .own (some ⟨b14', 0, none⟩) (([(⟨(some ⟨b3', 0, none⟩), 2, ([1, ((lu.length : Nat) : Int)] : List Int)⟩ : Hd), (⟨A6', c6', textI lu⟩ : Hd), (⟨(some ⟨b10', 0, none⟩), 1, ([((lw.length : Nat) : Int)] : List Int)⟩ : Hd), (⟨A13', c13', textI lw⟩ : Hd)] : List Hd).length) 4 23 1 (([(⟨(some ⟨b3', 0, none⟩), 2, ([1, ((lu.length : Nat) : Int)] : List Int)⟩ : Hd), (⟨A6', c6', textI lu⟩ : Hd), (⟨(some ⟨b10', 0, none⟩), 1, ([((lw.length : Nat) : Int)] : List Int)⟩ : Hd), (⟨A13', c13', textI lw⟩ : Hd)] : List Hd).map hv), .own A15' ((catH ([(⟨(some ⟨b3', 0, none⟩), 2, ([1, ((lu.length : Nat) : Int)] : List Int)⟩ : Hd), (⟨A6', c6', textI lu⟩ : Hd), (⟨(some ⟨b10', 0, none⟩), 1, ([((lw.length : Nat) : Int)] : List Int)⟩ : Hd), (⟨A13', c13', textI lw⟩ : Hd)] : List Hd)).length) c15' 3 1 ((catH ([(⟨(some ⟨b3', 0, none⟩), 2, ([1, ((lu.length : Nat) : Int)] : List Int)⟩ : Hd), (⟨A6', c6', textI lu⟩ : Hd), (⟨(some ⟨b10', 0, none⟩), 1, ([((lw.length : Nat) : Int)] : List Int)⟩ : Hd), (⟨A13', c13', textI lw⟩ : Hd)] : List Hd)).map I), oI b3' ([1, ((lu.length : Nat) : Int)] : List Int) 2 3, .own A6' ((textI lu).length) c6' 3 1 ((textI lu).map I)]) mixed ?_ ?_
   · refine dag (fuel' := 3) (listed' := lbits 18 32767) (fun f w' => ∃ (b3' : Nat) (A6' : Option Addr) (c6' b10' : Nat) (A13' : Option Addr) (c13' b14' : Nat), Has f [(2, ns), (3, .bool false), (21, sb b14' (([(⟨(some ⟨b3', 0, none⟩), 2, ([1, ((lu.length : Nat) : Int)] : List Int)⟩ : Hd), (⟨A6', c6', textI lu⟩ : Hd), (⟨(some ⟨b10', 0, none⟩), 1, ([((lw.length : Nat) : Int)] : List Int)⟩ : Hd), (⟨A13', c13', textI lw⟩ : Hd)] : List Hd).length) 4)] ∧ SH w w' [] [.blk b1 25 [Str lu, Str lw], oI b10' ([((lw.length : Nat) : Int)] : List Int) 1 3, .own A13' ((textI lw).length) c13' 3 1 ((textI lw).map I), .own (some ⟨b14', 0, none⟩) (([(⟨(some ⟨b3', 0, none⟩), 2, ([1, ((lu.length : Nat) : Int)] : List Int)⟩ : Hd), (⟨A6', c6', textI lu⟩ : Hd), (⟨(some ⟨b10', 0, none⟩), 1, ([((lw.length : Nat) : Int)] : List Int)⟩ : Hd), (⟨A13', c13', textI lw⟩ : Hd)] : List Hd).length) 4 23 1 (([(⟨(some ⟨b3', 0, none⟩), 2, ([1, ((lu.length : Nat) : Int)] : List Int)⟩ : Hd), (⟨A6', c6', textI lu⟩ : Hd), (⟨(some ⟨b10', 0, none⟩), 1, ([((lw.length : Nat) : Int)] : List Int)⟩ : Hd), (⟨A13', c13', textI lw⟩ : Hd)] : List Hd).map hv), oI b3' ([1, ((lu.length : Nat) : Int)] : List Int) 2 3, .own A6' ((textI lu).length) c6' 3 1 ((textI lu).map I)]) ?_ (fun D_3_0 => ?_)
     · rintro f w3 ⟨b3', A6', c6', b10', A13', c13', b14', hf, hs4⟩
       obtain ⟨g1, rfl⟩ := has_upd hf
       clear hf
       refine aaL [15] (fa_one ?_)
       refine one_ rfl ?_
       refine cl trivial rfl (slConcat (Ahs := (some ⟨b14', 0, none⟩)) (chs := 4) (hs := ([(⟨(some ⟨b3', 0, none⟩), 2, ([1, ((lu.length : Nat) : Int)] : List Int)⟩ : Hd), (⟨A6', c6', textI lu⟩ : Hd), (⟨(some ⟨b10', 0, none⟩), 1, ([((lw.length : Nat) : Int)] : List Int)⟩ : Hd), (⟨A13', c13', textI lw⟩ : Hd)] : List Hd)) (w := _) (hhs := (hs4.sl0 3 rfl)) (hhs_in := (fa_cons (hs4.sl0 4 rfl) (fa_cons (hs4.sl0 5 rfl) (fa_cons (hs4.sl0 1 rfl) (fa_cons (hs4.sl0 2 rfl) fa_nil))))) (hct := (by have hlf := loginOk_fit (by assumption); have htl := textI_len lu; have htw := textI_len lw; simp [catH]; omega))) ?_
       rintro _ w4 ⟨A15', c15', rfl, hs5'⟩
       have hs5 := hs4.call0 hs5'
       clear hs5'
       refine nl (kq ⟨_, hs5, memi 0 rfl, trivial⟩ ?_)
       refine tk (fuel := 0) (is := [16, 17]) (.cons rfl (.cons rfl (.nil))) (by kernel_rfl) (by kernel_rfl) ⟨_, hs5, memi 0 rfl, trivial⟩ ?_
       refine .op trivial rfl rfl (fun wq _ => asg (v := .slice A15' ((catH ([(⟨(some ⟨b3', 0, none⟩), 2, ([1, ((lu.length : Nat) : Int)] : List Int)⟩ : Hd), (⟨A6', c6', textI lu⟩ : Hd), (⟨(some ⟨b10', 0, none⟩), 1, ([((lw.length : Nat) : Int)] : List Int)⟩ : Hd), (⟨A13', c13', textI lw⟩ : Hd)] : List Hd)).length) c15') rfl) ?_
       refine .op trivial rfl rfl (fun wq _ => asg (v := .bool true) rfl) ?_
       refine .nil ?_
       refine ad (by kernel_rfl) ?_
       exact ⟨b3', A6', c6', b10', A13', c13', b14', A15', c15', ⟨rfl, rfl, trivial⟩, (hs5.pick [0, 1, 2, 3, 6, 4, 5] rfl (by decide))⟩
     refine dag (fuel' := 4) (listed' := lbits 18 16383) (fun f w' => ∃ (b3' : Nat) (A6' : Option Addr) (c6' b10' : Nat) (A13' : Option Addr) (c13' : Nat), Has f [(2, ns), (3, .bool false), (10, sb b3' (([1, ((lu.length : Nat) : Int)] : List Int).length) 2), (13, .slice A6' ((textI lu).length) c6'), (17, sb b10' (([((lw.length : Nat) : Int)] : List Int).length) 1), (20, .slice A13' ((textI lw).length) c13')] ∧ SH w w' [] [.blk b1 25 [Str lu, Str lw], oI b10' ([((lw.length : Nat) : Int)] : List Int) 1 3, .own A13' ((textI lw).length) c13' 3 1 ((textI lw).map I), oI b3' ([1, ((lu.length : Nat) : Int)] : List Int) 2 3, .own A6' ((textI lu).length) c6' 3 1 ((textI lu).map I)]) ?_ (fun D_3_1 => ?_)
     · rintro f w5 ⟨b3', A6', c6', b10', A13', c13', hf, hs6⟩
       obtain ⟨g2, rfl⟩ := has_upd hf
       clear hf
       refine aaL [14] (fa_one ?_)
       refine one_ rfl ?_
       refine bsk hs6 sl74 [sb b3' (([1, ((lu.length : Nat) : Int)] : List Int).length) 2, .slice A6' ((textI lu).length) c6', sb b10' (([((lw.length : Nat) : Int)] : List Int).length) 1, .slice A13' ((textI lw).length) c13'] [sb b3' (([1, ((lu.length : Nat) : Int)] : List Int).length) 2, .slice A6' ((textI lu).length) c6', sb b10' (([((lw.length : Nat) : Int)] : List Int).length) 1, .slice A13' ((textI lw).length) c13'] trivial rfl (fun b14' w6 hs7 => ?_)
       exact nl (kq ⟨_, hs7, memi 0 rfl, trivial⟩ (alc D_3_0 ⟨b3', A6', c6', b10', A13', c13', b14', ⟨rfl, rfl, rfl, trivial⟩, (hs7.pick [0, 1, 2, 5, 3, 4] rfl (by decide))⟩))
     refine dag (fuel' := 5) (listed' := lbits 18 8191) (fun f w' => ∃ (b3' : Nat) (A6' : Option Addr) (c6' b10' : Nat), Has f [(2, ns), (3, .bool false), (10, sb b3' (([1, ((lu.length : Nat) : Int)] : List Int).length) 2), (13, .slice A6' ((textI lu).length) c6'), (17, sb b10' (([((lw.length : Nat) : Int)] : List Int).length) 1), (19, Str lw)] ∧ SH w w' [] [.blk b1 25 [Str lu, Str lw], oI b10' ([((lw.length : Nat) : Int)] : List Int) 1 3, oI b3' ([1, ((lu.length : Nat) : Int)] : List Int) 2 3, .own A6' ((textI lu).length) c6' 3 1 ((textI lu).map I)]) ?_ (fun D_3_2 => ?_)
     · rintro f w7 ⟨b3', A6', c6', b10', hf, hs8⟩
       obtain ⟨g3, rfl⟩ := has_upd hf
       clear hf
       refine aaL [13] (fa_one ?_)
       refine one_ rfl ?_
       refine cl trivial rfl (iTextBytes (s := lw) (w := _) (hs_n := (by first | omega | (simp; done) | (simp; omega)))) ?_
       rintro _ w8 ⟨A13', c13', rfl, hs9'⟩
       have hs9 := hs8.call0 hs9'
       clear hs9'
       exact nl (kq ⟨_, hs9, memi 0 rfl, trivial⟩ (alc D_3_1 ⟨b3', A6', c6', b10', A13', c13', ⟨rfl, rfl, rfl, rfl, rfl, rfl, trivial⟩, (hs9.pick [0, 1, 4, 2, 3] rfl (by decide))⟩))
     refine dag (fuel' := 5) (listed' := lbits 18 15359) (fun f w' => ∃ (b3' : Nat) (A6' : Option Addr) (c6' : Nat) (A13' : Option Addr) (c13' : Nat), Has f [(2, ns), (3, .bool false), (10, sb b3' (([1, ((lu.length : Nat) : Int)] : List Int).length) 2), (13, .slice A6' ((textI lu).length) c6'), (16, I ((lw.length : Nat) : Int)), (20, .slice A13' ((textI lw).length) c13')] ∧ SH w w' [] [.blk b1 25 [Str lu, Str lw], .own A13' ((textI lw).length) c13' 3 1 ((textI lw).map I), oI b3' ([1, ((lu.length : Nat) : Int)] : List Int) 2 3, .own A6' ((textI lu).length) c6' 3 1 ((textI lu).map I)]) ?_ (fun D_3_3 => ?_)
     · rintro f w9 ⟨b3', A6', c6', A13', c13', hf, hs10⟩
       obtain ⟨g4, rfl⟩ := has_upd hf
       clear hf
       refine aaL [10] (fa_one ?_)
       refine one_ rfl ?_
       refine bsk hs10 sl23 [I ((lw.length : Nat) : Int)] [I ((lw.length : Nat) : Int)] trivial rfl (fun b10' w10 hs11 => ?_)
       exact nl (kq ⟨_, hs11, memi 0 rfl, trivial⟩ (alc D_3_1 ⟨b3', A6', c6', b10', A13', c13', ⟨rfl, rfl, rfl, rfl, rfl, rfl, trivial⟩, (hs11.pick [0, 4, 1, 2, 3] rfl (by decide))⟩))
     refine dag (fuel' := 5) (listed' := lbits 18 16375) (fun f w' => ∃ (A6' : Option Addr) (c6' b10' : Nat) (A13' : Option Addr) (c13' : Nat), Has f [(2, ns), (3, .bool false), (9, I ((lu.length : Nat) : Int)), (13, .slice A6' ((textI lu).length) c6'), (17, sb b10' (([((lw.length : Nat) : Int)] : List Int).length) 1), (20, .slice A13' ((textI lw).length) c13')] ∧ SH w w' [] [.blk b1 25 [Str lu, Str lw], oI b10' ([((lw.length : Nat) : Int)] : List Int) 1 3, .own A13' ((textI lw).length) c13' 3 1 ((textI lw).map I), .own A6' ((textI lu).length) c6' 3 1 ((textI lu).map I)]) ?_ (fun D_3_4 => ?_)
     · rintro f w11 ⟨A6', c6', b10', A13', c13', hf, hs12⟩
       obtain ⟨g5, rfl⟩ := has_upd hf
       clear hf
       refine aaL [3] (fa_one ?_)
       refine one_ rfl ?_
       refine bsk hs12 sl23 [I 1, I ((lu.length : Nat) : Int)] [I 1, I ((lu.length : Nat) : Int)] trivial rfl (fun b3' w12 hs13 => ?_)
       exact nl (kq ⟨_, hs13, memi 0 rfl, trivial⟩ (alc D_3_1 ⟨b3', A6', c6', b10', A13', c13', ⟨rfl, rfl, rfl, rfl, rfl, rfl, trivial⟩, (hs13.pick [0, 1, 2, 4, 3] rfl (by decide))⟩))
     refine dag (fuel' := 6) (listed' := lbits 18 7167) (fun f w' => ∃ (b3' : Nat) (A6' : Option Addr) (c6' : Nat), Has f [(2, ns), (3, .bool false), (10, sb b3' (([1, ((lu.length : Nat) : Int)] : List Int).length) 2), (13, .slice A6' ((textI lu).length) c6'), (16, I ((lw.length : Nat) : Int)), (19, Str lw)] ∧ SH w w' [] [.blk b1 25 [Str lu, Str lw], oI b3' ([1, ((lu.length : Nat) : Int)] : List Int) 2 3, .own A6' ((textI lu).length) c6' 3 1 ((textI lu).map I)]) ?_ (fun D_3_5 => ?_)
     · rintro f w13 ⟨b3', A6', c6', hf, hs14⟩
       obtain ⟨g6, rfl⟩ := has_upd hf
       clear hf
       refine aaL [10, 13] (fa_cons ?_ (fa_one ?_))
       · refine one_ rfl ?_
         refine bsk hs14 sl23 [I ((lw.length : Nat) : Int)] [I ((lw.length : Nat) : Int)] trivial rfl (fun b10' w14 hs15 => ?_)
         exact nl (kq ⟨_, hs15, memi 0 rfl, trivial⟩ (alc D_3_2 ⟨b3', A6', c6', b10', ⟨rfl, rfl, rfl, rfl, rfl, rfl, trivial⟩, (hs15.pick [0, 3, 1, 2] rfl (by decide))⟩))
       · refine one_ rfl ?_
         refine cl trivial rfl (iTextBytes (s := lw) (w := _) (hs_n := (by first | omega | (simp; done) | (simp; omega)))) ?_
         rintro _ w15 ⟨A13', c13', rfl, hs16'⟩
         have hs16 := hs14.call0 hs16'
         clear hs16'
         exact nl (kq ⟨_, hs16, memi 0 rfl, trivial⟩ (alc D_3_3 ⟨b3', A6', c6', A13', c13', ⟨rfl, rfl, rfl, rfl, rfl, rfl, trivial⟩, (hs16.pick [0, 3, 1, 2] rfl (by decide))⟩))
     refine dag (fuel' := 6) (listed' := lbits 18 8127) (fun f w' => ∃ (b3' b10' : Nat), Has f [(2, ns), (3, .bool false), (10, sb b3' (([1, ((lu.length : Nat) : Int)] : List Int).length) 2), (12, Str lu), (17, sb b10' (([((lw.length : Nat) : Int)] : List Int).length) 1), (19, Str lw)] ∧ SH w w' [] [.blk b1 25 [Str lu, Str lw], oI b10' ([((lw.length : Nat) : Int)] : List Int) 1 3, oI b3' ([1, ((lu.length : Nat) : Int)] : List Int) 2 3]) ?_ (fun D_3_6 => ?_)
     · rintro f w16 ⟨b3', b10', hf, hs17⟩
       obtain ⟨g7, rfl⟩ := has_upd hf
       clear hf
       refine aaL [6] (fa_one ?_)
       refine one_ rfl ?_
       refine cl trivial rfl (iTextBytes (s := lu) (w := _) (hs_n := (by first | omega | (simp; done) | (simp; omega)))) ?_
       rintro _ w17 ⟨A6', c6', rfl, hs18'⟩
       have hs18 := hs17.call0 hs18'
       clear hs18'
       exact nl (kq ⟨_, hs18, memi 0 rfl, trivial⟩ (alc D_3_2 ⟨b3', A6', c6', b10', ⟨rfl, rfl, rfl, rfl, rfl, rfl, trivial⟩, hs18⟩))
     refine dag (fuel' := 6) (listed' := lbits 18 8183) (fun f w' => ∃ (A6' : Option Addr) (c6' b10' : Nat), Has f [(2, ns), (3, .bool false), (9, I ((lu.length : Nat) : Int)), (13, .slice A6' ((textI lu).length) c6'), (17, sb b10' (([((lw.length : Nat) : Int)] : List Int).length) 1), (19, Str lw)] ∧ SH w w' [] [.blk b1 25 [Str lu, Str lw], oI b10' ([((lw.length : Nat) : Int)] : List Int) 1 3, .own A6' ((textI lu).length) c6' 3 1 ((textI lu).map I)]) ?_ (fun D_3_7 => ?_)
     · rintro f w18 ⟨A6', c6', b10', hf, hs19⟩
       obtain ⟨g8, rfl⟩ := has_upd hf
       clear hf
       refine aaL [3, 13] (fa_cons ?_ (fa_one ?_))
       · refine one_ rfl ?_
         refine bsk hs19 sl23 [I 1, I ((lu.length : Nat) : Int)] [I 1, I ((lu.length : Nat) : Int)] trivial rfl (fun b3' w19 hs20 => ?_)
         exact nl (kq ⟨_, hs20, memi 0 rfl, trivial⟩ (alc D_3_2 ⟨b3', A6', c6', b10', ⟨rfl, rfl, rfl, rfl, rfl, rfl, trivial⟩, (hs20.pick [0, 1, 3, 2] rfl (by decide))⟩))
       · refine one_ rfl ?_
         refine cl trivial rfl (iTextBytes (s := lw) (w := _) (hs_n := (by first | omega | (simp; done) | (simp; omega)))) ?_
         rintro _ w20 ⟨A13', c13', rfl, hs21'⟩
         have hs21 := hs19.call0 hs21'
         clear hs21'
         exact nl (kq ⟨_, hs21, memi 0 rfl, trivial⟩ (alc D_3_4 ⟨A6', c6', b10', A13', c13', ⟨rfl, rfl, rfl, rfl, rfl, rfl, trivial⟩, (hs21.pick [0, 1, 3, 2] rfl (by decide))⟩))
     refine dag (fuel' := 6) (listed' := lbits 18 15351) (fun f w' => ∃ (A6' : Option Addr) (c6' : Nat) (A13' : Option Addr) (c13' : Nat), Has f [(2, ns), (3, .bool false), (9, I ((lu.length : Nat) : Int)), (13, .slice A6' ((textI lu).length) c6'), (16, I ((lw.length : Nat) : Int)), (20, .slice A13' ((textI lw).length) c13')] ∧ SH w w' [] [.blk b1 25 [Str lu, Str lw], .own A13' ((textI lw).length) c13' 3 1 ((textI lw).map I), .own A6' ((textI lu).length) c6' 3 1 ((textI lu).map I)]) ?_ (fun D_3_8 => ?_)
     · rintro f w21 ⟨A6', c6', A13', c13', hf, hs22⟩
       obtain ⟨g9, rfl⟩ := has_upd hf
       clear hf
       refine aaL [3, 10] (fa_cons ?_ (fa_one ?_))
       · refine one_ rfl ?_
         refine bsk hs22 sl23 [I 1, I ((lu.length : Nat) : Int)] [I 1, I ((lu.length : Nat) : Int)] trivial rfl (fun b3' w22 hs23 => ?_)
         exact nl (kq ⟨_, hs23, memi 0 rfl, trivial⟩ (alc D_3_3 ⟨b3', A6', c6', A13', c13', ⟨rfl, rfl, rfl, rfl, rfl, rfl, trivial⟩, (hs23.pick [0, 1, 3, 2] rfl (by decide))⟩))
       · refine one_ rfl ?_
         refine bsk hs22 sl23 [I ((lw.length : Nat) : Int)] [I ((lw.length : Nat) : Int)] trivial rfl (fun b10' w23 hs24 => ?_)
         exact nl (kq ⟨_, hs24, memi 0 rfl, trivial⟩ (alc D_3_4 ⟨A6', c6', b10', A13', c13', ⟨rfl, rfl, rfl, rfl, rfl, rfl, trivial⟩, (hs24.pick [0, 3, 1, 2] rfl (by decide))⟩))
     refine dag (fuel' := 7) (listed' := lbits 18 7103) (fun f w' => ∃ (b3' : Nat), Has f [(2, ns), (3, .bool false), (10, sb b3' (([1, ((lu.length : Nat) : Int)] : List Int).length) 2), (12, Str lu), (16, I ((lw.length : Nat) : Int)), (19, Str lw)] ∧ SH w w' [] [.blk b1 25 [Str lu, Str lw], oI b3' ([1, ((lu.length : Nat) : Int)] : List Int) 2 3]) ?_ (fun D_3_9 => ?_)
     · rintro f w24 ⟨b3', hf, hs25⟩
       obtain ⟨g10, rfl⟩ := has_upd hf
       clear hf
       refine aaL [6, 10] (fa_cons ?_ (fa_one ?_))
       · refine one_ rfl ?_
         refine cl trivial rfl (iTextBytes (s := lu) (w := _) (hs_n := (by first | omega | (simp; done) | (simp; omega)))) ?_
         rintro _ w25 ⟨A6', c6', rfl, hs26'⟩
         have hs26 := hs25.call0 hs26'
         clear hs26'
         exact nl (kq ⟨_, hs26, memi 0 rfl, trivial⟩ (alc D_3_5 ⟨b3', A6', c6', ⟨rfl, rfl, rfl, rfl, rfl, rfl, trivial⟩, hs26⟩))
       · refine one_ rfl ?_
         refine bsk hs25 sl23 [I ((lw.length : Nat) : Int)] [I ((lw.length : Nat) : Int)] trivial rfl (fun b10' w26 hs27 => ?_)
         exact nl (kq ⟨_, hs27, memi 0 rfl, trivial⟩ (alc D_3_6 ⟨b3', b10', ⟨rfl, rfl, rfl, rfl, rfl, rfl, trivial⟩, (hs27.pick [0, 2, 1] rfl (by decide))⟩))
     refine dag (fuel' := 7) (listed' := lbits 18 7159) (fun f w' => ∃ (A6' : Option Addr) (c6' : Nat), Has f [(2, ns), (3, .bool false), (9, I ((lu.length : Nat) : Int)), (13, .slice A6' ((textI lu).length) c6'), (16, I ((lw.length : Nat) : Int)), (19, Str lw)] ∧ SH w w' [] [.blk b1 25 [Str lu, Str lw], .own A6' ((textI lu).length) c6' 3 1 ((textI lu).map I)]) ?_ (fun D_3_10 => ?_)
     · rintro f w27 ⟨A6', c6', hf, hs28⟩
       obtain ⟨g11, rfl⟩ := has_upd hf
       clear hf
       refine aaL [3, 10, 13] (fa_cons ?_ (fa_cons ?_ (fa_one ?_)))
       · refine one_ rfl ?_
         refine bsk hs28 sl23 [I 1, I ((lu.length : Nat) : Int)] [I 1, I ((lu.length : Nat) : Int)] trivial rfl (fun b3' w28 hs29 => ?_)
         exact nl (kq ⟨_, hs29, memi 0 rfl, trivial⟩ (alc D_3_5 ⟨b3', A6', c6', ⟨rfl, rfl, rfl, rfl, rfl, rfl, trivial⟩, (hs29.pick [0, 2, 1] rfl (by decide))⟩))
       · refine one_ rfl ?_
         refine bsk hs28 sl23 [I ((lw.length : Nat) : Int)] [I ((lw.length : Nat) : Int)] trivial rfl (fun b10' w29 hs30 => ?_)
         exact nl (kq ⟨_, hs30, memi 0 rfl, trivial⟩ (alc D_3_7 ⟨A6', c6', b10', ⟨rfl, rfl, rfl, rfl, rfl, rfl, trivial⟩, (hs30.pick [0, 2, 1] rfl (by decide))⟩))
       · refine one_ rfl ?_
         refine cl trivial rfl (iTextBytes (s := lw) (w := _) (hs_n := (by first | omega | (simp; done) | (simp; omega)))) ?_
         rintro _ w30 ⟨A13', c13', rfl, hs31'⟩
         have hs31 := hs28.call0 hs31'
         clear hs31'
         exact nl (kq ⟨_, hs31, memi 0 rfl, trivial⟩ (alc D_3_8 ⟨A6', c6', A13', c13', ⟨rfl, rfl, rfl, rfl, rfl, rfl, trivial⟩, (hs31.pick [0, 2, 1] rfl (by decide))⟩))
     refine dag (fuel' := 7) (listed' := lbits 18 8119) (fun f w' => ∃ (b10' : Nat), Has f [(2, ns), (3, .bool false), (9, I ((lu.length : Nat) : Int)), (12, Str lu), (17, sb b10' (([((lw.length : Nat) : Int)] : List Int).length) 1), (19, Str lw)] ∧ SH w w' [] [.blk b1 25 [Str lu, Str lw], oI b10' ([((lw.length : Nat) : Int)] : List Int) 1 3]) ?_ (fun D_3_11 => ?_)
     · rintro f w31 ⟨b10', hf, hs32⟩
       obtain ⟨g12, rfl⟩ := has_upd hf
       clear hf
       refine aaL [3, 6] (fa_cons ?_ (fa_one ?_))
       · refine one_ rfl ?_
         refine bsk hs32 sl23 [I 1, I ((lu.length : Nat) : Int)] [I 1, I ((lu.length : Nat) : Int)] trivial rfl (fun b3' w32 hs33 => ?_)
         exact nl (kq ⟨_, hs33, memi 0 rfl, trivial⟩ (alc D_3_6 ⟨b3', b10', ⟨rfl, rfl, rfl, rfl, rfl, rfl, trivial⟩, hs33⟩))
       · refine one_ rfl ?_
         refine cl trivial rfl (iTextBytes (s := lu) (w := _) (hs_n := (by first | omega | (simp; done) | (simp; omega)))) ?_
         rintro _ w33 ⟨A6', c6', rfl, hs34'⟩
         have hs34 := hs32.call0 hs34'
         clear hs34'
         exact nl (kq ⟨_, hs34, memi 0 rfl, trivial⟩ (alc D_3_7 ⟨A6', c6', b10', ⟨rfl, rfl, rfl, rfl, rfl, rfl, trivial⟩, hs34⟩))
     refine dag (fuel' := 8) (listed' := lbits 18 7095) (fun f w' => Has f [(2, ns), (3, .bool false), (9, I ((lu.length : Nat) : Int)), (12, Str lu), (16, I ((lw.length : Nat) : Int)), (19, Str lw)] ∧ SH w w' [] [.blk b1 25 [Str lu, Str lw]]) ?_ (fun D_3_12 => ?_)
     · rintro f w34 ⟨hf, hs35⟩
       obtain ⟨g13, rfl⟩ := has_upd hf
       clear hf
       refine aaL [3, 6, 10] (fa_cons ?_ (fa_cons ?_ (fa_one ?_)))
       · refine one_ rfl ?_
         refine bsk hs35 sl23 [I 1, I ((lu.length : Nat) : Int)] [I 1, I ((lu.length : Nat) : Int)] trivial rfl (fun b3' w35 hs36 => ?_)
         exact nl (kq ⟨_, hs36, memi 0 rfl, trivial⟩ (alc D_3_9 ⟨b3', ⟨rfl, rfl, rfl, rfl, rfl, rfl, trivial⟩, hs36⟩))
       · refine one_ rfl ?_
         refine cl trivial rfl (iTextBytes (s := lu) (w := _) (hs_n := (by first | omega | (simp; done) | (simp; omega)))) ?_
         rintro _ w36 ⟨A6', c6', rfl, hs37'⟩
         have hs37 := hs35.call0 hs37'
         clear hs37'
         exact nl (kq ⟨_, hs37, memi 0 rfl, trivial⟩ (alc D_3_10 ⟨A6', c6', ⟨rfl, rfl, rfl, rfl, rfl, rfl, trivial⟩, hs37⟩))
       · refine one_ rfl ?_
         refine bsk hs35 sl23 [I ((lw.length : Nat) : Int)] [I ((lw.length : Nat) : Int)] trivial rfl (fun b10' w37 hs38 => ?_)
         exact nl (kq ⟨_, hs38, memi 0 rfl, trivial⟩ (alc D_3_11 ⟨b10', ⟨rfl, rfl, rfl, rfl, rfl, rfl, trivial⟩, hs38⟩))
     have hs39 := hs2.drew
     refine tk (fuel := 8) (is := [0, 1, 2, 4, 5, 7, 8, 9, 11, 12]) (.cons rfl (.cons rfl (.cons rfl (.cons rfl (.cons rfl (.cons rfl (.cons rfl (.cons rfl (.cons rfl (.cons rfl (.nil))))))))))) (by kernel_rfl) (by kernel_rfl) ⟨_, hs39, memi 0 rfl, trivial⟩ ?_
     refine .op trivial rfl rfl (fun wq _ => fa 0 fo25_0 rfl) ?_
     refine .op trivial rfl rfl (fun wq ⟨Lq, hsq, mh0, _⟩ => ldm (v := Str lu) hsq mh0 rfl rfl one9) ?_
     refine .op trivial rfl rfl (fun wq _ => lnS (l := lu) st9 rfl) ?_
     refine .op trivial rfl rfl (fun wq _ => fa 0 fo25_0 rfl) ?_
     refine .op trivial rfl rfl (fun wq ⟨Lq, hsq, mh0, _⟩ => ldm (v := Str lu) hsq mh0 rfl rfl one9) ?_
     refine .op trivial rfl rfl (fun wq _ => fa 1 fo25_1 rfl) ?_
     refine .op trivial rfl rfl (fun wq ⟨Lq, hsq, mh0, _⟩ => ldm (v := Str lw) hsq mh0 rfl rfl one9) ?_
     refine .op trivial rfl rfl (fun wq _ => lnS (l := lw) st9 rfl) ?_
     refine .op trivial rfl rfl (fun wq _ => fa 1 fo25_1 rfl) ?_
     refine .op trivial rfl rfl (fun wq ⟨Lq, hsq, mh0, _⟩ => ldm (v := Str lw) hsq mh0 rfl rfl one9) ?_
     refine .nil ?_
     exact alc D_3_12 ⟨⟨rfl, rfl, rfl, rfl, rfl, rfl, trivial⟩, hs39⟩
   rintro f w38 ⟨b3', A6', c6', b10', A13', c13', b14', A15', c15', hf, hs40⟩
   obtain ⟨g14, rfl⟩ := has_upd hf
   clear hf
   refine nN ?_
   have hs41 : SH w w38 [] [.own A15' ((catH ([(⟨(some ⟨b3', 0, none⟩), 2, ([1, ((lu.length : Nat) : Int)] : List Int)⟩ : Hd), (⟨A6', c6', textI lu⟩ : Hd), (⟨(some ⟨b10', 0, none⟩), 1, ([((lw.length : Nat) : Int)] : List Int)⟩ : Hd), (⟨A13', c13', textI lw⟩ : Hd)] : List Hd)).length) c15' 3 1 ((catH ([(⟨(some ⟨b3', 0, none⟩), 2, ([1, ((lu.length : Nat) : Int)] : List Int)⟩ : Hd), (⟨A6', c6', textI lu⟩ : Hd), (⟨(some ⟨b10', 0, none⟩), 1, ([((lw.length : Nat) : Int)] : List Int)⟩ : Hd), (⟨A13', c13', textI lw⟩ : Hd)] : List Hd)).map I)] := hs40.pick [4] rfl (by decide)
   refine rt ?_
   refine fret (v := .tuple #[.slice A15' ((catH ([(⟨(some ⟨b3', 0, none⟩), 2, ([1, ((lu.length : Nat) : Int)] : List Int)⟩ : Hd), (⟨A6', c6', textI lu⟩ : Hd), (⟨(some ⟨b10', 0, none⟩), 1, ([((lw.length : Nat) : Int)] : List Int)⟩ : Hd), (⟨A13', c13', textI lw⟩ : Hd)] : List Hd)).length) c15', .bool true]) (.tmp (.tmp .nil)) rfl ?_
   have e5 : loginP lu lw = (catH ([(⟨(some ⟨b3', 0, none⟩), 2, ([1, ((lu.length : Nat) : Int)] : List Int)⟩ : Hd), (⟨A6', c6', textI lu⟩ : Hd), (⟨(some ⟨b10', 0, none⟩), 1, ([((lw.length : Nat) : Int)] : List Int)⟩ : Hd), (⟨A13', c13', textI lw⟩ : Hd)] : List Hd), true) := by (try simp only [catH_cons, catH_nil, List.append_nil]); simp [loginP, h3]
   have e6 : catH ([(⟨(some ⟨b3', 0, none⟩), 2, ([1, ((lu.length : Nat) : Int)] : List Int)⟩ : Hd), (⟨A6', c6', textI lu⟩ : Hd), (⟨(some ⟨b10', 0, none⟩), 1, ([((lw.length : Nat) : Int)] : List Int)⟩ : Hd), (⟨A13', c13', textI lw⟩ : Hd)] : List Hd) = (loginP lu lw).1 := by rw [e5]
   have e7 : (catH ([(⟨(some ⟨b3', 0, none⟩), 2, ([1, ((lu.length : Nat) : Int)] : List Int)⟩ : Hd), (⟨A6', c6', textI lu⟩ : Hd), (⟨(some ⟨b10', 0, none⟩), 1, ([((lw.length : Nat) : Int)] : List Int)⟩ : Hd), (⟨A13', c13', textI lw⟩ : Hd)] : List Hd)).length = ((loginP lu lw).1).length := by exact congrArg List.length e6
   have e8 : true = (loginP lu lw).2 := by rw [e5]
   exact ⟨A15', c15', (tup2 (slv rfl e7 rfl) (congrArg (Value.bool) e8)), (hs41.cast (lc (own_eq (g := I) rfl e7 rfl e6) rfl))⟩

set_option maxHeartbeats 8000000 in
theorem sLoginBytes (lu : List UInt8) (lw : List UInt8) (w : World) (hlu_n : lu.length ≤ 2147483648) (hlw_n : lw.length ≤ 2147483648) : Does Tryd.prog 45 [.agg #[Str lu, Str lw]] w (fun v w' => ∃ Ar : Option Addr, ∃ cr : Nat, v = .tuple #[.slice Ar ((loginP lu lw).1).length cr, .bool ((loginP lu lw).2)] ∧ SH w w' [] [.own Ar (((loginP lu lw).1).length) cr 3 1 (((loginP lu lw).1).map I)]) := by
 refine fn_enter (N := 28) Tryd.func45 rfl (by kernel_rfl) rfl rfl rfl ?_
 have hs0 : SH w w [] [] := SH.refl w []
 refine sq ?_
 refine rg ?_
 refine bx (v := .agg #[Str lu, Str lw]) (cs := [Str lu, Str lw]) hs0 rfl rfl trivial rfl (fun b1 w1 (hs1 : SH w w1 [] [.blk b1 25 [Str lu, Str lw]]) => ?_)
 refine q trivial rfl rfl (asg (v := ns) rfl) ?_
 refine q trivial rfl rfl (asg (v := .bool false) rfl) ?_
 refine nl ?_
 refine nN ?_
 refine sq ?_
 refine sq ?_
 refine rg ?_
 refine q trivial rfl rfl (ldg (vs := [Str lu, Str lw]) hs1 0 rfl rfl rfl rfl ag25) ?_
 refine cl trivial rfl (sL11Ok (lu := lu) (lw := lw) (w := _) (hlu_n := (by first | omega | (simp; done) | (simp; omega))) (hlw_n := (by first | omega | (simp; done) | (simp; omega)))) ?_
 rintro _ w2 ⟨rfl, hs2'⟩
 have hs2 : SH w w2 [] [.blk b1 25 [Str lu, Str lw]] := hs1.call0 hs2'
 clear hs2'
 refine q trivial rfl rfl (nt (b := loginOk lu lw) rfl) ?_
 refine nl ?_
 refine nN ?_
 refine cd (b := !(loginOk lu lw)) rfl (fun h1 => ?_) (fun h1 => ?_)
 · have h2 : (loginOk lu lw) = false := by simpa using h1
   refine sq ?_
   refine rg ?_
   refine bsk hs2 sl23 [] [] trivial rfl (fun b2 w3 (hs3 : SH w w3 [] [.blk b1 25 [Str lu, Str lw], oI b2 ([] : List Int) 0 3]) => ?_)
   refine q trivial rfl rfl (asg (v := sb b2 (([] : List Int).length) 0) rfl) ?_
   refine q trivial rfl rfl (asg (v := .bool false) rfl) ?_
   refine nl ?_
   refine nN ?_
   refine rt (tR ?_)
   refine fret (v := .tuple #[sb b2 (([] : List Int).length) 0, .bool false]) (.tmp (.tmp .nil)) rfl ?_
   have e1 : loginP lu lw = (([] : List Int), false) := by (try simp only [catH_cons, catH_nil, List.append_nil]); simp [loginP, h2]
   have e2 : ([] : List Int) = (loginP lu lw).1 := by rw [e1]
   have e3 : ([] : List Int).length = ((loginP lu lw).1).length := by exact congrArg List.length e2
   have e4 : false = (loginP lu lw).2 := by rw [e1]
   exact ⟨(some ⟨b2, 0, none⟩), 0, (tup2 (slv rfl e3 rfl) (congrArg (Value.bool) e4)), ((hs3.pick [1] rfl (by decide)).cast (lc (own_eq (g := I) rfl e3 rfl e2) rfl))⟩
 · have h3 : (loginOk lu lw) = true := by simpa using h1
   refine sk ?_
   refine nN ?_
   refine sq ?_
   refine raJ (fun w' => ∃ L, SH w w' [] L ∧ (.blk b1 25 [Str lu, Str lw]) ∈ L ∧ True) (fun f w' => ∃ (A6' : Option Addr) (c6' : Nat) (A7' : Option Addr) (c7' : Nat), Has f [(1, pb b1), (4, .slice A7' ((([1, ((lu.length : Nat) : Int)] : List Int) ++ (textI lu)).length) c7')] ∧ SH w w' [] [.blk b1 25 [Str lu, Str lw], .own A7' ((([1, ((lu.length : Nat) : Int)] : List Int) ++ (textI lu)).length) c7' 3 1 ((([1, ((lu.length : Nat) : Int)] : List Int) ++ (textI lu)).map I), .own A6' ((textI lu).length) c6' 3 1 ((textI lu).map I)]) mixed ?_ ?_
   · refine dag (fuel' := 2) (listed' := lbits 9 127) (fun f w' => ∃ (b3' : Nat) (A6' : Option Addr) (c6' : Nat), Has f [(1, pb b1), (12, sb b3' (([1, ((lu.length : Nat) : Int)] : List Int).length) 2), (15, .slice A6' ((textI lu).length) c6')] ∧ SH w w' [] [.blk b1 25 [Str lu, Str lw], oI b3' ([1, ((lu.length : Nat) : Int)] : List Int) 2 3, .own A6' ((textI lu).length) c6' 3 1 ((textI lu).map I)]) ?_ (fun D_3_0 => ?_)
     · rintro f w4 ⟨b3', A6', c6', hf, hs4⟩
       obtain ⟨g1, rfl⟩ := has_upd hf
       clear hf
       refine aaL [7] (fa_one ?_)
       refine one_ rfl ?_
       refine apm (g := I) (ys := ([1, ((lu.length : Nat) : Int)] : List Int)) (zs := textI lu) hs4 1 rfl sl23 rfl rfl rfl (hs4.sl0 2 rfl) (fun _ => rfl) (by unfold maxLen; have hlf := loginOk_fit (by assumption); have htl := textI_len lu; have htw := textI_len lw; simp only [List.length_append, List.length_cons, List.length_nil]; omega) (by have hlf := loginOk_fit (by assumption); have htl := textI_len lu; have htw := textI_len lw; simp only [List.length_append, List.length_cons, List.length_nil]; omega) trivial rfl (fun A7' c7' w5 hs5 => ?_)
       refine nl (kq ⟨_, hs5, memi 0 rfl, trivial⟩ ?_)
       refine tk (fuel := 0) (is := [8]) (.cons rfl (.nil)) (by kernel_rfl) (by kernel_rfl) ⟨_, hs5, memi 0 rfl, trivial⟩ ?_
       refine .op trivial rfl rfl (fun wq _ => asg (v := .slice A7' ((([1, ((lu.length : Nat) : Int)] : List Int) ++ (textI lu)).length) c7') rfl) ?_
       refine .nil ?_
       refine ad (by kernel_rfl) ?_
       exact ⟨A6', c6', A7', c7', ⟨rfl, rfl, trivial⟩, (hs5.pick [0, 2, 1] rfl (by decide))⟩
     refine dag (fuel' := 3) (listed' := lbits 9 63) (fun f w' => ∃ (b3' : Nat), Has f [(1, pb b1), (12, sb b3' (([1, ((lu.length : Nat) : Int)] : List Int).length) 2), (14, Str lu)] ∧ SH w w' [] [.blk b1 25 [Str lu, Str lw], oI b3' ([1, ((lu.length : Nat) : Int)] : List Int) 2 3]) ?_ (fun D_3_1 => ?_)
     · rintro f w6 ⟨b3', hf, hs6⟩
       obtain ⟨g2, rfl⟩ := has_upd hf
       clear hf
       refine aaL [6] (fa_one ?_)
       refine one_ rfl ?_
       refine cl trivial rfl (sL1Text (s := lu) (w := _) (hs_n := (by first | omega | (simp; done) | (simp; omega)))) ?_
       rintro _ w7 ⟨A6', c6', rfl, hs7'⟩
       have hs7 := hs6.call0 hs7'
       clear hs7'
       exact nl (kq ⟨_, hs7, memi 0 rfl, trivial⟩ (alc D_3_0 ⟨b3', A6', c6', ⟨rfl, rfl, rfl, trivial⟩, hs7⟩))
     refine dag (fuel' := 3) (listed' := lbits 9 119) (fun f w' => ∃ (A6' : Option Addr) (c6' : Nat), Has f [(1, pb b1), (11, I ((lu.length : Nat) : Int)), (15, .slice A6' ((textI lu).length) c6')] ∧ SH w w' [] [.blk b1 25 [Str lu, Str lw], .own A6' ((textI lu).length) c6' 3 1 ((textI lu).map I)]) ?_ (fun D_3_2 => ?_)
     · rintro f w8 ⟨A6', c6', hf, hs8⟩
       obtain ⟨g3, rfl⟩ := has_upd hf
       clear hf
       refine aaL [3] (fa_one ?_)
       refine one_ rfl ?_
       refine bsk hs8 sl23 [I 1, I ((lu.length : Nat) : Int)] [I 1, I ((lu.length : Nat) : Int)] trivial rfl (fun b3' w9 hs9 => ?_)
       exact nl (kq ⟨_, hs9, memi 0 rfl, trivial⟩ (alc D_3_0 ⟨b3', A6', c6', ⟨rfl, rfl, rfl, trivial⟩, (hs9.pick [0, 2, 1] rfl (by decide))⟩))
     refine dag (fuel' := 4) (listed' := lbits 9 55) (fun f w' => Has f [(1, pb b1), (11, I ((lu.length : Nat) : Int)), (14, Str lu)] ∧ SH w w' [] [.blk b1 25 [Str lu, Str lw]]) ?_ (fun D_3_3 => ?_)
     · rintro f w10 ⟨hf, hs10⟩
       obtain ⟨g4, rfl⟩ := has_upd hf
       clear hf
       refine aaL [3, 6] (fa_cons ?_ (fa_one ?_))
       · refine one_ rfl ?_
         refine bsk hs10 sl23 [I 1, I ((lu.length : Nat) : Int)] [I 1, I ((lu.length : Nat) : Int)] trivial rfl (fun b3' w11 hs11 => ?_)
         exact nl (kq ⟨_, hs11, memi 0 rfl, trivial⟩ (alc D_3_1 ⟨b3', ⟨rfl, rfl, rfl, trivial⟩, hs11⟩))
       · refine one_ rfl ?_
         refine cl trivial rfl (sL1Text (s := lu) (w := _) (hs_n := (by first | omega | (simp; done) | (simp; omega)))) ?_
         rintro _ w12 ⟨A6', c6', rfl, hs12'⟩
         have hs12 := hs10.call0 hs12'
         clear hs12'
         exact nl (kq ⟨_, hs12, memi 0 rfl, trivial⟩ (alc D_3_2 ⟨A6', c6', ⟨rfl, rfl, rfl, trivial⟩, hs12⟩))
     have hs13 := hs2.drew
     refine tk (fuel := 4) (is := [0, 1, 2, 4, 5]) (.cons rfl (.cons rfl (.cons rfl (.cons rfl (.cons rfl (.nil)))))) (by kernel_rfl) (by kernel_rfl) ⟨_, hs13, memi 0 rfl, trivial⟩ ?_
     refine .op trivial rfl rfl (fun wq _ => fa 0 fo25_0 rfl) ?_
     refine .op trivial rfl rfl (fun wq ⟨Lq, hsq, mh0, _⟩ => ldm (v := Str lu) hsq mh0 rfl rfl one9) ?_
     refine .op trivial rfl rfl (fun wq _ => lnS (l := lu) st9 rfl) ?_
     refine .op trivial rfl rfl (fun wq _ => fa 0 fo25_0 rfl) ?_
     refine .op trivial rfl rfl (fun wq ⟨Lq, hsq, mh0, _⟩ => ldm (v := Str lu) hsq mh0 rfl rfl one9) ?_
     refine .nil ?_
     exact alc D_3_3 ⟨⟨rfl, rfl, rfl, trivial⟩, hs13⟩
   rintro f w13 ⟨A6', c6', A7', c7', hf, hs14⟩
   obtain ⟨g5, rfl⟩ := has_upd hf
   clear hf
   refine nN ?_
   refine sq ?_
   refine rg ?_
   refine q trivial rfl rfl (mv (v := .slice A7' ((([1, ((lu.length : Nat) : Int)] : List Int) ++ (textI lu)).length) c7') rfl) ?_
   refine q trivial rfl rfl (fa 1 fo25_1 rfl) ?_
   refine q trivial rfl rfl (ld (v := Str lw) hs14 0 rfl rfl rfl one9) ?_
   refine q trivial rfl rfl (lnS (l := lw) st9 rfl) ?_
   refine bsk hs14 sl23 [I ((lw.length : Nat) : Int)] [I ((lw.length : Nat) : Int)] trivial rfl (fun b3 w14 (hs15 : SH w w14 [] [.blk b1 25 [Str lu, Str lw], .own A7' ((([1, ((lu.length : Nat) : Int)] : List Int) ++ (textI lu)).length) c7' 3 1 ((([1, ((lu.length : Nat) : Int)] : List Int) ++ (textI lu)).map I), .own A6' ((textI lu).length) c6' 3 1 ((textI lu).map I), oI b3 ([((lw.length : Nat) : Int)] : List Int) 1 3]) => ?_)
   refine apm (g := I) (ys := ([1, ((lu.length : Nat) : Int)] : List Int) ++ (textI lu)) (zs := ([((lw.length : Nat) : Int)] : List Int)) hs15 1 rfl sl23 rfl rfl rfl (hs15.sl0 3 rfl) (fun _ => rfl) (by unfold maxLen; have hlf := loginOk_fit (by assumption); have htl := textI_len lu; have htw := textI_len lw; simp only [List.length_append, List.length_cons, List.length_nil]; omega) (by have hlf := loginOk_fit (by assumption); have htl := textI_len lu; have htw := textI_len lw; simp only [List.length_append, List.length_cons, List.length_nil]; omega) trivial rfl (fun A1 c1 w15 (hs16 : SH w w15 [] [.blk b1 25 [Str lu, Str lw], .own A6' ((textI lu).length) c6' 3 1 ((textI lu).map I), oI b3 ([((lw.length : Nat) : Int)] : List Int) 1 3, .own A1 (((([1, ((lu.length : Nat) : Int)] : List Int) ++ (textI lu)) ++ ([((lw.length : Nat) : Int)] : List Int)).length) c1 3 1 (((([1, ((lu.length : Nat) : Int)] : List Int) ++ (textI lu)) ++ ([((lw.length : Nat) : Int)] : List Int)).map I)]) => ?_)
   refine q trivial rfl rfl (asg (v := .slice A1 (((([1, ((lu.length : Nat) : Int)] : List Int) ++ (textI lu)) ++ ([((lw.length : Nat) : Int)] : List Int)).length) c1) rfl) ?_
   refine nl ?_
   refine nN ?_
   have hs17 : SH w w15 [] [.blk b1 25 [Str lu, Str lw], .own A1 (((([1, ((lu.length : Nat) : Int)] : List Int) ++ (textI lu)) ++ ([((lw.length : Nat) : Int)] : List Int)).length) c1 3 1 (((([1, ((lu.length : Nat) : Int)] : List Int) ++ (textI lu)) ++ ([((lw.length : Nat) : Int)] : List Int)).map I)] := hs16.pick [0, 3] rfl (by decide)
   refine sq ?_
   refine rg ?_
   refine q trivial rfl rfl (mv (v := .slice A1 (((([1, ((lu.length : Nat) : Int)] : List Int) ++ (textI lu)) ++ ([((lw.length : Nat) : Int)] : List Int)).length) c1) rfl) ?_
   refine q trivial rfl rfl (fa 1 fo25_1 rfl) ?_
   refine q trivial rfl rfl (ld (v := Str lw) hs17 0 rfl rfl rfl one9) ?_
   refine cl trivial rfl (sL1Text (s := lw) (w := _) (hs_n := (by first | omega | (simp; done) | (simp; omega)))) ?_
   rintro _ w16 ⟨A2, c2, rfl, hs18'⟩
   have hs18 : SH w w16 [] [.blk b1 25 [Str lu, Str lw], .own A1 (((([1, ((lu.length : Nat) : Int)] : List Int) ++ (textI lu)) ++ ([((lw.length : Nat) : Int)] : List Int)).length) c1 3 1 (((([1, ((lu.length : Nat) : Int)] : List Int) ++ (textI lu)) ++ ([((lw.length : Nat) : Int)] : List Int)).map I), .own A2 ((textI lw).length) c2 3 1 ((textI lw).map I)] := hs17.call0 hs18'
   clear hs18'
   refine apm (g := I) (ys := (([1, ((lu.length : Nat) : Int)] : List Int) ++ (textI lu)) ++ ([((lw.length : Nat) : Int)] : List Int)) (zs := textI lw) hs18 1 rfl sl23 rfl rfl rfl (hs18.sl0 2 rfl) (fun _ => rfl) (by unfold maxLen; have hlf := loginOk_fit (by assumption); have htl := textI_len lu; have htw := textI_len lw; simp only [List.length_append, List.length_cons, List.length_nil]; omega) (by have hlf := loginOk_fit (by assumption); have htl := textI_len lu; have htw := textI_len lw; simp only [List.length_append, List.length_cons, List.length_nil]; omega) trivial rfl (fun A3 c3 w17 (hs19 : SH w w17 [] [.blk b1 25 [Str lu, Str lw], .own A2 ((textI lw).length) c2 3 1 ((textI lw).map I), .own A3 ((((([1, ((lu.length : Nat) : Int)] : List Int) ++ (textI lu)) ++ ([((lw.length : Nat) : Int)] : List Int)) ++ (textI lw)).length) c3 3 1 ((((([1, ((lu.length : Nat) : Int)] : List Int) ++ (textI lu)) ++ ([((lw.length : Nat) : Int)] : List Int)) ++ (textI lw)).map I)]) => ?_)
   refine q trivial rfl rfl (asg (v := .slice A3 ((((([1, ((lu.length : Nat) : Int)] : List Int) ++ (textI lu)) ++ ([((lw.length : Nat) : Int)] : List Int)) ++ (textI lw)).length) c3) rfl) ?_
   refine q trivial rfl rfl (asg (v := .bool true) rfl) ?_
   refine nl ?_
   refine nN ?_
   refine rt ?_
   refine fret (v := .tuple #[.slice A3 ((((([1, ((lu.length : Nat) : Int)] : List Int) ++ (textI lu)) ++ ([((lw.length : Nat) : Int)] : List Int)) ++ (textI lw)).length) c3, .bool true]) (.tmp (.tmp .nil)) rfl ?_
   have e5 : loginP lu lw = (((([1, ((lu.length : Nat) : Int)] : List Int) ++ (textI lu)) ++ ([((lw.length : Nat) : Int)] : List Int)) ++ (textI lw), true) := by (try simp only [catH_cons, catH_nil, List.append_nil]); simp [loginP, h3]
   have e6 : ((([1, ((lu.length : Nat) : Int)] : List Int) ++ (textI lu)) ++ ([((lw.length : Nat) : Int)] : List Int)) ++ (textI lw) = (loginP lu lw).1 := by rw [e5]
   have e7 : (((([1, ((lu.length : Nat) : Int)] : List Int) ++ (textI lu)) ++ ([((lw.length : Nat) : Int)] : List Int)) ++ (textI lw)).length = ((loginP lu lw).1).length := by exact congrArg List.length e6
   have e8 : true = (loginP lu lw).2 := by rw [e5]
   exact ⟨A3, c3, (tup2 (slv rfl e7 rfl) (congrArg (Value.bool) e8)), ((hs19.pick [2] rfl (by decide)).cast (lc (own_eq (g := I) rfl e7 rfl e6) rfl))⟩

theorem iClientSay {Ams : Option Addr} {cms : Nat} (ms : List Int) (lu : List UInt8) (lw : List UInt8) (ak : Int) {Aaq : Option Addr} {caq : Nat} (aq : List Int) (an : List UInt8) (apt : Int) (n : Int) (w : World) (hms : Sl w [] 1 Ams ms.length cms (ms.map I)) (hlu_n : lu.length ≤ 2147483648) (hlw_n : lw.length ≤ 2147483648) (haq : Sl w [] 1 Aaq aq.length caq (aq.map I)) (han_n : an.length ≤ 1099511627776) : Does Tryd.prog 15 [.agg #[.slice Ams ms.length cms, Str lu, Str lw, I ak, .slice Aaq aq.length caq, Str an, I apt], I n] w (fun v w' => ∃ Ar : Option Addr, ∃ cr : Nat, v = .tuple #[.slice Ar ((sayP ms lu lw ak aq an apt n).1).length cr, .bool ((sayP ms lu lw ak aq an apt n).2)] ∧ SH w w' [] [.own Ar (((sayP ms lu lw ak aq an apt n).1).length) cr 3 1 (((sayP ms lu lw ak aq an apt n).1).map I)]) := by
 refine fn_enter (N := 32) Tryd.func15 rfl (by kernel_rfl) rfl rfl rfl ?_
 have hs0 : SH w w [] [] := SH.refl w []
 have hms_m : ms.length ≤ 9223372036854775807 := Nat.le_trans hms.cap hms.capMax
 have haq_m : aq.length ≤ 9223372036854775807 := Nat.le_trans haq.cap haq.capMax
 refine sq ?_
 refine rg ?_
 refine bx (v := .agg #[.slice Ams ms.length cms, Str lu, Str lw, I ak, .slice Aaq aq.length caq, Str an, I apt]) (cs := [.slice Ams ms.length cms, Str lu, Str lw, I ak, .slice Aaq aq.length caq, Str an, I apt]) hs0 rfl rfl trivial rfl (fun b1 w1 (hs1 : SH w w1 [] [.blk b1 29 [.slice Ams ms.length cms, Str lu, Str lw, I ak, .slice Aaq aq.length caq, Str an, I apt]]) => ?_)
 refine q trivial rfl rfl (asg (v := ns) rfl) ?_
 refine q trivial rfl rfl (asg (v := .bool false) rfl) ?_
 refine nl ?_
 refine nN ?_
 refine sq ?_
 refine sq ?_
 refine rg ?_
 refine q trivial rfl rfl (ldg (vs := [.slice Ams ms.length cms, Str lu, Str lw, I ak, .slice Aaq aq.length caq, Str an, I apt]) hs1 0 rfl rfl rfl rfl ag29) ?_
 refine cl trivial rfl (iClientValid (Ams := Ams) (cms := cms) (ms := ms) (lu := lu) (lw := lw) (ak := ak) (Aaq := Aaq) (caq := caq) (aq := aq) (an := an) (apt := apt) (w := _) (hms := (hms.up0 hs1)) (hlu_n := (by first | omega | (simp; done) | (simp; omega))) (hlw_n := (by first | omega | (simp; done) | (simp; omega))) (haq := (haq.up0 hs1)) (han_n := (by first | omega | (simp; done) | (simp; omega)))) ?_
 rintro _ w2 ⟨rfl, hs2'⟩
 have hs2 : SH w w2 [] [.blk b1 29 [.slice Ams ms.length cms, Str lu, Str lw, I ak, .slice Aaq aq.length caq, Str an, I apt]] := hs1.call0 hs2'
 clear hs2'
 refine q trivial rfl rfl (nt (b := clientOk ms lu lw ak aq an apt) rfl) ?_
 refine nl ?_
 refine nN ?_
 refine cd (b := !(clientOk ms lu lw ak aq an apt)) rfl (fun h1 => ?_) (fun h1 => ?_)
 · have h2 : (clientOk ms lu lw ak aq an apt) = false := by simpa using h1
   refine sq ?_
   refine rg ?_
   refine q trivial rfl rfl (asg (v := ns) rfl) ?_
   refine q trivial rfl rfl (asg (v := .bool false) rfl) ?_
   refine nl ?_
   refine nN ?_
   refine rt (tR ?_)
   refine fret (v := .tuple #[ns, .bool false]) (.tmp (.tmp .nil)) rfl ?_
   have hs3 : SH w w2 [] [.blk b1 29 [.slice Ams ms.length cms, Str lu, Str lw, I ak, .slice Aaq aq.length caq, Str an, I apt], .own none (([] : List Int).length) 0 3 1 (([] : List Int).map I)] := SH.nils (by intro i hi; simp at hi; subst hi; exact nilItem) hs2
   have e1 : sayP ms lu lw ak aq an apt n = (([] : List Int), false) := by simp [sayP, h2]
   have e2 : ([] : List Int) = (sayP ms lu lw ak aq an apt n).1 := by rw [e1]
   have e3 : ([] : List Int).length = ((sayP ms lu lw ak aq an apt n).1).length := by exact congrArg List.length e2
   have e4 : false = (sayP ms lu lw ak aq an apt n).2 := by rw [e1]
   exact ⟨none, 0, (tup2 (slv rfl e3 rfl) (congrArg (Value.bool) e4)), ((hs3.pick [1] rfl (by decide)).cast (lc (own_eq (g := I) rfl e3 rfl e2) rfl))⟩
 · have h3 : (clientOk ms lu lw ak aq an apt) = true := by simpa using h1
   refine sk ?_
   refine nN ?_
   refine sq ?_
   refine sq ?_
   refine rg ?_
   refine q trivial rfl rfl (mv (v := I n) rfl) ?_
   refine nl ?_
   refine nN ?_
   refine bl ?_
   refine sq ?_
   refine rg ?_
   refine q trivial rfl rfl (eqi (k := .i64) (a := n) (b := 0) rfl rfl) ?_
   refine q trivial rfl rfl (asg (v := .bool (decide (n = 0))) rfl) ?_
   refine nl ?_
   refine nN ?_
   refine cdd (p := n = 0) rfl (fun h4 => ?_) (fun h4 => ?_)
   · refine sq ?_
     refine rg ?_
     refine q trivial rfl rfl (fa 0 fo29_0 rfl) ?_
     refine q trivial rfl rfl (ld (v := .slice Ams ms.length cms) hs2 0 rfl rfl rfl one23) ?_
     refine cl trivial rfl (iHelloBytes (Ams := Ams) (cms := cms) (ms := ms) (w := _) (hms := (hms.up0 hs2))) ?_
     rintro _ w3 ⟨A1, c1, rfl, hs4'⟩
     have hs4 : SH w w3 [] [.blk b1 29 [.slice Ams ms.length cms, Str lu, Str lw, I ak, .slice Aaq aq.length caq, Str an, I apt], .own A1 (((helloP ms).1).length) c1 3 1 (((helloP ms).1).map I)] := hs2.call0 hs4'
     clear hs4'
     refine q trivial rfl rfl (xt 0 (v := .slice A1 (((helloP ms).1).length) c1) rfl rfl) ?_
     refine q trivial rfl rfl (xt 1 (v := .bool ((helloP ms).2)) rfl rfl) ?_
     refine q trivial rfl rfl (asg (v := .slice A1 (((helloP ms).1).length) c1) rfl) ?_
     refine q trivial rfl rfl (asg (v := .bool ((helloP ms).2)) rfl) ?_
     refine nl ?_
     refine nN ?_
     refine rt (bR (tR ?_))
     refine fret (v := .tuple #[.slice A1 (((helloP ms).1).length) c1, .bool ((helloP ms).2)]) (.tmp (.tmp .nil)) rfl ?_
     have e5 : sayP ms lu lw ak aq an apt n = ((helloP ms).1, ((helloP ms).2)) := by simp [sayP, h3, h4]
     have e6 : (helloP ms).1 = (sayP ms lu lw ak aq an apt n).1 := by rw [e5]
     have e7 : ((helloP ms).1).length = ((sayP ms lu lw ak aq an apt n).1).length := by exact congrArg List.length e6
     have e8 : ((helloP ms).2) = (sayP ms lu lw ak aq an apt n).2 := by rw [e5]
     exact ⟨A1, c1, (tup2 (slv rfl e7 rfl) (congrArg (Value.bool) e8)), ((hs4.pick [1] rfl (by decide)).cast (lc (own_eq (g := I) rfl e7 rfl e6) rfl))⟩
   · refine sq ?_
     refine rg ?_
     refine q trivial rfl rfl (eqi (k := .i64) (a := n) (b := 1) rfl rfl) ?_
     refine q trivial rfl rfl (asg (v := .bool (decide (n = 1))) rfl) ?_
     refine nl ?_
     refine nN ?_
     refine cdd (p := n = 1) rfl (fun h5 => ?_) (fun h5 => ?_)
     · refine sq ?_
       refine rg ?_
       refine q trivial rfl rfl (fa 1 fo29_1 rfl) ?_
       refine q trivial rfl rfl (ldg (vs := [Str lu, Str lw]) hs2 0 rfl rfl rfl rfl ag25) ?_
       refine cl trivial rfl (iLoginBytes (lu := lu) (lw := lw) (w := _) (hlu_n := (by first | omega | (simp; done) | (simp; omega))) (hlw_n := (by first | omega | (simp; done) | (simp; omega)))) ?_
       rintro _ w4 ⟨A2, c2, rfl, hs5'⟩
       have hs5 : SH w w4 [] [.blk b1 29 [.slice Ams ms.length cms, Str lu, Str lw, I ak, .slice Aaq aq.length caq, Str an, I apt], .own A2 (((loginP lu lw).1).length) c2 3 1 (((loginP lu lw).1).map I)] := hs2.call0 hs5'
       clear hs5'
       refine q trivial rfl rfl (xt 0 (v := .slice A2 (((loginP lu lw).1).length) c2) rfl rfl) ?_
       refine q trivial rfl rfl (xt 1 (v := .bool ((loginP lu lw).2)) rfl rfl) ?_
       refine q trivial rfl rfl (asg (v := .slice A2 (((loginP lu lw).1).length) c2) rfl) ?_
       refine q trivial rfl rfl (asg (v := .bool ((loginP lu lw).2)) rfl) ?_
       refine nl ?_
       refine nN ?_
       refine rt (bR (tR ?_))
       refine fret (v := .tuple #[.slice A2 (((loginP lu lw).1).length) c2, .bool ((loginP lu lw).2)]) (.tmp (.tmp .nil)) rfl ?_
       have e9 : sayP ms lu lw ak aq an apt n = ((loginP lu lw).1, ((loginP lu lw).2)) := by simp [sayP, h3, h4, h5]
       have e10 : (loginP lu lw).1 = (sayP ms lu lw ak aq an apt n).1 := by rw [e9]
       have e11 : ((loginP lu lw).1).length = ((sayP ms lu lw ak aq an apt n).1).length := by exact congrArg List.length e10
       have e12 : ((loginP lu lw).2) = (sayP ms lu lw ak aq an apt n).2 := by rw [e9]
       exact ⟨A2, c2, (tup2 (slv rfl e11 rfl) (congrArg (Value.bool) e12)), ((hs5.pick [1] rfl (by decide)).cast (lc (own_eq (g := I) rfl e11 rfl e10) rfl))⟩
     · refine sq ?_
       refine rg ?_
       refine q trivial rfl rfl (eqi (k := .i64) (a := n) (b := 2) rfl rfl) ?_
       refine q trivial rfl rfl (asg (v := .bool (decide (n = 2))) rfl) ?_
       refine nl ?_
       refine nN ?_
       refine cdd (p := n = 2) rfl (fun h6 => ?_) (fun h6 => ?_)
       · refine sq ?_
         refine rg ?_
         refine q trivial rfl rfl (fa 3 fo29_2 rfl) ?_
         refine q trivial rfl rfl (ldg (vs := [I ak, .slice Aaq aq.length caq, Str an, I apt]) hs2 0 rfl rfl rfl rfl ag27) ?_
         refine q trivial rfl rfl (bdv (v := .agg #[I 1, I ak, .slice Aaq aq.length caq, Str an, I apt]) [(0, I 1), (1, .agg #[I ak, .slice Aaq aq.length caq, Str an, I apt])] rfl (fun _ => by kernel_rfl)) ?_
         refine cl trivial rfl (iRequestBytes (n := 1) (ak := ak) (Aaq := Aaq) (caq := caq) (aq := aq) (an := an) (apt := apt) (w := _) (haq := (haq.up0 hs2)) (han_n := (by first | omega | (simp; done) | (simp; omega)))) ?_
         rintro _ w5 ⟨A3, c3, rfl, hs6'⟩
         have hs6 : SH w w5 [] [.blk b1 29 [.slice Ams ms.length cms, Str lu, Str lw, I ak, .slice Aaq aq.length caq, Str an, I apt], .own A3 (((reqP 1 ak aq an apt).1).length) c3 3 1 (((reqP 1 ak aq an apt).1).map I)] := hs2.call0 hs6'
         clear hs6'
         refine q trivial rfl rfl (xt 0 (v := .slice A3 (((reqP 1 ak aq an apt).1).length) c3) rfl rfl) ?_
         refine q trivial rfl rfl (xt 1 (v := .bool ((reqP 1 ak aq an apt).2)) rfl rfl) ?_
         refine q trivial rfl rfl (asg (v := .slice A3 (((reqP 1 ak aq an apt).1).length) c3) rfl) ?_
         refine q trivial rfl rfl (asg (v := .bool ((reqP 1 ak aq an apt).2)) rfl) ?_
         refine nl ?_
         refine nN ?_
         refine rt (bR (tR ?_))
         refine fret (v := .tuple #[.slice A3 (((reqP 1 ak aq an apt).1).length) c3, .bool ((reqP 1 ak aq an apt).2)]) (.tmp (.tmp .nil)) rfl ?_
         have e13 : sayP ms lu lw ak aq an apt n = ((reqP 1 ak aq an apt).1, ((reqP 1 ak aq an apt).2)) := by simp [sayP, h3, h4, h5, h6]
         have e14 : (reqP 1 ak aq an apt).1 = (sayP ms lu lw ak aq an apt n).1 := by rw [e13]
         have e15 : ((reqP 1 ak aq an apt).1).length = ((sayP ms lu lw ak aq an apt n).1).length := by exact congrArg List.length e14
         have e16 : ((reqP 1 ak aq an apt).2) = (sayP ms lu lw ak aq an apt n).2 := by rw [e13]
         exact ⟨A3, c3, (tup2 (slv rfl e15 rfl) (congrArg (Value.bool) e16)), ((hs6.pick [1] rfl (by decide)).cast (lc (own_eq (g := I) rfl e15 rfl e14) rfl))⟩
       · refine sk ?_
         refine bN ?_
         refine nN ?_
         refine sq ?_
         refine rg ?_
         refine q trivial rfl rfl (asg (v := ns) rfl) ?_
         refine q trivial rfl rfl (asg (v := .bool false) rfl) ?_
         refine nl ?_
         refine nN ?_
         refine rt ?_
         refine fret (v := .tuple #[ns, .bool false]) (.tmp (.tmp .nil)) rfl ?_
         have hs7 : SH w w2 [] [.blk b1 29 [.slice Ams ms.length cms, Str lu, Str lw, I ak, .slice Aaq aq.length caq, Str an, I apt], .own none (([] : List Int).length) 0 3 1 (([] : List Int).map I)] := SH.nils (by intro i hi; simp at hi; subst hi; exact nilItem) hs2
         have e17 : sayP ms lu lw ak aq an apt n = (([] : List Int), false) := by simp [sayP, h3, h4, h5, h6]
         have e18 : ([] : List Int) = (sayP ms lu lw ak aq an apt n).1 := by rw [e17]
         have e19 : ([] : List Int).length = ((sayP ms lu lw ak aq an apt n).1).length := by exact congrArg List.length e18
         have e20 : false = (sayP ms lu lw ak aq an apt n).2 := by rw [e17]
         exact ⟨none, 0, (tup2 (slv rfl e19 rfl) (congrArg (Value.bool) e20)), ((hs7.pick [1] rfl (by decide)).cast (lc (own_eq (g := I) rfl e19 rfl e18) rfl))⟩

theorem sClientSay {Ams : Option Addr} {cms : Nat} (ms : List Int) (lu : List UInt8) (lw : List UInt8) (ak : Int) {Aaq : Option Addr} {caq : Nat} (aq : List Int) (an : List UInt8) (apt : Int) (n : Int) (w : World) (hms : Sl w [] 1 Ams ms.length cms (ms.map I)) (hlu_n : lu.length ≤ 2147483648) (hlw_n : lw.length ≤ 2147483648) (haq : Sl w [] 1 Aaq aq.length caq (aq.map I)) (han_n : an.length ≤ 1099511627776) : Does Tryd.prog 16 [.agg #[.slice Ams ms.length cms, Str lu, Str lw, I ak, .slice Aaq aq.length caq, Str an, I apt], I n] w (fun v w' => ∃ Ar : Option Addr, ∃ cr : Nat, v = .tuple #[.slice Ar ((sayP ms lu lw ak aq an apt n).1).length cr, .bool ((sayP ms lu lw ak aq an apt n).2)] ∧ SH w w' [] [.own Ar (((sayP ms lu lw ak aq an apt n).1).length) cr 3 1 (((sayP ms lu lw ak aq an apt n).1).map I)]) := by
 refine fn_enter (N := 34) Tryd.func16 rfl (by kernel_rfl) rfl rfl rfl ?_
 have hs0 : SH w w [] [] := SH.refl w []
 have hms_m : ms.length ≤ 9223372036854775807 := Nat.le_trans hms.cap hms.capMax
 have haq_m : aq.length ≤ 9223372036854775807 := Nat.le_trans haq.cap haq.capMax
 refine sq ?_
 refine rg ?_
 refine bx (v := .agg #[.slice Ams ms.length cms, Str lu, Str lw, I ak, .slice Aaq aq.length caq, Str an, I apt]) (cs := [.slice Ams ms.length cms, Str lu, Str lw, I ak, .slice Aaq aq.length caq, Str an, I apt]) hs0 rfl rfl trivial rfl (fun b1 w1 (hs1 : SH w w1 [] [.blk b1 29 [.slice Ams ms.length cms, Str lu, Str lw, I ak, .slice Aaq aq.length caq, Str an, I apt]]) => ?_)
 refine q trivial rfl rfl (asg (v := ns) rfl) ?_
 refine q trivial rfl rfl (asg (v := .bool false) rfl) ?_
 refine nl ?_
 refine nN ?_
 refine sq ?_
 refine sq ?_
 refine rg ?_
 refine q trivial rfl rfl (ldg (vs := [.slice Ams ms.length cms, Str lu, Str lw, I ak, .slice Aaq aq.length caq, Str an, I apt]) hs1 0 rfl rfl rfl rfl ag29) ?_
 refine cl trivial rfl (sClientValid (Ams := Ams) (cms := cms) (ms := ms) (lu := lu) (lw := lw) (ak := ak) (Aaq := Aaq) (caq := caq) (aq := aq) (an := an) (apt := apt) (w := _) (hms := (hms.up0 hs1)) (hlu_n := (by first | omega | (simp; done) | (simp; omega))) (hlw_n := (by first | omega | (simp; done) | (simp; omega))) (haq := (haq.up0 hs1)) (han_n := (by first | omega | (simp; done) | (simp; omega)))) ?_
 rintro _ w2 ⟨rfl, hs2'⟩
 have hs2 : SH w w2 [] [.blk b1 29 [.slice Ams ms.length cms, Str lu, Str lw, I ak, .slice Aaq aq.length caq, Str an, I apt]] := hs1.call0 hs2'
 clear hs2'
 refine q trivial rfl rfl (nt (b := clientOk ms lu lw ak aq an apt) rfl) ?_
 refine nl ?_
 refine nN ?_
 refine cd (b := !(clientOk ms lu lw ak aq an apt)) rfl (fun h1 => ?_) (fun h1 => ?_)
 · have h2 : (clientOk ms lu lw ak aq an apt) = false := by simpa using h1
   refine sq ?_
   refine rg ?_
   refine bsk hs2 sl23 [] [] trivial rfl (fun b2 w3 (hs3 : SH w w3 [] [.blk b1 29 [.slice Ams ms.length cms, Str lu, Str lw, I ak, .slice Aaq aq.length caq, Str an, I apt], oI b2 ([] : List Int) 0 3]) => ?_)
   refine q trivial rfl rfl (asg (v := sb b2 (([] : List Int).length) 0) rfl) ?_
   refine q trivial rfl rfl (asg (v := .bool false) rfl) ?_
   refine nl ?_
   refine nN ?_
   refine rt (tR ?_)
   refine fret (v := .tuple #[sb b2 (([] : List Int).length) 0, .bool false]) (.tmp (.tmp .nil)) rfl ?_
   have e1 : sayP ms lu lw ak aq an apt n = (([] : List Int), false) := by simp [sayP, h2]
   have e2 : ([] : List Int) = (sayP ms lu lw ak aq an apt n).1 := by rw [e1]
   have e3 : ([] : List Int).length = ((sayP ms lu lw ak aq an apt n).1).length := by exact congrArg List.length e2
   have e4 : false = (sayP ms lu lw ak aq an apt n).2 := by rw [e1]
   exact ⟨(some ⟨b2, 0, none⟩), 0, (tup2 (slv rfl e3 rfl) (congrArg (Value.bool) e4)), ((hs3.pick [1] rfl (by decide)).cast (lc (own_eq (g := I) rfl e3 rfl e2) rfl))⟩
 · have h3 : (clientOk ms lu lw ak aq an apt) = true := by simpa using h1
   refine sk ?_
   refine nN ?_
   refine sq ?_
   refine sq ?_
   refine rg ?_
   refine q trivial rfl rfl (mv (v := I n) rfl) ?_
   refine nl ?_
   refine nN ?_
   refine bl ?_
   refine sq ?_
   refine rg ?_
   refine q trivial rfl rfl (eqi (k := .i64) (a := n) (b := 0) rfl rfl) ?_
   refine q trivial rfl rfl (asg (v := .bool (decide (n = 0))) rfl) ?_
   refine nl ?_
   refine nN ?_
   refine cdd (p := n = 0) rfl (fun h4 => ?_) (fun h4 => ?_)
   · refine sq ?_
     refine rg ?_
     refine q trivial rfl rfl (fa 0 fo29_0 rfl) ?_
     refine q trivial rfl rfl (ld (v := .slice Ams ms.length cms) hs2 0 rfl rfl rfl one23) ?_
     refine cl trivial rfl (sHelloBytes (Ams := Ams) (cms := cms) (ms := ms) (w := _) (hms := (hms.up0 hs2))) ?_
     rintro _ w4 ⟨A1, c1, rfl, hs4'⟩
     have hs4 : SH w w4 [] [.blk b1 29 [.slice Ams ms.length cms, Str lu, Str lw, I ak, .slice Aaq aq.length caq, Str an, I apt], .own A1 (((helloP ms).1).length) c1 3 1 (((helloP ms).1).map I)] := hs2.call0 hs4'
     clear hs4'
     refine q trivial rfl rfl (xt 0 (v := .slice A1 (((helloP ms).1).length) c1) rfl rfl) ?_
     refine q trivial rfl rfl (xt 1 (v := .bool ((helloP ms).2)) rfl rfl) ?_
     refine q trivial rfl rfl (asg (v := .slice A1 (((helloP ms).1).length) c1) rfl) ?_
     refine q trivial rfl rfl (asg (v := .bool ((helloP ms).2)) rfl) ?_
     refine nl ?_
     refine nN ?_
     refine rt (bR (tR ?_))
     refine fret (v := .tuple #[.slice A1 (((helloP ms).1).length) c1, .bool ((helloP ms).2)]) (.tmp (.tmp .nil)) rfl ?_
     have e5 : sayP ms lu lw ak aq an apt n = ((helloP ms).1, ((helloP ms).2)) := by simp [sayP, h3, h4]
     have e6 : (helloP ms).1 = (sayP ms lu lw ak aq an apt n).1 := by rw [e5]
     have e7 : ((helloP ms).1).length = ((sayP ms lu lw ak aq an apt n).1).length := by exact congrArg List.length e6
     have e8 : ((helloP ms).2) = (sayP ms lu lw ak aq an apt n).2 := by rw [e5]
     exact ⟨A1, c1, (tup2 (slv rfl e7 rfl) (congrArg (Value.bool) e8)), ((hs4.pick [1] rfl (by decide)).cast (lc (own_eq (g := I) rfl e7 rfl e6) rfl))⟩
   · refine sq ?_
     refine rg ?_
     refine q trivial rfl rfl (eqi (k := .i64) (a := n) (b := 1) rfl rfl) ?_
     refine q trivial rfl rfl (asg (v := .bool (decide (n = 1))) rfl) ?_
     refine nl ?_
     refine nN ?_
     refine cdd (p := n = 1) rfl (fun h5 => ?_) (fun h5 => ?_)
     · refine sq ?_
       refine rg ?_
       refine q trivial rfl rfl (fa 1 fo29_1 rfl) ?_
       refine q trivial rfl rfl (ldg (vs := [Str lu, Str lw]) hs2 0 rfl rfl rfl rfl ag25) ?_
       refine cl trivial rfl (sLoginBytes (lu := lu) (lw := lw) (w := _) (hlu_n := (by first | omega | (simp; done) | (simp; omega))) (hlw_n := (by first | omega | (simp; done) | (simp; omega)))) ?_
       rintro _ w5 ⟨A2, c2, rfl, hs5'⟩
       have hs5 : SH w w5 [] [.blk b1 29 [.slice Ams ms.length cms, Str lu, Str lw, I ak, .slice Aaq aq.length caq, Str an, I apt], .own A2 (((loginP lu lw).1).length) c2 3 1 (((loginP lu lw).1).map I)] := hs2.call0 hs5'
       clear hs5'
       refine q trivial rfl rfl (xt 0 (v := .slice A2 (((loginP lu lw).1).length) c2) rfl rfl) ?_
       refine q trivial rfl rfl (xt 1 (v := .bool ((loginP lu lw).2)) rfl rfl) ?_
       refine q trivial rfl rfl (asg (v := .slice A2 (((loginP lu lw).1).length) c2) rfl) ?_
       refine q trivial rfl rfl (asg (v := .bool ((loginP lu lw).2)) rfl) ?_
       refine nl ?_
       refine nN ?_
       refine rt (bR (tR ?_))
       refine fret (v := .tuple #[.slice A2 (((loginP lu lw).1).length) c2, .bool ((loginP lu lw).2)]) (.tmp (.tmp .nil)) rfl ?_
       have e9 : sayP ms lu lw ak aq an apt n = ((loginP lu lw).1, ((loginP lu lw).2)) := by simp [sayP, h3, h4, h5]
       have e10 : (loginP lu lw).1 = (sayP ms lu lw ak aq an apt n).1 := by rw [e9]
       have e11 : ((loginP lu lw).1).length = ((sayP ms lu lw ak aq an apt n).1).length := by exact congrArg List.length e10
       have e12 : ((loginP lu lw).2) = (sayP ms lu lw ak aq an apt n).2 := by rw [e9]
       exact ⟨A2, c2, (tup2 (slv rfl e11 rfl) (congrArg (Value.bool) e12)), ((hs5.pick [1] rfl (by decide)).cast (lc (own_eq (g := I) rfl e11 rfl e10) rfl))⟩
     · refine sq ?_
       refine rg ?_
       refine q trivial rfl rfl (eqi (k := .i64) (a := n) (b := 2) rfl rfl) ?_
       refine q trivial rfl rfl (asg (v := .bool (decide (n = 2))) rfl) ?_
       refine nl ?_
       refine nN ?_
       refine cdd (p := n = 2) rfl (fun h6 => ?_) (fun h6 => ?_)
       · refine sq ?_
         refine rg ?_
         refine q trivial rfl rfl (fa 3 fo29_2 rfl) ?_
         refine q trivial rfl rfl (ldg (vs := [I ak, .slice Aaq aq.length caq, Str an, I apt]) hs2 0 rfl rfl rfl rfl ag27) ?_
         refine q trivial rfl rfl (bdv (v := .agg #[I 1, I ak, .slice Aaq aq.length caq, Str an, I apt]) [(0, I 1), (1, .agg #[I ak, .slice Aaq aq.length caq, Str an, I apt])] rfl (fun _ => by kernel_rfl)) ?_
         refine cl trivial rfl (sRequestBytes (n := 1) (ak := ak) (Aaq := Aaq) (caq := caq) (aq := aq) (an := an) (apt := apt) (w := _) (haq := (haq.up0 hs2)) (han_n := (by first | omega | (simp; done) | (simp; omega)))) ?_
         rintro _ w6 ⟨A3, c3, rfl, hs6'⟩
         have hs6 : SH w w6 [] [.blk b1 29 [.slice Ams ms.length cms, Str lu, Str lw, I ak, .slice Aaq aq.length caq, Str an, I apt], .own A3 (((reqP 1 ak aq an apt).1).length) c3 3 1 (((reqP 1 ak aq an apt).1).map I)] := hs2.call0 hs6'
         clear hs6'
         refine q trivial rfl rfl (xt 0 (v := .slice A3 (((reqP 1 ak aq an apt).1).length) c3) rfl rfl) ?_
         refine q trivial rfl rfl (xt 1 (v := .bool ((reqP 1 ak aq an apt).2)) rfl rfl) ?_
         refine q trivial rfl rfl (asg (v := .slice A3 (((reqP 1 ak aq an apt).1).length) c3) rfl) ?_
         refine q trivial rfl rfl (asg (v := .bool ((reqP 1 ak aq an apt).2)) rfl) ?_
         refine nl ?_
         refine nN ?_
         refine rt (bR (tR ?_))
         refine fret (v := .tuple #[.slice A3 (((reqP 1 ak aq an apt).1).length) c3, .bool ((reqP 1 ak aq an apt).2)]) (.tmp (.tmp .nil)) rfl ?_
         have e13 : sayP ms lu lw ak aq an apt n = ((reqP 1 ak aq an apt).1, ((reqP 1 ak aq an apt).2)) := by simp [sayP, h3, h4, h5, h6]
         have e14 : (reqP 1 ak aq an apt).1 = (sayP ms lu lw ak aq an apt n).1 := by rw [e13]
         have e15 : ((reqP 1 ak aq an apt).1).length = ((sayP ms lu lw ak aq an apt n).1).length := by exact congrArg List.length e14
         have e16 : ((reqP 1 ak aq an apt).2) = (sayP ms lu lw ak aq an apt n).2 := by rw [e13]
         exact ⟨A3, c3, (tup2 (slv rfl e15 rfl) (congrArg (Value.bool) e16)), ((hs6.pick [1] rfl (by decide)).cast (lc (own_eq (g := I) rfl e15 rfl e14) rfl))⟩
       · refine sk ?_
         refine bN ?_
         refine nN ?_
         refine sq ?_
         refine rg ?_
         refine bsk hs2 sl23 [] [] trivial rfl (fun b3 w7 (hs7 : SH w w7 [] [.blk b1 29 [.slice Ams ms.length cms, Str lu, Str lw, I ak, .slice Aaq aq.length caq, Str an, I apt], oI b3 ([] : List Int) 0 3]) => ?_)
         refine q trivial rfl rfl (asg (v := sb b3 (([] : List Int).length) 0) rfl) ?_
         refine q trivial rfl rfl (asg (v := .bool false) rfl) ?_
         refine nl ?_
         refine nN ?_
         refine rt ?_
         refine fret (v := .tuple #[sb b3 (([] : List Int).length) 0, .bool false]) (.tmp (.tmp .nil)) rfl ?_
         have e17 : sayP ms lu lw ak aq an apt n = (([] : List Int), false) := by simp [sayP, h3, h4, h5, h6]
         have e18 : ([] : List Int) = (sayP ms lu lw ak aq an apt n).1 := by rw [e17]
         have e19 : ([] : List Int).length = ((sayP ms lu lw ak aq an apt n).1).length := by exact congrArg List.length e18
         have e20 : false = (sayP ms lu lw ak aq an apt n).2 := by rw [e17]
         exact ⟨(some ⟨b3, 0, none⟩), 0, (tup2 (slv rfl e19 rfl) (congrArg (Value.bool) e20)), ((hs7.pick [1] rfl (by decide)).cast (lc (own_eq (g := I) rfl e19 rfl e18) rfl))⟩

theorem markAddress (ak : Int) {Aaq : Option Addr} {caq : Nat} (aq : List Int) (an : List UInt8) (apt : Int) (k0 : Int) (w : World) (haq : OwnR w Aaq aq.length caq 3 1 (aq.map I)) (haq_n : aq.length ≤ 2147483648) (hk0 : 0 ≤ k0 ∧ k0 ≤ 4294967296) : Does Tryd.prog 51 [.agg #[I ak, .slice Aaq aq.length caq, Str an, I apt], I k0] w (fun v w' => v = .int .i64 (k0 + ((aq.length : Nat) : Int)) ∧ SH w w' (ownM Aaq caq ++ []) [.own Aaq aq.length caq 3 1 ((marks k0 aq.length).map I)]) := by
 refine fn_enter (N := 10) Tryd.func51 rfl (by kernel_rfl) rfl rfl rfl ?_
 have hs0 : SH w w (ownM Aaq caq ++ []) [.own Aaq aq.length caq 3 1 (aq.map I)] := entry1o haq
 have haq_m : aq.length ≤ 9223372036854775807 := Nat.le_trans haq.2.1 haq.2.2.1
 refine sq ?_
 refine rg ?_
 refine bx (v := .agg #[I ak, .slice Aaq aq.length caq, Str an, I apt]) (cs := [I ak, .slice Aaq aq.length caq, Str an, I apt]) hs0 rfl rfl trivial rfl (fun b1 w1 (hs1 : SH w w1 (ownM Aaq caq ++ []) [.own Aaq aq.length caq 3 1 (aq.map I), .blk b1 27 [I ak, .slice Aaq aq.length caq, Str an, I apt]]) => ?_)
 refine q trivial rfl rfl (asg (v := I 0) rfl) ?_
 refine nl ?_
 refine nN ?_
 refine sq ?_
 refine rg ?_
 refine q trivial rfl rfl (fa 1 fo27_1 rfl) ?_
 refine q trivial rfl rfl (ld (v := .slice Aaq aq.length caq) hs1 1 rfl rfl rfl one23) ?_
 refine q trivial rfl rfl (mv (v := I k0) rfl) ?_
 refine cl trivial rfl (markIntS (Axs := Aaq) (cxs := caq) (xs := aq) (k0 := k0) (w := _) (hxs := (own_ok hs1 0 rfl)) (hxs_n := (by first | omega | (simp; done) | (simp; omega))) (hk0 := (by first | omega | assumption | (simp; done) | (simp; omega)))) ?_
 rintro _ w2 ⟨rfl, hs2'⟩
 have hs2 : SH w w2 (ownM Aaq caq ++ []) [.blk b1 27 [I ak, .slice Aaq aq.length caq, Str an, I apt], .own Aaq aq.length caq 3 1 ((marks k0 aq.length).map I)] := SH.callK (K := [.own Aaq aq.length caq 3 1 (aq.map I)]) (R := [.blk b1 27 [I ak, .slice Aaq aq.length caq, Str an, I apt]]) hs1 hs2' rfl
 clear hs2'
 have e1 : aq.length = (marks k0 aq.length).length := by first | rfl | (simp; done) | (simp; omega)
 have hs3 : SH w w2 (ownM Aaq caq ++ []) [.blk b1 27 [I ak, .slice Aaq aq.length caq, Str an, I apt], .own Aaq ((marks k0 aq.length).length) caq 3 1 ((marks k0 aq.length).map I)] := (hs2.cast (lc rfl (lc (own_eq (g := I) rfl e1 rfl rfl) rfl)))
 clear hs2
 refine q trivial rfl rfl (asg (v := I (k0 + ((aq.length : Nat) : Int))) rfl) ?_
 refine nl ?_
 refine nN ?_
 refine sq ?_
 refine rg ?_
 refine q trivial rfl rfl (mv (v := I (k0 + ((aq.length : Nat) : Int))) rfl) ?_
 refine q trivial rfl rfl (asg (v := I (k0 + ((aq.length : Nat) : Int))) rfl) ?_
 refine nl ?_
 refine nN ?_
 refine rt ?_
 refine fret (v := I (k0 + ((aq.length : Nat) : Int))) (.tmp .nil) rfl ?_
 have e2 : (marks k0 aq.length).length = aq.length := by first | rfl | (simp; done) | omega
 exact ⟨rfl, ((hs3.pick [1] rfl (by decide)).cast (lc (own_eq (g := I) rfl e2 rfl rfl) rfl))⟩

theorem markClient {Ams : Option Addr} {cms : Nat} (ms : List Int) (lu : List UInt8) (lw : List UInt8) (ak : Int) {Aaq : Option Addr} {caq : Nat} (aq : List Int) (an : List UInt8) (apt : Int) (k0 : Int) (w : World) (hms : OwnR w Ams ms.length cms 3 1 (ms.map I)) (hms_n : ms.length ≤ 2147483648) (haq : OwnR w Aaq aq.length caq 3 1 (aq.map I)) (haq_n : aq.length ≤ 2147483648) (hk0 : 0 ≤ k0 ∧ k0 ≤ 2147483648) (hx_ms_aq : ∀ k, (It.own Ams ms.length cms 3 1 (ms.map I)).has k → ¬ (It.own Aaq aq.length caq 3 1 (aq.map I)).has k) : Does Tryd.prog 22 [.agg #[.slice Ams ms.length cms, Str lu, Str lw, I ak, .slice Aaq aq.length caq, Str an, I apt], I k0] w (fun v w' => v = .int .i64 (k0 + ((ms.length : Nat) : Int) + ((aq.length : Nat) : Int)) ∧ SH w w' (ownM Ams cms ++ (ownM Aaq caq ++ [])) [.own Ams ms.length cms 3 1 ((marks k0 ms.length).map I), .own Aaq aq.length caq 3 1 ((marks (k0 + ((ms.length : Nat) : Int)) aq.length).map I)]) := by
 refine fn_enter (N := 14) Tryd.func22 rfl (by kernel_rfl) rfl rfl rfl ?_
 have hs0 : SH w w (ownM Ams cms ++ (ownM Aaq caq ++ [])) [.own Ams ms.length cms 3 1 (ms.map I), .own Aaq aq.length caq 3 1 (aq.map I)] := SH.entryK [.own Ams ms.length cms 3 1 (ms.map I), .own Aaq aq.length caq 3 1 (aq.map I)] (fa_cons hms (fa_cons haq fa_nil)) (.cons (fa_cons hx_ms_aq fa_nil) (.cons fa_nil .nil))
 have hms_m : ms.length ≤ 9223372036854775807 := Nat.le_trans hms.2.1 hms.2.2.1
 have haq_m : aq.length ≤ 9223372036854775807 := Nat.le_trans haq.2.1 haq.2.2.1
 refine sq ?_
 refine rg ?_
 refine bx (v := .agg #[.slice Ams ms.length cms, Str lu, Str lw, I ak, .slice Aaq aq.length caq, Str an, I apt]) (cs := [.slice Ams ms.length cms, Str lu, Str lw, I ak, .slice Aaq aq.length caq, Str an, I apt]) hs0 rfl rfl trivial rfl (fun b1 w1 (hs1 : SH w w1 (ownM Ams cms ++ (ownM Aaq caq ++ [])) [.own Ams ms.length cms 3 1 (ms.map I), .own Aaq aq.length caq 3 1 (aq.map I), .blk b1 29 [.slice Ams ms.length cms, Str lu, Str lw, I ak, .slice Aaq aq.length caq, Str an, I apt]]) => ?_)
 refine q trivial rfl rfl (asg (v := I 0) rfl) ?_
 refine nl ?_
 refine nN ?_
 refine sq ?_
 refine rg ?_
 refine q trivial rfl rfl (fa 0 fo29_0 rfl) ?_
 refine q trivial rfl rfl (ld (v := .slice Ams ms.length cms) hs1 2 rfl rfl rfl one23) ?_
 refine q trivial rfl rfl (mv (v := I k0) rfl) ?_
 refine cl trivial rfl (markIntS (Axs := Ams) (cxs := cms) (xs := ms) (k0 := k0) (w := _) (hxs := (own_ok hs1 0 rfl)) (hxs_n := (by first | omega | (simp; done) | (simp; omega))) (hk0 := (by first | omega | assumption | (simp; done) | (simp; omega)))) ?_
 rintro _ w2 ⟨rfl, hs2'⟩
 have hs2 : SH w w2 (ownM Ams cms ++ (ownM Aaq caq ++ [])) [.own Aaq aq.length caq 3 1 (aq.map I), .blk b1 29 [.slice Ams ms.length cms, Str lu, Str lw, I ak, .slice Aaq aq.length caq, Str an, I apt], .own Ams ms.length cms 3 1 ((marks k0 ms.length).map I)] := SH.callK (K := [.own Ams ms.length cms 3 1 (ms.map I)]) (R := [.own Aaq aq.length caq 3 1 (aq.map I), .blk b1 29 [.slice Ams ms.length cms, Str lu, Str lw, I ak, .slice Aaq aq.length caq, Str an, I apt]]) hs1 hs2' rfl
 clear hs2'
 have e1 : ms.length = (marks k0 ms.length).length := by first | rfl | (simp; done) | (simp; omega)
 have hs3 : SH w w2 (ownM Ams cms ++ (ownM Aaq caq ++ [])) [.own Aaq aq.length caq 3 1 (aq.map I), .blk b1 29 [.slice Ams ms.length cms, Str lu, Str lw, I ak, .slice Aaq aq.length caq, Str an, I apt], .own Ams ((marks k0 ms.length).length) cms 3 1 ((marks k0 ms.length).map I)] := (hs2.cast (lc rfl (lc rfl (lc (own_eq (g := I) rfl e1 rfl rfl) rfl))))
 clear hs2
 refine q trivial rfl rfl (asg (v := I (k0 + ((ms.length : Nat) : Int))) rfl) ?_
 refine nl ?_
 refine nN ?_
 refine sq ?_
 refine rg ?_
 refine q trivial rfl rfl (fa 3 fo29_2 rfl) ?_
 refine q trivial rfl rfl (ldg (vs := [I ak, .slice Aaq aq.length caq, Str an, I apt]) hs3 1 rfl rfl rfl rfl ag27) ?_
 refine q trivial rfl rfl (mv (v := I (k0 + ((ms.length : Nat) : Int))) rfl) ?_
 refine cl trivial rfl (markAddress (ak := ak) (Aaq := Aaq) (caq := caq) (aq := aq) (an := an) (apt := apt) (k0 := k0 + ((ms.length : Nat) : Int)) (w := _) (haq := (own_ok hs3 0 rfl)) (haq_n := (by first | omega | (simp; done) | (simp; omega))) (hk0 := (by first | omega | assumption | (simp; done) | (simp; omega)))) ?_
 rintro _ w3 ⟨rfl, hs4'⟩
 have hs4 : SH w w3 (ownM Ams cms ++ (ownM Aaq caq ++ [])) [.blk b1 29 [.slice Ams ms.length cms, Str lu, Str lw, I ak, .slice Aaq aq.length caq, Str an, I apt], .own Ams ((marks k0 ms.length).length) cms 3 1 ((marks k0 ms.length).map I), .own Aaq aq.length caq 3 1 ((marks (k0 + ((ms.length : Nat) : Int)) aq.length).map I)] := SH.callK (K := [.own Aaq aq.length caq 3 1 (aq.map I)]) (R := [.blk b1 29 [.slice Ams ms.length cms, Str lu, Str lw, I ak, .slice Aaq aq.length caq, Str an, I apt], .own Ams ((marks k0 ms.length).length) cms 3 1 ((marks k0 ms.length).map I)]) hs3 hs4' rfl
 clear hs4'
 have e2 : aq.length = (marks (k0 + ((ms.length : Nat) : Int)) aq.length).length := by first | rfl | (simp; done) | (simp; omega)
 have hs5 : SH w w3 (ownM Ams cms ++ (ownM Aaq caq ++ [])) [.blk b1 29 [.slice Ams ms.length cms, Str lu, Str lw, I ak, .slice Aaq aq.length caq, Str an, I apt], .own Ams ((marks k0 ms.length).length) cms 3 1 ((marks k0 ms.length).map I), .own Aaq ((marks (k0 + ((ms.length : Nat) : Int)) aq.length).length) caq 3 1 ((marks (k0 + ((ms.length : Nat) : Int)) aq.length).map I)] := (hs4.cast (lc rfl (lc rfl (lc (own_eq (g := I) rfl e2 rfl rfl) rfl))))
 clear hs4
 refine q trivial rfl rfl (asg (v := I ((k0 + ((ms.length : Nat) : Int)) + ((aq.length : Nat) : Int))) rfl) ?_
 refine nl ?_
 refine nN ?_
 refine sq ?_
 refine rg ?_
 refine q trivial rfl rfl (mv (v := I ((k0 + ((ms.length : Nat) : Int)) + ((aq.length : Nat) : Int))) rfl) ?_
 refine q trivial rfl rfl (asg (v := I ((k0 + ((ms.length : Nat) : Int)) + ((aq.length : Nat) : Int))) rfl) ?_
 refine nl ?_
 refine nN ?_
 refine rt ?_
 refine fret (v := I ((k0 + ((ms.length : Nat) : Int)) + ((aq.length : Nat) : Int))) (.tmp .nil) rfl ?_
 have e3 : (k0 + ((ms.length : Nat) : Int)) + ((aq.length : Nat) : Int) = k0 + ((ms.length : Nat) : Int) + ((aq.length : Nat) : Int) := by first | rfl | (simp; done) | (simp_all; done) | omega
 have e4 : (marks k0 ms.length).length = ms.length := by first | rfl | (simp; done) | omega
 have e5 : (marks (k0 + ((ms.length : Nat) : Int)) aq.length).length = aq.length := by first | rfl | (simp; done) | omega
 exact ⟨(congrArg (Value.int .i64) e3), ((hs5.pick [1, 2] rfl (by decide)).cast (lc (own_eq (g := I) rfl e4 rfl rfl) (lc (own_eq (g := I) rfl e5 rfl rfl) rfl)))⟩


end Go.Proofs.YtpddahloogjghaaDoor
