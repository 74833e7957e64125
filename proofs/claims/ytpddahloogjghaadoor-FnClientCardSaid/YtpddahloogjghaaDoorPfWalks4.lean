/-
  Part of the proofs over this seat: what each function of the program computes, function by function (the text is written by a program of this hand-in's own).
  Conditions: each theorem states its own.
-/
import Derived.Test.YtpddahloogjghaaDoorPfWalks3
namespace Go.Proofs.YtpddahloogjghaaDoor
open Go.PF
set_option maxRecDepth 100000
set_option linter.unusedSimpArgs false
set_option linter.unusedVariables false

theorem drawClientValid {Acs : Option Addr} {ccs : Nat} (cs : List UInt8) (w : World) (hcs : Sl w [] 1 Acs cs.length ccs (cs.map U)) : Does Tryd.prog 8 [.slice Acs cs.length ccs] w (fun v w' => ∃ Amr : Option Addr, ∃ cmr : Nat, ∃ Aqr : Option Addr, ∃ cqr : Nat, ∃ ms : List Int, ∃ lu : List UInt8, ∃ lw : List UInt8, ∃ ak : Int, ∃ aq : List Int, ∃ an : List UInt8, ∃ apt : Int, v = .agg #[.slice Amr ms.length cmr, Str lu, Str lw, .int .i64 ak, .slice Aqr aq.length cqr, Str an, .int .i64 apt] ∧ (ms.length ≤ 2) ∧ (lu.length ≤ 5) ∧ (lw.length ≤ 5) ∧ (aq.length ≤ 4) ∧ (an.length ≤ 21) ∧ SH w w' [] [.own Amr ms.length cmr 3 1 (ms.map I), .own Aqr aq.length cqr 3 1 (aq.map I)]) := by
 refine fn_enter (N := 6) Tryd.func8 rfl (by kernel_rfl) rfl rfl rfl ?_
 have hs0 : SH w w [] [] := SH.refl w []
 have hcs_m : cs.length ≤ 9223372036854775807 := Nat.le_trans hcs.cap hcs.capMax
 refine sq ?_
 refine rg ?_
 refine al (v := .agg #[ns, Str [], Str [], I 0, ns, Str [], I 0]) (cs := [ns, Str [], Str [], I 0, ns, Str [], I 0]) hs0 tz29 rfl trivial rfl (fun b1 w1 (hs1 : SH w w1 [] [.blk b1 29 [ns, Str [], Str [], I 0, ns, Str [], I 0]]) => ?_)
 refine nl ?_
 refine nN ?_
 refine sq ?_
 refine rg ?_
 refine q trivial rfl rfl (mv (v := .slice Acs cs.length ccs) rfl) ?_
 refine cl trivial rfl (l6Open (Acs := Acs) (ccs := ccs) (cs := cs) (w := _) (hcs := (hcs.up0 hs1))) ?_
 rintro _ w2 ⟨g1, rfl, hs2'⟩
 have hs2 : SH w w2 [] [.blk b1 29 [ns, Str [], Str [], I 0, ns, Str [], I 0], .blk g1 78 [.slice Acs ((cs.take 2000).length) ccs, I 0]] := hs1.call0 hs2'
 clear hs2'
 refine cl trivial rfl (l92Client (rb := g1) (Ab := Acs) (cb := ccs) (bs := cs.take 2000) (p := 0) (w := _) (hr := (blk_heap hs2 1 rfl)) (hb := (Sl.take_ (hcs.up hs2 (by simp) (fun k h => .inr (hs2.lo1 1 rfl k h))) 2000)) (hbn := (by first | assumption | (simp; omega))) (hp := (by omega))) ?_
 rintro _ w3 ⟨Am1, cm1, Aq1, cq1, ms1, lu1, lw1, ak1, aq1, an1, apt1, q1, rfl, p1, p2, p3, p4, p5, p6, hs3'⟩
 have hs3 : SH w w3 [] [.blk b1 29 [ns, Str [], Str [], I 0, ns, Str [], I 0], .blk g1 78 [.slice Acs ((cs.take 2000).length) ccs, I ((q1 : Nat) : Int)], .own Am1 ms1.length cm1 3 1 (ms1.map I), .own Aq1 aq1.length cq1 3 1 (aq1.map I)] := hs2.callM 1 rfl hs3' (by intro k hk; simp at hk; exact hk.symm)
 clear hs3'
 refine stg (vs := [.slice Am1 ms1.length cm1, Str lu1, Str lw1, I ak1, .slice Aq1 aq1.length cq1, Str an1, I apt1]) hs3 0 rfl rfl rfl rfl rfl rfl rfl ag29 trivial (fun w4 (hs4 : SH w w4 [] [.blk g1 78 [.slice Acs ((cs.take 2000).length) ccs, I ((q1 : Nat) : Int)], .own Am1 ms1.length cm1 3 1 (ms1.map I), .own Aq1 aq1.length cq1 3 1 (aq1.map I), .blk b1 29 [.slice Am1 ms1.length cm1, Str lu1, Str lw1, I ak1, .slice Aq1 aq1.length cq1, Str an1, I apt1]]) => ?_)
 refine nl ?_
 refine nN ?_
 refine rt ?_
 refine fret (v := .agg #[.slice Am1 ms1.length cm1, Str lu1, Str lw1, I ak1, .slice Aq1 aq1.length cq1, Str an1, I apt1]) (resC hs4 3 rfl rfl ag29 rfl .nil) rfl ?_
 exact ⟨Am1, cm1, Aq1, cq1, ms1, lu1, lw1, ak1, aq1, an1, apt1, rfl, (by first | assumption | omega | (simp; omega)), (by first | assumption | omega | (simp; omega)), (by first | assumption | omega | (simp; omega)), (by first | assumption | omega | (simp; omega)), (by first | assumption | omega | (simp; omega)), (hs4.pick [1, 2] rfl (by decide))⟩


end Go.Proofs.YtpddahloogjghaaDoor
