/-
  Part of the proofs over this seat: what each function of the program computes, function by function (the text is written by a program of this hand-in's own).
  Conditions: each theorem states its own.
-/
import Derived.Test.YtpddahloogjghaaDoorPfWalks4
namespace Go.Proofs.YtpddahloogjghaaDoor
open Go.PF
set_option maxRecDepth 100000
set_option linter.unusedSimpArgs false
set_option linter.unusedVariables false

theorem lClient {Acs : Option Addr} {ccs : Nat} (cs : List UInt8) (w : World) (hcs : Sl w [] 1 Acs cs.length ccs (cs.map U)) : Does Tryd.prog 3 [.slice Acs cs.length ccs] w (fun v w' => v = .bool true ∧ SH w w' [] []) := by
 refine fn_enter (N := 41) Tryd.func3 rfl (by kernel_rfl) rfl rfl rfl ?_
 have hs0 : SH w w [] [] := SH.refl w []
 have hcs_m : cs.length ≤ 9223372036854775807 := Nat.le_trans hcs.cap hcs.capMax
 refine sq ?_
 refine rg ?_
 refine q trivial rfl rfl (asg (v := .bool false) rfl) ?_
 refine nl ?_
 refine nN ?_
 refine sq ?_
 refine sq ?_
 refine rg ?_
 refine q trivial rfl rfl (mv (v := .slice Acs cs.length ccs) rfl) ?_
 refine q trivial rfl rfl (lnA (n := cs.length) sl22 rfl) ?_
 refine q trivial rfl rfl (gtr (k := .i64) (a := ((cs.length : Nat) : Int)) (b := 1048576) rfl rfl) ?_
 refine nl ?_
 refine nN ?_
 refine cdd (p := (1048576 : Int) < ((cs.length : Nat) : Int)) rfl (fun h1 => ?_) (fun h1 => ?_)
 · refine sq ?_
   refine rg ?_
   refine q trivial rfl rfl (asg (v := .bool true) rfl) ?_
   refine nl ?_
   refine nN ?_
   refine rt (tR ?_)
   refine fret (v := .bool true) (.tmp .nil) rfl ?_
   exact ⟨rfl, hs0⟩
 · refine sk ?_
   refine nN ?_
   refine sq ?_
   refine rg ?_
   refine q trivial rfl rfl (mv (v := .slice Acs cs.length ccs) rfl) ?_
   refine cl trivial rfl (drawClientValid (Acs := Acs) (ccs := ccs) (cs := cs) (w := _) (hcs := (hcs.up0 hs0))) ?_
   rintro _ w1 ⟨Am1, cm1, Aq1, cq1, ms1, lu1, lw1, ak1, aq1, an1, apt1, rfl, p1, p2, p3, p4, p5, hs1'⟩
   have hs1 : SH w w1 [] [.own Am1 ms1.length cm1 3 1 (ms1.map I), .own Aq1 aq1.length cq1 3 1 (aq1.map I)] := hs0.call0 hs1'
   clear hs1'
   refine al (v := .agg #[ns, Str [], Str [], I 0, ns, Str [], I 0]) (cs := [ns, Str [], Str [], I 0, ns, Str [], I 0]) hs1 tz29 rfl trivial rfl (fun b1 w2 (hs2 : SH w w2 [] [.own Am1 ms1.length cm1 3 1 (ms1.map I), .own Aq1 aq1.length cq1 3 1 (aq1.map I), .blk b1 29 [ns, Str [], Str [], I 0, ns, Str [], I 0]]) => ?_)
   refine stg (vs := [.slice Am1 ms1.length cm1, Str lu1, Str lw1, I ak1, .slice Aq1 aq1.length cq1, Str an1, I apt1]) hs2 2 rfl rfl rfl rfl rfl rfl rfl ag29 trivial (fun w3 (hs3 : SH w w3 [] [.own Am1 ms1.length cm1 3 1 (ms1.map I), .own Aq1 aq1.length cq1 3 1 (aq1.map I), .blk b1 29 [.slice Am1 ms1.length cm1, Str lu1, Str lw1, I ak1, .slice Aq1 aq1.length cq1, Str an1, I apt1]]) => ?_)
   refine nl ?_
   refine nN ?_
   refine sq ?_
   refine rg ?_
   refine q trivial rfl rfl (ldg (vs := [.slice Am1 ms1.length cm1, Str lu1, Str lw1, I ak1, .slice Aq1 aq1.length cq1, Str an1, I apt1]) hs3 2 rfl rfl rfl rfl ag29) ?_
   refine cl trivial rfl (iClientValid (Ams := Am1) (cms := cm1) (ms := ms1) (lu := lu1) (lw := lw1) (ak := ak1) (Aaq := Aq1) (caq := cq1) (aq := aq1) (an := an1) (apt := apt1) (w := _) (hms := (hs3.sl0 0 rfl)) (hlu_n := (by first | omega | (simp; done) | (simp; omega))) (hlw_n := (by first | omega | (simp; done) | (simp; omega))) (haq := (hs3.sl0 1 rfl)) (han_n := (by first | omega | (simp; done) | (simp; omega)))) ?_
   rintro _ w4 ⟨rfl, hs4'⟩
   have hs4 : SH w w4 [] [.own Am1 ms1.length cm1 3 1 (ms1.map I), .own Aq1 aq1.length cq1 3 1 (aq1.map I), .blk b1 29 [.slice Am1 ms1.length cm1, Str lu1, Str lw1, I ak1, .slice Aq1 aq1.length cq1, Str an1, I apt1]] := hs3.call0 hs4'
   clear hs4'
   refine q trivial rfl rfl (asg (v := .bool (clientOk ms1 lu1 lw1 ak1 aq1 an1 apt1)) rfl) ?_
   refine nl ?_
   refine nN ?_
   refine sq ?_
   refine rg ?_
   refine q trivial rfl rfl (ldg (vs := [.slice Am1 ms1.length cm1, Str lu1, Str lw1, I ak1, .slice Aq1 aq1.length cq1, Str an1, I apt1]) hs4 2 rfl rfl rfl rfl ag29) ?_
   refine cl trivial rfl (sClientValid (Ams := Am1) (cms := cm1) (ms := ms1) (lu := lu1) (lw := lw1) (ak := ak1) (Aaq := Aq1) (caq := cq1) (aq := aq1) (an := an1) (apt := apt1) (w := _) (hms := (hs4.sl0 0 rfl)) (hlu_n := (by first | omega | (simp; done) | (simp; omega))) (hlw_n := (by first | omega | (simp; done) | (simp; omega))) (haq := (hs4.sl0 1 rfl)) (han_n := (by first | omega | (simp; done) | (simp; omega)))) ?_
   rintro _ w5 ⟨rfl, hs5'⟩
   have hs5 : SH w w5 [] [.own Am1 ms1.length cm1 3 1 (ms1.map I), .own Aq1 aq1.length cq1 3 1 (aq1.map I), .blk b1 29 [.slice Am1 ms1.length cm1, Str lu1, Str lw1, I ak1, .slice Aq1 aq1.length cq1, Str an1, I apt1]] := hs4.call0 hs5'
   clear hs5'
   refine q trivial rfl rfl (asg (v := .bool (clientOk ms1 lu1 lw1 ak1 aq1 an1 apt1)) rfl) ?_
   refine nl ?_
   refine nN ?_
   refine sq ?_
   refine sq ?_
   refine rg ?_
   refine q trivial rfl rfl (mv (v := .bool (clientOk ms1 lu1 lw1 ak1 aq1 an1 apt1)) rfl) ?_
   refine q trivial rfl rfl (mv (v := .bool (clientOk ms1 lu1 lw1 ak1 aq1 an1 apt1)) rfl) ?_
   refine q trivial rfl rfl (neb (a := (clientOk ms1 lu1 lw1 ak1 aq1 an1 apt1)) (b := (clientOk ms1 lu1 lw1 ak1 aq1 an1 apt1)) tb4 rfl rfl) ?_
   refine q trivial rfl rfl (mv (v := .bool (decide ((clientOk ms1 lu1 lw1 ak1 aq1 an1 apt1) ≠ (clientOk ms1 lu1 lw1 ak1 aq1 an1 apt1)))) rfl) ?_
   refine spd (p := (clientOk ms1 lu1 lw1 ak1 aq1 an1 apt1) ≠ (clientOk ms1 lu1 lw1 ak1 aq1 an1 apt1)) 20 rfl (fun h2 => absurd h2 (by exact fun h => h rfl)) (fun h2 => ?_)
   refine q ⟨_, rfl, rfl⟩ rfl rfl (mv (v := .bool (clientOk ms1 lu1 lw1 ak1 aq1 an1 apt1)) rfl) ?_
   refine q ⟨_, rfl, rfl⟩ rfl rfl (nt (b := clientOk ms1 lu1 lw1 ak1 aq1 an1 apt1) rfl) ?_
   refine q trivial rfl rfl (pf (v := .bool (!(clientOk ms1 lu1 lw1 ak1 aq1 an1 apt1))) rfl rfl) ?_
   refine nl ?_
   refine nN ?_
   refine cd (b := !(clientOk ms1 lu1 lw1 ak1 aq1 an1 apt1)) rfl (fun h3 => ?_) (fun h3 => ?_)
   · have h4 : (clientOk ms1 lu1 lw1 ak1 aq1 an1 apt1) = false := by simpa using h3
     refine sq ?_
     refine rg ?_
     refine q trivial rfl rfl (mv (v := .bool (clientOk ms1 lu1 lw1 ak1 aq1 an1 apt1)) rfl) ?_
     refine q trivial rfl rfl (mv (v := .bool (clientOk ms1 lu1 lw1 ak1 aq1 an1 apt1)) rfl) ?_
     refine q trivial rfl rfl (eqb (a := (clientOk ms1 lu1 lw1 ak1 aq1 an1 apt1)) (b := (clientOk ms1 lu1 lw1 ak1 aq1 an1 apt1)) tb4 rfl rfl) ?_
     refine q trivial rfl rfl (asg (v := .bool (decide ((clientOk ms1 lu1 lw1 ak1 aq1 an1 apt1) = (clientOk ms1 lu1 lw1 ak1 aq1 an1 apt1)))) rfl) ?_
     refine nl ?_
     refine nN ?_
     refine rt (tR ?_)
     refine fret (v := .bool (decide ((clientOk ms1 lu1 lw1 ak1 aq1 an1 apt1) = (clientOk ms1 lu1 lw1 ak1 aq1 an1 apt1)))) (.tmp .nil) rfl ?_
     have e1 : (decide ((clientOk ms1 lu1 lw1 ak1 aq1 an1 apt1) = (clientOk ms1 lu1 lw1 ak1 aq1 an1 apt1))) = true := by first | rfl | (simp; done) | (simp [client_a]; done) | (exfalso; have hx := client_nil lu1 lw1 ak1 aq1 an1 apt1; simp_all; done)
     exact ⟨(congrArg (Value.bool) e1), (hs5.pick [] rfl (by decide))⟩
   · have h5 : (clientOk ms1 lu1 lw1 ak1 aq1 an1 apt1) = true := by simpa using h3
     refine sk ?_
     refine nN ?_
     refine sq ?_
     refine rg ?_
     refine q trivial rfl rfl (ldg (vs := [.slice Am1 ms1.length cm1, Str lu1, Str lw1, I ak1, .slice Aq1 aq1.length cq1, Str an1, I apt1]) hs5 2 rfl rfl rfl rfl ag29) ?_
     refine al (v := .agg #[ns, Str [], Str [], I 0, ns, Str [], I 0]) (cs := [ns, Str [], Str [], I 0, ns, Str [], I 0]) hs5 tz29 rfl trivial rfl (fun b2 w6 (hs6 : SH w w6 [] [.own Am1 ms1.length cm1 3 1 (ms1.map I), .own Aq1 aq1.length cq1 3 1 (aq1.map I), .blk b1 29 [.slice Am1 ms1.length cm1, Str lu1, Str lw1, I ak1, .slice Aq1 aq1.length cq1, Str an1, I apt1], .blk b2 29 [ns, Str [], Str [], I 0, ns, Str [], I 0]]) => ?_)
     refine stg (vs := [.slice Am1 ms1.length cm1, Str lu1, Str lw1, I ak1, .slice Aq1 aq1.length cq1, Str an1, I apt1]) hs6 3 rfl rfl rfl rfl rfl rfl rfl ag29 trivial (fun w7 (hs7 : SH w w7 [] [.own Am1 ms1.length cm1 3 1 (ms1.map I), .own Aq1 aq1.length cq1 3 1 (aq1.map I), .blk b1 29 [.slice Am1 ms1.length cm1, Str lu1, Str lw1, I ak1, .slice Aq1 aq1.length cq1, Str an1, I apt1], .blk b2 29 [.slice Am1 ms1.length cm1, Str lu1, Str lw1, I ak1, .slice Aq1 aq1.length cq1, Str an1, I apt1]]) => ?_)
     refine nl ?_
     refine nN ?_
     refine sq ?_
     refine rg ?_
     refine bsk hs7 sl23 [] [] trivial rfl (fun b3 w8 (hs8 : SH w w8 [] [.own Am1 ms1.length cm1 3 1 (ms1.map I), .own Aq1 aq1.length cq1 3 1 (aq1.map I), .blk b1 29 [.slice Am1 ms1.length cm1, Str lu1, Str lw1, I ak1, .slice Aq1 aq1.length cq1, Str an1, I apt1], .blk b2 29 [.slice Am1 ms1.length cm1, Str lu1, Str lw1, I ak1, .slice Aq1 aq1.length cq1, Str an1, I apt1], oI b3 ([] : List Int) 0 3]) => ?_)
     refine q trivial rfl rfl (fa 0 fo29_0 rfl) ?_
     refine st (v := sb b3 (([] : List Int).length) 0) hs8 3 rfl rfl rfl rfl rfl one23 trivial (fun w9 (hs9 : SH w w9 [] [.own Am1 ms1.length cm1 3 1 (ms1.map I), .own Aq1 aq1.length cq1 3 1 (aq1.map I), .blk b1 29 [.slice Am1 ms1.length cm1, Str lu1, Str lw1, I ak1, .slice Aq1 aq1.length cq1, Str an1, I apt1], oI b3 ([] : List Int) 0 3, .blk b2 29 [sb b3 (([] : List Int).length) 0, Str lu1, Str lw1, I ak1, .slice Aq1 aq1.length cq1, Str an1, I apt1]]) => ?_)
     refine nl ?_
     refine nN ?_
     refine sq ?_
     refine rg ?_
     refine q trivial rfl rfl (ldg (vs := [.slice Am1 ms1.length cm1, Str lu1, Str lw1, I ak1, .slice Aq1 aq1.length cq1, Str an1, I apt1]) hs9 2 rfl rfl rfl rfl ag29) ?_
     refine al (v := .agg #[ns, Str [], Str [], I 0, ns, Str [], I 0]) (cs := [ns, Str [], Str [], I 0, ns, Str [], I 0]) hs9 tz29 rfl trivial rfl (fun b4 w10 (hs10 : SH w w10 [] [.own Am1 ms1.length cm1 3 1 (ms1.map I), .own Aq1 aq1.length cq1 3 1 (aq1.map I), .blk b1 29 [.slice Am1 ms1.length cm1, Str lu1, Str lw1, I ak1, .slice Aq1 aq1.length cq1, Str an1, I apt1], oI b3 ([] : List Int) 0 3, .blk b2 29 [sb b3 (([] : List Int).length) 0, Str lu1, Str lw1, I ak1, .slice Aq1 aq1.length cq1, Str an1, I apt1], .blk b4 29 [ns, Str [], Str [], I 0, ns, Str [], I 0]]) => ?_)
     refine stg (vs := [.slice Am1 ms1.length cm1, Str lu1, Str lw1, I ak1, .slice Aq1 aq1.length cq1, Str an1, I apt1]) hs10 5 rfl rfl rfl rfl rfl rfl rfl ag29 trivial (fun w11 (hs11 : SH w w11 [] [.own Am1 ms1.length cm1 3 1 (ms1.map I), .own Aq1 aq1.length cq1 3 1 (aq1.map I), .blk b1 29 [.slice Am1 ms1.length cm1, Str lu1, Str lw1, I ak1, .slice Aq1 aq1.length cq1, Str an1, I apt1], oI b3 ([] : List Int) 0 3, .blk b2 29 [sb b3 (([] : List Int).length) 0, Str lu1, Str lw1, I ak1, .slice Aq1 aq1.length cq1, Str an1, I apt1], .blk b4 29 [.slice Am1 ms1.length cm1, Str lu1, Str lw1, I ak1, .slice Aq1 aq1.length cq1, Str an1, I apt1]]) => ?_)
     refine nl ?_
     refine nN ?_
     refine sq ?_
     refine rg ?_
     refine q trivial rfl rfl (bdv (v := .agg #[Str [97], Str []]) [(0, Str [97])] rfl (fun _ => by kernel_rfl)) ?_
     refine q trivial rfl rfl (fa 1 fo29_1 rfl) ?_
     refine stg (vs := [Str [97], Str []]) hs11 5 rfl rfl rfl rfl rfl rfl rfl ag25 trivial (fun w12 (hs12 : SH w w12 [] [.own Am1 ms1.length cm1 3 1 (ms1.map I), .own Aq1 aq1.length cq1 3 1 (aq1.map I), .blk b1 29 [.slice Am1 ms1.length cm1, Str lu1, Str lw1, I ak1, .slice Aq1 aq1.length cq1, Str an1, I apt1], oI b3 ([] : List Int) 0 3, .blk b2 29 [sb b3 (([] : List Int).length) 0, Str lu1, Str lw1, I ak1, .slice Aq1 aq1.length cq1, Str an1, I apt1], .blk b4 29 [.slice Am1 ms1.length cm1, Str [97], Str [], I ak1, .slice Aq1 aq1.length cq1, Str an1, I apt1]]) => ?_)
     refine nl ?_
     refine nN ?_
     refine sq ?_
     refine rg ?_
     refine q trivial rfl rfl (ldg (vs := [sb b3 (([] : List Int).length) 0, Str lu1, Str lw1, I ak1, .slice Aq1 aq1.length cq1, Str an1, I apt1]) hs12 4 rfl rfl rfl rfl ag29) ?_
     refine cl trivial rfl (iClientValid (Ams := (some ⟨b3, 0, none⟩)) (cms := 0) (ms := ([] : List Int)) (lu := lu1) (lw := lw1) (ak := ak1) (Aaq := Aq1) (caq := cq1) (aq := aq1) (an := an1) (apt := apt1) (w := _) (hms := (hs12.sl0 3 rfl)) (hlu_n := (by first | omega | (simp; done) | (simp; omega))) (hlw_n := (by first | omega | (simp; done) | (simp; omega))) (haq := (hs12.sl0 1 rfl)) (han_n := (by first | omega | (simp; done) | (simp; omega)))) ?_
     rintro _ w13 ⟨rfl, hs13'⟩
     have hs13 : SH w w13 [] [.own Am1 ms1.length cm1 3 1 (ms1.map I), .own Aq1 aq1.length cq1 3 1 (aq1.map I), .blk b1 29 [.slice Am1 ms1.length cm1, Str lu1, Str lw1, I ak1, .slice Aq1 aq1.length cq1, Str an1, I apt1], oI b3 ([] : List Int) 0 3, .blk b2 29 [sb b3 (([] : List Int).length) 0, Str lu1, Str lw1, I ak1, .slice Aq1 aq1.length cq1, Str an1, I apt1], .blk b4 29 [.slice Am1 ms1.length cm1, Str [97], Str [], I ak1, .slice Aq1 aq1.length cq1, Str an1, I apt1]] := hs12.call0 hs13'
     clear hs13'
     refine q trivial rfl rfl (nt (b := clientOk ([] : List Int) lu1 lw1 ak1 aq1 an1 apt1) rfl) ?_
     refine q trivial rfl rfl (mv (v := .bool (!(clientOk ([] : List Int) lu1 lw1 ak1 aq1 an1 apt1))) rfl) ?_
     refine spl (b := !(clientOk ([] : List Int) lu1 lw1 ak1 aq1 an1 apt1)) 36 rfl (fun h6 => ?_) (fun h6 => ?_)
     · have h7 : (clientOk ([] : List Int) lu1 lw1 ak1 aq1 an1 apt1) = false := by simpa using h6
       refine q ⟨_, rfl, rfl⟩ rfl rfl (ldg (vs := [.slice Am1 ms1.length cm1, Str [97], Str [], I ak1, .slice Aq1 aq1.length cq1, Str an1, I apt1]) hs13 5 rfl rfl rfl rfl ag29) ?_
       refine cl ⟨_, rfl, rfl⟩ rfl (iClientValid (Ams := Am1) (cms := cm1) (ms := ms1) (lu := [97]) (lw := []) (ak := ak1) (Aaq := Aq1) (caq := cq1) (aq := aq1) (an := an1) (apt := apt1) (w := _) (hms := (hs13.sl0 0 rfl)) (hlu_n := (by first | omega | (simp; done) | (simp; omega))) (hlw_n := (by first | omega | (simp; done) | (simp; omega))) (haq := (hs13.sl0 1 rfl)) (han_n := (by first | omega | (simp; done) | (simp; omega)))) ?_
       rintro _ w14 ⟨rfl, hs14'⟩
       have hs14 : SH w w14 [] [.own Am1 ms1.length cm1 3 1 (ms1.map I), .own Aq1 aq1.length cq1 3 1 (aq1.map I), .blk b1 29 [.slice Am1 ms1.length cm1, Str lu1, Str lw1, I ak1, .slice Aq1 aq1.length cq1, Str an1, I apt1], oI b3 ([] : List Int) 0 3, .blk b2 29 [sb b3 (([] : List Int).length) 0, Str lu1, Str lw1, I ak1, .slice Aq1 aq1.length cq1, Str an1, I apt1], .blk b4 29 [.slice Am1 ms1.length cm1, Str [97], Str [], I ak1, .slice Aq1 aq1.length cq1, Str an1, I apt1]] := hs13.call0 hs14'
       clear hs14'
       refine q ⟨_, rfl, rfl⟩ rfl rfl (nt (b := clientOk ms1 [97] [] ak1 aq1 an1 apt1) rfl) ?_
       refine q trivial rfl rfl (pt (v := .bool (!(clientOk ms1 [97] [] ak1 aq1 an1 apt1))) rfl rfl) ?_
       refine q trivial rfl rfl (asg (v := .bool (!(clientOk ms1 [97] [] ak1 aq1 an1 apt1))) rfl) ?_
       refine nl ?_
       refine nN ?_
       have hs15 : SH w w14 [] [] := hs14.pick [] rfl (by decide)
       refine rt ?_
       refine fret (v := .bool (!(clientOk ms1 [97] [] ak1 aq1 an1 apt1))) (.tmp .nil) rfl ?_
       have e2 : (!(clientOk ms1 [97] [] ak1 aq1 an1 apt1)) = true := by first | rfl | (simp; done) | (simp [client_a]; done) | (exfalso; have hx := client_nil lu1 lw1 ak1 aq1 an1 apt1; simp_all; done)
       exact ⟨(congrArg (Value.bool) e2), hs15⟩
     · have h8 : (clientOk ([] : List Int) lu1 lw1 ak1 aq1 an1 apt1) = true := by simpa using h6
       refine gk false rfl rfl rfl rfl rfl ?_
       refine gk false rfl rfl rfl rfl rfl ?_
       refine gk false rfl rfl rfl rfl rfl ?_
       refine q trivial rfl rfl (pf (v := .bool false) rfl rfl) ?_
       refine q trivial rfl rfl (asg (v := .bool false) rfl) ?_
       refine nl ?_
       refine nN ?_
       have hs16 : SH w w13 [] [] := hs13.pick [] rfl (by decide)
       refine rt ?_
       refine fret (v := .bool false) (.tmp .nil) rfl ?_
       have e3 : false = true := by first | rfl | (simp; done) | (simp [client_a]; done) | (exfalso; have hx := client_nil lu1 lw1 ak1 aq1 an1 apt1; simp_all; done)
       exact ⟨(congrArg (Value.bool) e3), hs16⟩

end Go.Proofs.YtpddahloogjghaaDoor
