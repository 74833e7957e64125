/-
  Part of the proofs over this seat: what each function of the program computes, function by function (the text is written by a program of this hand-in's own).
  Conditions: each theorem states its own.
-/
import Derived.Test.YtcgdccfofinheaaDoorPfWalks4
namespace Go.Proofs.YtcgdccfofinheaaDoor
open Go.PF
set_option maxRecDepth 100000
set_option linter.unusedSimpArgs false
set_option linter.unusedVariables false

set_option maxHeartbeats 8000000 in
theorem l92Request {rb : Nat} {Ab : Option Addr} {cb : Nat} {bs : List UInt8} {p : Nat} (w : World) (hr : w.heap[rb]? = some (.cells [.slice Ab bs.length cb, .int .i64 ((p : Nat) : Int)].toArray 74 (0, 0))) (hb : Sl w [rb] 1 Ab bs.length cb (bs.map U)) (hbn : bs.length ≤ 2000) (hp : p ≤ 68719476736) : Does Tryd.prog 44 [pB rb] w (fun v w' => ∃ Aqr : Option Addr, ∃ cqr : Nat, ∃ cm : Int, ∃ ak : Int, ∃ aq : List Int, ∃ an : List UInt8, ∃ apt : Int, ∃ q : Nat, v = .agg #[.int .i64 cm, .int .i64 ak, .slice Aqr aq.length cqr, Str an, .int .i64 apt] ∧ (aq.length ≤ 4) ∧ (an.length ≤ 21) ∧ (q ≤ p + 60) ∧ SH w w' [rb] [.blk rb 74 [.slice Ab bs.length cb, I ((q : Nat) : Int)], .own Aqr aq.length cqr 3 1 (aq.map I)]) := by
 refine fn_enter (N := 24) Tryd.func44 rfl (by kernel_rfl) rfl rfl rfl ?_
 have hs0 : SH w w [rb] [.blk rb 74 [.slice Ab bs.length cb, I ((p : Nat) : Int)]] := SH.entry1 hr
 refine sq ?_
 refine rg ?_
 refine al (v := .agg #[I 0, I 0, ns, Str [], I 0]) (cs := [I 0, I 0, ns, Str [], I 0]) hs0 tz44 rfl trivial rfl (fun b1 w1 (hs1 : SH w w1 [rb] [.blk rb 74 [.slice Ab bs.length cb, I ((p : Nat) : Int)], .blk b1 44 [I 0, I 0, ns, Str [], I 0]]) => ?_)
 refine nl ?_
 refine nN ?_
 refine sq ?_
 refine rg ?_
 refine q trivial rfl rfl (mv (v := pB rb) rfl) ?_
 refine cl trivial rfl (pick (rb := rb) (Ab := Ab) (cb := cb) (bs := bs) (p := p) (n := 3) (w := _) (hr := (blk_heap hs1 0 rfl)) (hb := (hb.up hs1 (fun _ h => h) (fun _ h => .inl h))) (hbn := (by first | assumption | (simp; omega))) (hp := (by omega))) ?_
 rintro _ w2 ⟨r1, q1, rfl, p1, p2, hs2'⟩
 have hs2 : SH w w2 [rb] [.blk b1 44 [I 0, I 0, ns, Str [], I 0], .blk rb 74 [.slice Ab bs.length cb, I ((q1 : Nat) : Int)]] := hs1.callM 0 rfl hs2' (by intro k hk; simp at hk; exact hk.symm)
 clear hs2'
 refine q trivial rfl rfl (add (a := 1) (b := r1) rfl rfl (by exact ⟨by omega, by omega⟩)) ?_
 refine q trivial rfl rfl (mv (v := pB rb) rfl) ?_
 refine cl trivial rfl (l91Address (rb := rb) (Ab := Ab) (cb := cb) (bs := bs) (p := q1) (w := _) (hr := (blk_heap hs2 1 rfl)) (hb := (hb.up hs2 (fun _ h => h) (fun _ h => .inl h))) (hbn := (by first | assumption | (simp; omega))) (hp := (by omega))) ?_
 rintro _ w3 ⟨Aq1, cq1, ak1, aq1, an1, apt1, q2, rfl, p3, p4, p5, hs3'⟩
 have hs3 : SH w w3 [rb] [.blk b1 44 [I 0, I 0, ns, Str [], I 0], .blk rb 74 [.slice Ab bs.length cb, I ((q2 : Nat) : Int)], .own Aq1 aq1.length cq1 3 1 (aq1.map I)] := hs2.callM 1 rfl hs3' (by intro k hk; simp at hk; exact hk.symm)
 clear hs3'
 refine q trivial rfl rfl (bdv (v := .agg #[I (1 + r1), I ak1, .slice Aq1 aq1.length cq1, Str an1, I apt1]) [(0, I (1 + r1)), (1, .agg #[I ak1, .slice Aq1 aq1.length cq1, Str an1, I apt1])] rfl (fun _ => by kernel_rfl)) ?_
 refine al (v := .agg #[I 0, I 0, ns, Str [], I 0]) (cs := [I 0, I 0, ns, Str [], I 0]) hs3 tz44 rfl trivial rfl (fun b2 w4 (hs4 : SH w w4 [rb] [.blk b1 44 [I 0, I 0, ns, Str [], I 0], .blk rb 74 [.slice Ab bs.length cb, I ((q2 : Nat) : Int)], .own Aq1 aq1.length cq1 3 1 (aq1.map I), .blk b2 44 [I 0, I 0, ns, Str [], I 0]]) => ?_)
 refine stg (vs := [I (1 + r1), I ak1, .slice Aq1 aq1.length cq1, Str an1, I apt1]) hs4 3 rfl rfl rfl rfl rfl rfl rfl ag44 trivial (fun w5 (hs5 : SH w w5 [rb] [.blk b1 44 [I 0, I 0, ns, Str [], I 0], .blk rb 74 [.slice Ab bs.length cb, I ((q2 : Nat) : Int)], .own Aq1 aq1.length cq1 3 1 (aq1.map I), .blk b2 44 [I (1 + r1), I ak1, .slice Aq1 aq1.length cq1, Str an1, I apt1]]) => ?_)
 refine nl ?_
 refine nN ?_
 refine sq ?_
 refine sq ?_
 refine rg ?_
 refine q trivial rfl rfl (mv (v := pB rb) rfl) ?_
 refine cl trivial rfl (pick (rb := rb) (Ab := Ab) (cb := cb) (bs := bs) (p := q2) (n := 2) (w := _) (hr := (blk_heap hs5 1 rfl)) (hb := (hb.up hs5 (fun _ h => h) (fun _ h => .inl h))) (hbn := (by first | assumption | (simp; omega))) (hp := (by omega))) ?_
 rintro _ w6 ⟨r2, q3, rfl, p6, p7, hs6'⟩
 have hs6 : SH w w6 [rb] [.blk b1 44 [I 0, I 0, ns, Str [], I 0], .own Aq1 aq1.length cq1 3 1 (aq1.map I), .blk b2 44 [I (1 + r1), I ak1, .slice Aq1 aq1.length cq1, Str an1, I apt1], .blk rb 74 [.slice Ab bs.length cb, I ((q3 : Nat) : Int)]] := hs5.callM 1 rfl hs6' (by intro k hk; simp at hk; exact hk.symm)
 clear hs6'
 refine q trivial rfl rfl (eqi (k := .i64) (a := r2) (b := 0) rfl rfl) ?_
 refine nl ?_
 refine nN ?_
 refine cdd (p := r2 = 0) rfl (fun h1 => ?_) (fun h1 => ?_)
 · refine rg ?_
   refine q trivial rfl rfl (fa 0 fo44_0 rfl) ?_
   refine st (v := I 1) hs6 2 rfl rfl rfl rfl rfl one3 trivial (fun w7 (hs7 : SH w w7 [rb] [.blk b1 44 [I 0, I 0, ns, Str [], I 0], .own Aq1 aq1.length cq1 3 1 (aq1.map I), .blk rb 74 [.slice Ab bs.length cb, I ((q3 : Nat) : Int)], .blk b2 44 [I 1, I ak1, .slice Aq1 aq1.length cq1, Str an1, I apt1]]) => ?_)
   refine nl ?_
   refine nN ?_
   refine sq ?_
   refine sq ?_
   refine rg ?_
   refine q trivial rfl rfl (mv (v := pB rb) rfl) ?_
   refine cl trivial rfl (pick (rb := rb) (Ab := Ab) (cb := cb) (bs := bs) (p := q3) (n := 30) (w := _) (hr := (blk_heap hs7 2 rfl)) (hb := (hb.up hs7 (fun _ h => h) (fun _ h => .inl h))) (hbn := (by first | assumption | (simp; omega))) (hp := (by omega))) ?_
   rintro _ w8 ⟨r3, q4, rfl, p8, p9, hs8'⟩
   have hs8 : SH w w8 [rb] [.blk b1 44 [I 0, I 0, ns, Str [], I 0], .own Aq1 aq1.length cq1 3 1 (aq1.map I), .blk b2 44 [I 1, I ak1, .slice Aq1 aq1.length cq1, Str an1, I apt1], .blk rb 74 [.slice Ab bs.length cb, I ((q4 : Nat) : Int)]] := hs7.callM 2 rfl hs8' (by intro k hk; simp at hk; exact hk.symm)
   clear hs8'
   refine q trivial rfl rfl (eqi (k := .i64) (a := r3) (b := 0) rfl rfl) ?_
   refine nl ?_
   refine nN ?_
   refine cdd (p := r3 = 0) rfl (fun h2 => ?_) (fun h2 => ?_)
   · refine rg ?_
     refine bsk hs8 sl23 [I 0, I 4] [I 0, I 4] trivial rfl (fun b3 w9 (hs9 : SH w w9 [rb] [.blk b1 44 [I 0, I 0, ns, Str [], I 0], .own Aq1 aq1.length cq1 3 1 (aq1.map I), .blk b2 44 [I 1, I ak1, .slice Aq1 aq1.length cq1, Str an1, I apt1], .blk rb 74 [.slice Ab bs.length cb, I ((q4 : Nat) : Int)], oI b3 ([0, 4] : List Int) 2 3]) => ?_)
     refine q trivial rfl rfl (mv (v := pB rb) rfl) ?_
     refine cl trivial rfl (pick (rb := rb) (Ab := Ab) (cb := cb) (bs := bs) (p := q4) (n := 2) (w := _) (hr := (blk_heap hs9 3 rfl)) (hb := (hb.up hs9 (fun _ h => h) (fun _ h => .inl h))) (hbn := (by first | assumption | (simp; omega))) (hp := (by omega))) ?_
     rintro _ w10 ⟨r4, q5, rfl, p10, p11, hs10'⟩
     have hs10 : SH w w10 [rb] [.blk b1 44 [I 0, I 0, ns, Str [], I 0], .own Aq1 aq1.length cq1 3 1 (aq1.map I), .blk b2 44 [I 1, I ak1, .slice Aq1 aq1.length cq1, Str an1, I apt1], oI b3 ([0, 4] : List Int) 2 3, .blk rb 74 [.slice Ab bs.length cb, I ((q5 : Nat) : Int)]] := hs9.callM 3 rfl hs10' (by intro k hk; simp at hk; exact hk.symm)
     clear hs10'
     refine q trivial rfl rfl (ixo r4.toNat sl23 rfl (ieq (x := r4) (by omega)) (by first | omega | (simp; done) | (simp; omega))) ?_
     refine q trivial rfl rfl (ldo1n (g := I) (ys := ([0, 4] : List Int)) (o := r4.toNat) 0 hs10 3 rfl rfl (by first | omega | (simp; done) | (simp; omega)) one3) ?_
     refine q trivial rfl rfl (fa 0 fo44_0 rfl) ?_
     refine st (v := I (([0, 4] : List Int).getD r4.toNat 0)) hs10 2 rfl rfl rfl rfl rfl one3 trivial (fun w11 (hs11 : SH w w11 [rb] [.blk b1 44 [I 0, I 0, ns, Str [], I 0], .own Aq1 aq1.length cq1 3 1 (aq1.map I), oI b3 ([0, 4] : List Int) 2 3, .blk rb 74 [.slice Ab bs.length cb, I ((q5 : Nat) : Int)], .blk b2 44 [I (([0, 4] : List Int).getD r4.toNat 0), I ak1, .slice Aq1 aq1.length cq1, Str an1, I apt1]]) => ?_)
     refine nl ?_
     refine nN ?_
     refine sq ?_
     refine rg ?_
     refine q trivial rfl rfl (ldg (vs := [I (([0, 4] : List Int).getD r4.toNat 0), I ak1, .slice Aq1 aq1.length cq1, Str an1, I apt1]) hs11 4 rfl rfl rfl rfl ag44) ?_
     refine stg (vs := [I (([0, 4] : List Int).getD r4.toNat 0), I ak1, .slice Aq1 aq1.length cq1, Str an1, I apt1]) hs11 0 rfl rfl rfl rfl rfl rfl rfl ag44 trivial (fun w12 (hs12 : SH w w12 [rb] [.own Aq1 aq1.length cq1 3 1 (aq1.map I), oI b3 ([0, 4] : List Int) 2 3, .blk rb 74 [.slice Ab bs.length cb, I ((q5 : Nat) : Int)], .blk b2 44 [I (([0, 4] : List Int).getD r4.toNat 0), I ak1, .slice Aq1 aq1.length cq1, Str an1, I apt1], .blk b1 44 [I (([0, 4] : List Int).getD r4.toNat 0), I ak1, .slice Aq1 aq1.length cq1, Str an1, I apt1]]) => ?_)
     refine nl ?_
     refine nN ?_
     have hs13 : SH w w12 [rb] [.own Aq1 aq1.length cq1 3 1 (aq1.map I), .blk rb 74 [.slice Ab bs.length cb, I ((q5 : Nat) : Int)], .blk b1 44 [I (([0, 4] : List Int).getD r4.toNat 0), I ak1, .slice Aq1 aq1.length cq1, Str an1, I apt1]] := hs12.pick [0, 2, 4] rfl (by decide)
     refine rt ?_
     refine fret (v := .agg #[I (([0, 4] : List Int).getD r4.toNat 0), I ak1, .slice Aq1 aq1.length cq1, Str an1, I apt1]) (resC hs13 2 rfl rfl ag44 rfl .nil) rfl ?_
     exact ⟨Aq1, cq1, ([0, 4] : List Int).getD r4.toNat 0, ak1, aq1, an1, apt1, q5, rfl, (by first | omega | simp), (by first | omega | simp), (by omega), (hs13.pick [1, 0] rfl (by decide))⟩
   · refine sk ?_
     refine nN ?_
     refine sq ?_
     refine rg ?_
     refine q trivial rfl rfl (ldg (vs := [I 1, I ak1, .slice Aq1 aq1.length cq1, Str an1, I apt1]) hs8 2 rfl rfl rfl rfl ag44) ?_
     refine stg (vs := [I 1, I ak1, .slice Aq1 aq1.length cq1, Str an1, I apt1]) hs8 0 rfl rfl rfl rfl rfl rfl rfl ag44 trivial (fun w13 (hs14 : SH w w13 [rb] [.own Aq1 aq1.length cq1 3 1 (aq1.map I), .blk b2 44 [I 1, I ak1, .slice Aq1 aq1.length cq1, Str an1, I apt1], .blk rb 74 [.slice Ab bs.length cb, I ((q4 : Nat) : Int)], .blk b1 44 [I 1, I ak1, .slice Aq1 aq1.length cq1, Str an1, I apt1]]) => ?_)
     refine nl ?_
     refine nN ?_
     refine rt ?_
     refine fret (v := .agg #[I 1, I ak1, .slice Aq1 aq1.length cq1, Str an1, I apt1]) (resC hs14 3 rfl rfl ag44 rfl .nil) rfl ?_
     exact ⟨Aq1, cq1, 1, ak1, aq1, an1, apt1, q4, rfl, (by first | omega | simp), (by first | omega | simp), (by omega), (hs14.pick [2, 0] rfl (by decide))⟩
 · refine sk ?_
   refine nN ?_
   refine sq ?_
   refine sq ?_
   refine rg ?_
   refine q trivial rfl rfl (mv (v := pB rb) rfl) ?_
   refine cl trivial rfl (pick (rb := rb) (Ab := Ab) (cb := cb) (bs := bs) (p := q3) (n := 30) (w := _) (hr := (blk_heap hs6 3 rfl)) (hb := (hb.up hs6 (fun _ h => h) (fun _ h => .inl h))) (hbn := (by first | assumption | (simp; omega))) (hp := (by omega))) ?_
   rintro _ w14 ⟨r5, q6, rfl, p12, p13, hs15'⟩
   have hs15 : SH w w14 [rb] [.blk b1 44 [I 0, I 0, ns, Str [], I 0], .own Aq1 aq1.length cq1 3 1 (aq1.map I), .blk b2 44 [I (1 + r1), I ak1, .slice Aq1 aq1.length cq1, Str an1, I apt1], .blk rb 74 [.slice Ab bs.length cb, I ((q6 : Nat) : Int)]] := hs6.callM 3 rfl hs15' (by intro k hk; simp at hk; exact hk.symm)
   clear hs15'
   refine q trivial rfl rfl (eqi (k := .i64) (a := r5) (b := 0) rfl rfl) ?_
   refine nl ?_
   refine nN ?_
   refine cdd (p := r5 = 0) rfl (fun h3 => ?_) (fun h3 => ?_)
   · refine rg ?_
     refine bsk hs15 sl23 [I 0, I 4] [I 0, I 4] trivial rfl (fun b4 w15 (hs16 : SH w w15 [rb] [.blk b1 44 [I 0, I 0, ns, Str [], I 0], .own Aq1 aq1.length cq1 3 1 (aq1.map I), .blk b2 44 [I (1 + r1), I ak1, .slice Aq1 aq1.length cq1, Str an1, I apt1], .blk rb 74 [.slice Ab bs.length cb, I ((q6 : Nat) : Int)], oI b4 ([0, 4] : List Int) 2 3]) => ?_)
     refine q trivial rfl rfl (mv (v := pB rb) rfl) ?_
     refine cl trivial rfl (pick (rb := rb) (Ab := Ab) (cb := cb) (bs := bs) (p := q6) (n := 2) (w := _) (hr := (blk_heap hs16 3 rfl)) (hb := (hb.up hs16 (fun _ h => h) (fun _ h => .inl h))) (hbn := (by first | assumption | (simp; omega))) (hp := (by omega))) ?_
     rintro _ w16 ⟨r6, q7, rfl, p14, p15, hs17'⟩
     have hs17 : SH w w16 [rb] [.blk b1 44 [I 0, I 0, ns, Str [], I 0], .own Aq1 aq1.length cq1 3 1 (aq1.map I), .blk b2 44 [I (1 + r1), I ak1, .slice Aq1 aq1.length cq1, Str an1, I apt1], oI b4 ([0, 4] : List Int) 2 3, .blk rb 74 [.slice Ab bs.length cb, I ((q7 : Nat) : Int)]] := hs16.callM 3 rfl hs17' (by intro k hk; simp at hk; exact hk.symm)
     clear hs17'
     refine q trivial rfl rfl (ixo r6.toNat sl23 rfl (ieq (x := r6) (by omega)) (by first | omega | (simp; done) | (simp; omega))) ?_
     refine q trivial rfl rfl (ldo1n (g := I) (ys := ([0, 4] : List Int)) (o := r6.toNat) 0 hs17 3 rfl rfl (by first | omega | (simp; done) | (simp; omega)) one3) ?_
     refine q trivial rfl rfl (fa 0 fo44_0 rfl) ?_
     refine st (v := I (([0, 4] : List Int).getD r6.toNat 0)) hs17 2 rfl rfl rfl rfl rfl one3 trivial (fun w17 (hs18 : SH w w17 [rb] [.blk b1 44 [I 0, I 0, ns, Str [], I 0], .own Aq1 aq1.length cq1 3 1 (aq1.map I), oI b4 ([0, 4] : List Int) 2 3, .blk rb 74 [.slice Ab bs.length cb, I ((q7 : Nat) : Int)], .blk b2 44 [I (([0, 4] : List Int).getD r6.toNat 0), I ak1, .slice Aq1 aq1.length cq1, Str an1, I apt1]]) => ?_)
     refine nl ?_
     refine nN ?_
     refine sq ?_
     refine rg ?_
     refine q trivial rfl rfl (ldg (vs := [I (([0, 4] : List Int).getD r6.toNat 0), I ak1, .slice Aq1 aq1.length cq1, Str an1, I apt1]) hs18 4 rfl rfl rfl rfl ag44) ?_
     refine stg (vs := [I (([0, 4] : List Int).getD r6.toNat 0), I ak1, .slice Aq1 aq1.length cq1, Str an1, I apt1]) hs18 0 rfl rfl rfl rfl rfl rfl rfl ag44 trivial (fun w18 (hs19 : SH w w18 [rb] [.own Aq1 aq1.length cq1 3 1 (aq1.map I), oI b4 ([0, 4] : List Int) 2 3, .blk rb 74 [.slice Ab bs.length cb, I ((q7 : Nat) : Int)], .blk b2 44 [I (([0, 4] : List Int).getD r6.toNat 0), I ak1, .slice Aq1 aq1.length cq1, Str an1, I apt1], .blk b1 44 [I (([0, 4] : List Int).getD r6.toNat 0), I ak1, .slice Aq1 aq1.length cq1, Str an1, I apt1]]) => ?_)
     refine nl ?_
     refine nN ?_
     have hs20 : SH w w18 [rb] [.own Aq1 aq1.length cq1 3 1 (aq1.map I), .blk rb 74 [.slice Ab bs.length cb, I ((q7 : Nat) : Int)], .blk b1 44 [I (([0, 4] : List Int).getD r6.toNat 0), I ak1, .slice Aq1 aq1.length cq1, Str an1, I apt1]] := hs19.pick [0, 2, 4] rfl (by decide)
     refine rt ?_
     refine fret (v := .agg #[I (([0, 4] : List Int).getD r6.toNat 0), I ak1, .slice Aq1 aq1.length cq1, Str an1, I apt1]) (resC hs20 2 rfl rfl ag44 rfl .nil) rfl ?_
     exact ⟨Aq1, cq1, ([0, 4] : List Int).getD r6.toNat 0, ak1, aq1, an1, apt1, q7, rfl, (by first | omega | simp), (by first | omega | simp), (by omega), (hs20.pick [1, 0] rfl (by decide))⟩
   · refine sk ?_
     refine nN ?_
     refine sq ?_
     refine rg ?_
     refine q trivial rfl rfl (ldg (vs := [I (1 + r1), I ak1, .slice Aq1 aq1.length cq1, Str an1, I apt1]) hs15 2 rfl rfl rfl rfl ag44) ?_
     refine stg (vs := [I (1 + r1), I ak1, .slice Aq1 aq1.length cq1, Str an1, I apt1]) hs15 0 rfl rfl rfl rfl rfl rfl rfl ag44 trivial (fun w19 (hs21 : SH w w19 [rb] [.own Aq1 aq1.length cq1 3 1 (aq1.map I), .blk b2 44 [I (1 + r1), I ak1, .slice Aq1 aq1.length cq1, Str an1, I apt1], .blk rb 74 [.slice Ab bs.length cb, I ((q6 : Nat) : Int)], .blk b1 44 [I (1 + r1), I ak1, .slice Aq1 aq1.length cq1, Str an1, I apt1]]) => ?_)
     refine nl ?_
     refine nN ?_
     refine rt ?_
     refine fret (v := .agg #[I (1 + r1), I ak1, .slice Aq1 aq1.length cq1, Str an1, I apt1]) (resC hs21 3 rfl rfl ag44 rfl .nil) rfl ?_
     exact ⟨Aq1, cq1, 1 + r1, ak1, aq1, an1, apt1, q6, rfl, (by first | omega | simp), (by first | omega | simp), (by omega), (hs21.pick [2, 0] rfl (by decide))⟩

theorem drawRulesReply {Acs : Option Addr} {ccs : Nat} (cs : List UInt8) (w : World) (hcs : Sl w [] 1 Acs cs.length ccs (cs.map U)) : Does Tryd.prog 19 [.slice Acs cs.length ccs] w (fun v w' => ∃ Ar : Option Addr, ∃ cr : Nat, ∃ Aqr : Option Addr, ∃ cqr : Nat, ∃ r : List (List UInt8 × Int × Bool), ∃ cm : Int, ∃ ak : Int, ∃ aq : List Int, ∃ an : List UInt8, ∃ apt : Int, v = .tuple #[.slice Ar r.length cr, .agg #[.int .i64 cm, .int .i64 ak, .slice Aqr aq.length cqr, Str an, .int .i64 apt]] ∧ (r.length ≤ 7) ∧ ((∀ u ∈ r, u.1.length ≤ 5)) ∧ (aq.length ≤ 4) ∧ (an.length ≤ 21) ∧ SH w w' [] [.own Ar r.length cr 83 3 (r.flatMap gRule), .own Aqr aq.length cqr 3 1 (aq.map I)]) := by
 refine fn_enter (N := 13) Tryd.func19 rfl (by kernel_rfl) rfl rfl rfl ?_
 have hs0 : SH w w [] [] := SH.refl w []
 have hcs_m : cs.length ≤ 9223372036854775807 := Nat.le_trans hcs.cap hcs.capMax
 refine sq ?_
 refine rg ?_
 refine q trivial rfl rfl (asg (v := ns) rfl) ?_
 refine al (v := .agg #[I 0, I 0, ns, Str [], I 0]) (cs := [I 0, I 0, ns, Str [], I 0]) hs0 tz44 rfl trivial rfl (fun b1 w1 (hs1 : SH w w1 [] [.blk b1 44 [I 0, I 0, ns, Str [], I 0]]) => ?_)
 refine nl ?_
 refine nN ?_
 refine sq ?_
 refine rg ?_
 refine q trivial rfl rfl (mv (v := .slice Acs cs.length ccs) rfl) ?_
 refine cl trivial rfl (l6Open (Acs := Acs) (ccs := ccs) (cs := cs) (w := _) (hcs := (hcs.up0 hs1))) ?_
 rintro _ w2 ⟨g1, rfl, hs2'⟩
 have hs2 : SH w w2 [] [.blk b1 44 [I 0, I 0, ns, Str [], I 0], .blk g1 74 [.slice Acs ((cs.take 2000).length) ccs, I 0]] := hs1.call0 hs2'
 clear hs2'
 refine q trivial rfl rfl (asg (v := pB g1) rfl) ?_
 refine nl ?_
 refine nN ?_
 refine sq ?_
 refine rg ?_
 refine q trivial rfl rfl (mv (v := pB g1) rfl) ?_
 refine cl trivial rfl (l92Rules (rb := g1) (Ab := Acs) (cb := ccs) (bs := cs.take 2000) (p := 0) (w := _) (hr := (blk_heap hs2 1 rfl)) (hb := (Sl.take_ (hcs.up hs2 (by simp) (fun k h => .inr (hs2.lo1 1 rfl k h))) 2000)) (hbn := (by first | assumption | (simp; omega))) (hp := (by omega))) ?_
 rintro _ w3 ⟨A1, c1, r1, q1, rfl, p1, p2, p3, hs3'⟩
 have hs3 : SH w w3 [] [.blk b1 44 [I 0, I 0, ns, Str [], I 0], .blk g1 74 [.slice Acs ((cs.take 2000).length) ccs, I ((q1 : Nat) : Int)], .own A1 r1.length c1 83 3 (r1.flatMap gRule)] := hs2.callM 1 rfl hs3' (by intro k hk; simp at hk; exact hk.symm)
 clear hs3'
 refine q trivial rfl rfl (asg (v := .slice A1 r1.length c1) rfl) ?_
 refine nl ?_
 refine nN ?_
 refine sq ?_
 refine rg ?_
 refine q trivial rfl rfl (mv (v := .slice A1 r1.length c1) rfl) ?_
 refine q trivial rfl rfl (mv (v := pB g1) rfl) ?_
 refine cl trivial rfl (l92Request (rb := g1) (Ab := Acs) (cb := ccs) (bs := cs.take 2000) (p := q1) (w := _) (hr := (blk_heap hs3 1 rfl)) (hb := (Sl.take_ (hcs.up hs3 (by simp) (fun k h => .inr (hs3.lo1 1 rfl k h))) 2000)) (hbn := (by first | assumption | (simp; omega))) (hp := (by omega))) ?_
 rintro _ w4 ⟨Aq1, cq1, cm1, ak1, aq1, an1, apt1, q2, rfl, p4, p5, p6, hs4'⟩
 have hs4 : SH w w4 [] [.blk b1 44 [I 0, I 0, ns, Str [], I 0], .own A1 r1.length c1 83 3 (r1.flatMap gRule), .blk g1 74 [.slice Acs ((cs.take 2000).length) ccs, I ((q2 : Nat) : Int)], .own Aq1 aq1.length cq1 3 1 (aq1.map I)] := hs3.callM 1 rfl hs4' (by intro k hk; simp at hk; exact hk.symm)
 clear hs4'
 refine q trivial rfl rfl (asg (v := .slice A1 r1.length c1) rfl) ?_
 refine stg (vs := [I cm1, I ak1, .slice Aq1 aq1.length cq1, Str an1, I apt1]) hs4 0 rfl rfl rfl rfl rfl rfl rfl ag44 trivial (fun w5 (hs5 : SH w w5 [] [.own A1 r1.length c1 83 3 (r1.flatMap gRule), .blk g1 74 [.slice Acs ((cs.take 2000).length) ccs, I ((q2 : Nat) : Int)], .own Aq1 aq1.length cq1 3 1 (aq1.map I), .blk b1 44 [I cm1, I ak1, .slice Aq1 aq1.length cq1, Str an1, I apt1]]) => ?_)
 refine nl ?_
 refine nN ?_
 refine rt ?_
 refine fret (v := .tuple #[.slice A1 r1.length c1, .agg #[I cm1, I ak1, .slice Aq1 aq1.length cq1, Str an1, I apt1]]) (.tmp (resC hs5 3 rfl rfl ag44 rfl .nil)) rfl ?_
 exact ⟨A1, c1, Aq1, cq1, r1, cm1, ak1, aq1, an1, apt1, rfl, (by first | assumption | omega | (simp; omega)), (by first | assumption | omega | (simp; omega)), (by first | assumption | omega | (simp; omega)), (by first | assumption | omega | (simp; omega)), (hs5.pick [0, 2] rfl (by decide))⟩


end Go.Proofs.YtcgdccfofinheaaDoor
