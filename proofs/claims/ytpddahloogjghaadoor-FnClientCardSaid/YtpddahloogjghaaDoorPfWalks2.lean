/-
  Part of the proofs over this seat: what each function of the program computes, function by function (the text is written by a program of this hand-in's own).
  Conditions: each theorem states its own.
-/
import Derived.Test.YtpddahloogjghaaDoorPfWalks
namespace Go.Proofs.YtpddahloogjghaaDoor
open Go.PF
set_option maxRecDepth 100000
set_option linter.unusedSimpArgs false
set_option linter.unusedVariables false

set_option maxHeartbeats 8000000 in
theorem l91Quad {rb : Nat} {Ab : Option Addr} {cb : Nat} {bs : List UInt8} {p : Nat} (w : World) (hr : w.heap[rb]? = some (.cells [.slice Ab bs.length cb, .int .i64 ((p : Nat) : Int)].toArray 78 (0, 0))) (hb : Sl w [rb] 1 Ab bs.length cb (bs.map U)) (hbn : bs.length ≤ 2000) (hp : p ≤ 549755813888) : Does Tryd.prog 67 [pb rb] w (fun v w' => ∃ Ar : Option Addr, ∃ cr : Nat, ∃ r : List Int, ∃ q : Nat, v = .slice Ar r.length cr ∧ (r.length ≤ 4) ∧ (q ≤ p + 10) ∧ SH w w' [rb] [.blk rb 78 [.slice Ab bs.length cb, I ((q : Nat) : Int)], .own Ar r.length cr 3 1 (r.map I)]) := by
 refine fn_enter (N := 31) Tryd.func67 rfl (by kernel_rfl) rfl rfl rfl ?_
 have hs0 : SH w w [rb] [.blk rb 78 [.slice Ab bs.length cb, I ((p : Nat) : Int)]] := SH.entry1 hr
 refine sq ?_
 refine rg ?_
 refine q trivial rfl rfl (asg (v := ns) rfl) ?_
 refine nl ?_
 refine nN ?_
 refine sq ?_
 refine raJ (fun w' => ∃ L, SH w w' [rb] L ∧ True) (fun f w' => ∃ (r1' : Int) (q1' b2' : Nat) (r4' : Int) (q4' : Nat) (r8' : Int) (q8' : Nat) (r10' : Int) (q10' : Nat) (r12' : Int) (q12' b13' : Nat), Has f [(0, pb rb), (3, sb b13' (([([0, 1, 10, 255, r1'] : List Int).getD r4'.toNat 0, r8', r10', r12'] : List Int).length) 4)] ∧ (0 ≤ r1' ∧ (r1' < 256 ∨ r1' = 0)) ∧ (q1' ≤ p + 1) ∧ (0 ≤ r4' ∧ (r4' < 5 ∨ r4' = 0)) ∧ (q4' ≤ q1' + 1) ∧ (0 ≤ r8' ∧ (r8' < 2 ∨ r8' = 0)) ∧ (q8' ≤ q4' + 1) ∧ (0 ≤ r10' ∧ (r10' < 2 ∨ r10' = 0)) ∧ (q10' ≤ q8' + 1) ∧ (0 ≤ r12' ∧ (r12' < 256 ∨ r12' = 0)) ∧ (q12' ≤ q10' + 1) ∧ SH w w' [rb] [.blk rb 78 [.slice Ab bs.length cb, I ((q12' : Nat) : Int)], oI b13' ([([0, 1, 10, 255, r1'] : List Int).getD r4'.toNat 0, r8', r10', r12'] : List Int) 4 3, oI b2' ([0, 1, 10, 255, r1'] : List Int) 5 3]) mixed ?_ ?_
 · refine dag (fuel' := 2) (listed' := lbits 15 8191) (fun f w' => ∃ (r1' : Int) (q1' b2' : Nat) (r4' : Int) (q4' : Nat) (r8' : Int) (q8' : Nat) (r10' : Int) (q10' : Nat) (r12' : Int) (q12' : Nat), Has f [(0, pb rb), (10, I (([0, 1, 10, 255, r1'] : List Int).getD r4'.toNat 0)), (12, I r8'), (14, I r10'), (16, I r12')] ∧ (0 ≤ r1' ∧ (r1' < 256 ∨ r1' = 0)) ∧ (q1' ≤ p + 1) ∧ (0 ≤ r4' ∧ (r4' < 5 ∨ r4' = 0)) ∧ (q4' ≤ q1' + 1) ∧ (0 ≤ r8' ∧ (r8' < 2 ∨ r8' = 0)) ∧ (q8' ≤ q4' + 1) ∧ (0 ≤ r10' ∧ (r10' < 2 ∨ r10' = 0)) ∧ (q10' ≤ q8' + 1) ∧ (0 ≤ r12' ∧ (r12' < 256 ∨ r12' = 0)) ∧ (q12' ≤ q10' + 1) ∧ SH w w' [rb] [.blk rb 78 [.slice Ab bs.length cb, I ((q12' : Nat) : Int)], oI b2' ([0, 1, 10, 255, r1'] : List Int) 5 3]) ?_ (fun D_1_0 => ?_)
   · rintro f w1 ⟨r1', q1', b2', r4', q4', r8', q8', r10', q10', r12', q12', hf, p1, p2, p3, p4, p5, p6, p7, p8, p9, p10, hs1⟩
     obtain ⟨g1, rfl⟩ := has_upd hf
     clear hf
     refine aaL [13] (fa_one ?_)
     refine one_ rfl ?_
     refine bsk hs1 sl23 [I (([0, 1, 10, 255, r1'] : List Int).getD r4'.toNat 0), I r8', I r10', I r12'] [I (([0, 1, 10, 255, r1'] : List Int).getD r4'.toNat 0), I r8', I r10', I r12'] trivial rfl (fun b13' w2 hs2 => ?_)
     refine nl (kq ⟨_, hs2, trivial⟩ ?_)
     refine tk (fuel := 0) (is := [14]) (.cons rfl (.nil)) (by kernel_rfl) (by kernel_rfl) ⟨_, hs2, trivial⟩ ?_
     refine .op trivial rfl rfl (fun wq _ => asg (v := sb b13' (([([0, 1, 10, 255, r1'] : List Int).getD r4'.toNat 0, r8', r10', r12'] : List Int).length) 4) rfl) ?_
     refine .nil ?_
     refine ad (by kernel_rfl) ?_
     exact ⟨r1', q1', b2', r4', q4', r8', q8', r10', q10', r12', q12', b13', ⟨rfl, rfl, trivial⟩, p1, p2, p3, p4, p5, p6, p7, p8, p9, p10, (hs2.pick [0, 2, 1] rfl (by decide))⟩
   refine dag (fuel' := 3) (listed' := lbits 15 4095) (fun f w' => ∃ (r1' : Int) (q1' b2' : Nat) (r4' : Int) (q4' : Nat) (r8' : Int) (q8' : Nat) (r10' : Int) (q10' : Nat), Has f [(0, pb rb), (10, I (([0, 1, 10, 255, r1'] : List Int).getD r4'.toNat 0)), (12, I r8'), (14, I r10'), (15, pb rb)] ∧ (0 ≤ r1' ∧ (r1' < 256 ∨ r1' = 0)) ∧ (q1' ≤ p + 1) ∧ (0 ≤ r4' ∧ (r4' < 5 ∨ r4' = 0)) ∧ (q4' ≤ q1' + 1) ∧ (0 ≤ r8' ∧ (r8' < 2 ∨ r8' = 0)) ∧ (q8' ≤ q4' + 1) ∧ (0 ≤ r10' ∧ (r10' < 2 ∨ r10' = 0)) ∧ (q10' ≤ q8' + 1) ∧ SH w w' [rb] [.blk rb 78 [.slice Ab bs.length cb, I ((q10' : Nat) : Int)], oI b2' ([0, 1, 10, 255, r1'] : List Int) 5 3]) ?_ (fun D_1_1 => ?_)
   · rintro f w3 ⟨r1', q1', b2', r4', q4', r8', q8', r10', q10', hf, p11, p12, p13, p14, p15, p16, p17, p18, hs3⟩
     obtain ⟨g2, rfl⟩ := has_upd hf
     clear hf
     refine aaL [12] (fa_one ?_)
     refine one_ rfl ?_
     refine cl trivial rfl (pick (rb := rb) (Ab := Ab) (cb := cb) (bs := bs) (p := q10') (n := 256) (w := _) (hr := (blk_heap hs3 0 rfl)) (hb := (hb.up hs3 (fun _ h => h) (fun _ h => .inl h))) (hbn := (by first | assumption | (simp; omega))) (hp := (by omega))) ?_
     rintro _ w4 ⟨r12', q12', rfl, p19, p20, hs4'⟩
     have hs4 := hs3.callM 0 rfl hs4' (by intro k hk; simp at hk; exact hk.symm)
     clear hs4'
     exact nl (kq ⟨_, hs4, trivial⟩ (alc D_1_0 ⟨r1', q1', b2', r4', q4', r8', q8', r10', q10', r12', q12', ⟨rfl, rfl, rfl, rfl, rfl, trivial⟩, p11, p12, p13, p14, p15, p16, p17, p18, p19, p20, (hs4.pick [1, 0] rfl (by decide))⟩))
   refine dag (fuel' := 3) (listed' := lbits 15 8127) (fun f w' => ∃ (r1' : Int) (q1' b2' : Nat) (r4' : Int) (q4' : Nat) (r8' : Int) (q8' : Nat) (r10' : Int) (q10' : Nat) (r12' : Int) (q12' : Nat), Has f [(0, pb rb), (9, .pointer (some ⟨b2', r4'.toNat * 1, none⟩)), (12, I r8'), (14, I r10'), (16, I r12')] ∧ (0 ≤ r1' ∧ (r1' < 256 ∨ r1' = 0)) ∧ (q1' ≤ p + 1) ∧ (0 ≤ r4' ∧ (r4' < 5 ∨ r4' = 0)) ∧ (q4' ≤ q1' + 1) ∧ (0 ≤ r8' ∧ (r8' < 2 ∨ r8' = 0)) ∧ (q8' ≤ q4' + 1) ∧ (0 ≤ r10' ∧ (r10' < 2 ∨ r10' = 0)) ∧ (q10' ≤ q8' + 1) ∧ (0 ≤ r12' ∧ (r12' < 256 ∨ r12' = 0)) ∧ (q12' ≤ q10' + 1) ∧ SH w w' [rb] [.blk rb 78 [.slice Ab bs.length cb, I ((q12' : Nat) : Int)], oI b2' ([0, 1, 10, 255, r1'] : List Int) 5 3]) ?_ (fun D_1_2 => ?_)
   · rintro f w5 ⟨r1', q1', b2', r4', q4', r8', q8', r10', q10', r12', q12', hf, p21, p22, p23, p24, p25, p26, p27, p28, p29, p30, hs5⟩
     obtain ⟨g3, rfl⟩ := has_upd hf
     clear hf
     refine aaL [6] (fa_one ?_)
     refine one_ rfl ?_
     refine q trivial rfl rfl (ldo1n (g := I) (ys := ([0, 1, 10, 255, r1'] : List Int)) (o := r4'.toNat) 0 hs5 1 rfl rfl (by first | omega | (simp; done) | (simp; omega)) one3) ?_
     exact nl (kq ⟨_, hs5, trivial⟩ (alc D_1_0 ⟨r1', q1', b2', r4', q4', r8', q8', r10', q10', r12', q12', ⟨rfl, rfl, rfl, rfl, rfl, trivial⟩, p21, p22, p23, p24, p25, p26, p27, p28, p29, p30, hs5⟩))
   refine dag (fuel' := 4) (listed' := lbits 15 3071) (fun f w' => ∃ (r1' : Int) (q1' b2' : Nat) (r4' : Int) (q4' : Nat) (r8' : Int) (q8' : Nat), Has f [(0, pb rb), (10, I (([0, 1, 10, 255, r1'] : List Int).getD r4'.toNat 0)), (12, I r8'), (13, pb rb), (15, pb rb)] ∧ (0 ≤ r1' ∧ (r1' < 256 ∨ r1' = 0)) ∧ (q1' ≤ p + 1) ∧ (0 ≤ r4' ∧ (r4' < 5 ∨ r4' = 0)) ∧ (q4' ≤ q1' + 1) ∧ (0 ≤ r8' ∧ (r8' < 2 ∨ r8' = 0)) ∧ (q8' ≤ q4' + 1) ∧ SH w w' [rb] [.blk rb 78 [.slice Ab bs.length cb, I ((q8' : Nat) : Int)], oI b2' ([0, 1, 10, 255, r1'] : List Int) 5 3]) ?_ (fun D_1_3 => ?_)
   · rintro f w6 ⟨r1', q1', b2', r4', q4', r8', q8', hf, p31, p32, p33, p34, p35, p36, hs6⟩
     obtain ⟨g4, rfl⟩ := has_upd hf
     clear hf
     refine aaL [10] (fa_one ?_)
     refine one_ rfl ?_
     refine cl trivial rfl (pick (rb := rb) (Ab := Ab) (cb := cb) (bs := bs) (p := q8') (n := 2) (w := _) (hr := (blk_heap hs6 0 rfl)) (hb := (hb.up hs6 (fun _ h => h) (fun _ h => .inl h))) (hbn := (by first | assumption | (simp; omega))) (hp := (by omega))) ?_
     rintro _ w7 ⟨r10', q10', rfl, p37, p38, hs7'⟩
     have hs7 := hs6.callM 0 rfl hs7' (by intro k hk; simp at hk; exact hk.symm)
     clear hs7'
     exact nl (kq ⟨_, hs7, trivial⟩ (alc D_1_1 ⟨r1', q1', b2', r4', q4', r8', q8', r10', q10', ⟨rfl, rfl, rfl, rfl, rfl, trivial⟩, p31, p32, p33, p34, p35, p36, p37, p38, (hs7.pick [1, 0] rfl (by decide))⟩))
   refine dag (fuel' := 4) (listed' := lbits 15 4031) (fun f w' => ∃ (r1' : Int) (q1' b2' : Nat) (r4' : Int) (q4' : Nat) (r8' : Int) (q8' : Nat) (r10' : Int) (q10' : Nat), Has f [(0, pb rb), (9, .pointer (some ⟨b2', r4'.toNat * 1, none⟩)), (12, I r8'), (14, I r10'), (15, pb rb)] ∧ (0 ≤ r1' ∧ (r1' < 256 ∨ r1' = 0)) ∧ (q1' ≤ p + 1) ∧ (0 ≤ r4' ∧ (r4' < 5 ∨ r4' = 0)) ∧ (q4' ≤ q1' + 1) ∧ (0 ≤ r8' ∧ (r8' < 2 ∨ r8' = 0)) ∧ (q8' ≤ q4' + 1) ∧ (0 ≤ r10' ∧ (r10' < 2 ∨ r10' = 0)) ∧ (q10' ≤ q8' + 1) ∧ SH w w' [rb] [.blk rb 78 [.slice Ab bs.length cb, I ((q10' : Nat) : Int)], oI b2' ([0, 1, 10, 255, r1'] : List Int) 5 3]) ?_ (fun D_1_4 => ?_)
   · rintro f w8 ⟨r1', q1', b2', r4', q4', r8', q8', r10', q10', hf, p39, p40, p41, p42, p43, p44, p45, p46, hs8⟩
     obtain ⟨g5, rfl⟩ := has_upd hf
     clear hf
     refine aaL [6, 12] (fa_cons ?_ (fa_one ?_))
     · refine one_ rfl ?_
       refine q trivial rfl rfl (ldo1n (g := I) (ys := ([0, 1, 10, 255, r1'] : List Int)) (o := r4'.toNat) 0 hs8 1 rfl rfl (by first | omega | (simp; done) | (simp; omega)) one3) ?_
       exact nl (kq ⟨_, hs8, trivial⟩ (alc D_1_1 ⟨r1', q1', b2', r4', q4', r8', q8', r10', q10', ⟨rfl, rfl, rfl, rfl, rfl, trivial⟩, p39, p40, p41, p42, p43, p44, p45, p46, hs8⟩))
     · refine one_ rfl ?_
       refine cl trivial rfl (pick (rb := rb) (Ab := Ab) (cb := cb) (bs := bs) (p := q10') (n := 256) (w := _) (hr := (blk_heap hs8 0 rfl)) (hb := (hb.up hs8 (fun _ h => h) (fun _ h => .inl h))) (hbn := (by first | assumption | (simp; omega))) (hp := (by omega))) ?_
       rintro _ w9 ⟨r12', q12', rfl, p47, p48, hs9'⟩
       have hs9 := hs8.callM 0 rfl hs9' (by intro k hk; simp at hk; exact hk.symm)
       clear hs9'
       exact nl (kq ⟨_, hs9, trivial⟩ (alc D_1_2 ⟨r1', q1', b2', r4', q4', r8', q8', r10', q10', r12', q12', ⟨rfl, rfl, rfl, rfl, rfl, trivial⟩, p39, p40, p41, p42, p43, p44, p45, p46, p47, p48, (hs9.pick [1, 0] rfl (by decide))⟩))
   refine dag (fuel' := 5) (listed' := lbits 15 2815) (fun f w' => ∃ (r1' : Int) (q1' b2' : Nat) (r4' : Int) (q4' : Nat), Has f [(0, pb rb), (10, I (([0, 1, 10, 255, r1'] : List Int).getD r4'.toNat 0)), (11, pb rb), (13, pb rb), (15, pb rb)] ∧ (0 ≤ r1' ∧ (r1' < 256 ∨ r1' = 0)) ∧ (q1' ≤ p + 1) ∧ (0 ≤ r4' ∧ (r4' < 5 ∨ r4' = 0)) ∧ (q4' ≤ q1' + 1) ∧ SH w w' [rb] [.blk rb 78 [.slice Ab bs.length cb, I ((q4' : Nat) : Int)], oI b2' ([0, 1, 10, 255, r1'] : List Int) 5 3]) ?_ (fun D_1_5 => ?_)
   · rintro f w10 ⟨r1', q1', b2', r4', q4', hf, p49, p50, p51, p52, hs10⟩
     obtain ⟨g6, rfl⟩ := has_upd hf
     clear hf
     refine aaL [8] (fa_one ?_)
     refine one_ rfl ?_
     refine cl trivial rfl (pick (rb := rb) (Ab := Ab) (cb := cb) (bs := bs) (p := q4') (n := 2) (w := _) (hr := (blk_heap hs10 0 rfl)) (hb := (hb.up hs10 (fun _ h => h) (fun _ h => .inl h))) (hbn := (by first | assumption | (simp; omega))) (hp := (by omega))) ?_
     rintro _ w11 ⟨r8', q8', rfl, p53, p54, hs11'⟩
     have hs11 := hs10.callM 0 rfl hs11' (by intro k hk; simp at hk; exact hk.symm)
     clear hs11'
     exact nl (kq ⟨_, hs11, trivial⟩ (alc D_1_3 ⟨r1', q1', b2', r4', q4', r8', q8', ⟨rfl, rfl, rfl, rfl, rfl, trivial⟩, p49, p50, p51, p52, p53, p54, (hs11.pick [1, 0] rfl (by decide))⟩))
   refine dag (fuel' := 5) (listed' := lbits 15 3007) (fun f w' => ∃ (r1' : Int) (q1' b2' : Nat) (r4' : Int) (q4' : Nat) (r8' : Int) (q8' : Nat), Has f [(0, pb rb), (9, .pointer (some ⟨b2', r4'.toNat * 1, none⟩)), (12, I r8'), (13, pb rb), (15, pb rb)] ∧ (0 ≤ r1' ∧ (r1' < 256 ∨ r1' = 0)) ∧ (q1' ≤ p + 1) ∧ (0 ≤ r4' ∧ (r4' < 5 ∨ r4' = 0)) ∧ (q4' ≤ q1' + 1) ∧ (0 ≤ r8' ∧ (r8' < 2 ∨ r8' = 0)) ∧ (q8' ≤ q4' + 1) ∧ SH w w' [rb] [.blk rb 78 [.slice Ab bs.length cb, I ((q8' : Nat) : Int)], oI b2' ([0, 1, 10, 255, r1'] : List Int) 5 3]) ?_ (fun D_1_6 => ?_)
   · rintro f w12 ⟨r1', q1', b2', r4', q4', r8', q8', hf, p55, p56, p57, p58, p59, p60, hs12⟩
     obtain ⟨g7, rfl⟩ := has_upd hf
     clear hf
     refine aaL [6, 10] (fa_cons ?_ (fa_one ?_))
     · refine one_ rfl ?_
       refine q trivial rfl rfl (ldo1n (g := I) (ys := ([0, 1, 10, 255, r1'] : List Int)) (o := r4'.toNat) 0 hs12 1 rfl rfl (by first | omega | (simp; done) | (simp; omega)) one3) ?_
       exact nl (kq ⟨_, hs12, trivial⟩ (alc D_1_3 ⟨r1', q1', b2', r4', q4', r8', q8', ⟨rfl, rfl, rfl, rfl, rfl, trivial⟩, p55, p56, p57, p58, p59, p60, hs12⟩))
     · refine one_ rfl ?_
       refine cl trivial rfl (pick (rb := rb) (Ab := Ab) (cb := cb) (bs := bs) (p := q8') (n := 2) (w := _) (hr := (blk_heap hs12 0 rfl)) (hb := (hb.up hs12 (fun _ h => h) (fun _ h => .inl h))) (hbn := (by first | assumption | (simp; omega))) (hp := (by omega))) ?_
       rintro _ w13 ⟨r10', q10', rfl, p61, p62, hs13'⟩
       have hs13 := hs12.callM 0 rfl hs13' (by intro k hk; simp at hk; exact hk.symm)
       clear hs13'
       exact nl (kq ⟨_, hs13, trivial⟩ (alc D_1_4 ⟨r1', q1', b2', r4', q4', r8', q8', r10', q10', ⟨rfl, rfl, rfl, rfl, rfl, trivial⟩, p55, p56, p57, p58, p59, p60, p61, p62, (hs13.pick [1, 0] rfl (by decide))⟩))
   refine dag (fuel' := 5) (listed' := lbits 15 8091) (fun f w' => ∃ (r1' : Int) (q1' : Nat) (r4' : Int) (q4' : Nat) (r8' : Int) (q8' : Nat) (r10' : Int) (q10' : Nat) (r12' : Int) (q12' : Nat), Has f [(0, pb rb), (5, I r1'), (8, I r4'), (12, I r8'), (14, I r10'), (16, I r12')] ∧ (0 ≤ r1' ∧ (r1' < 256 ∨ r1' = 0)) ∧ (q1' ≤ p + 1) ∧ (0 ≤ r4' ∧ (r4' < 5 ∨ r4' = 0)) ∧ (q4' ≤ q1' + 1) ∧ (0 ≤ r8' ∧ (r8' < 2 ∨ r8' = 0)) ∧ (q8' ≤ q4' + 1) ∧ (0 ≤ r10' ∧ (r10' < 2 ∨ r10' = 0)) ∧ (q10' ≤ q8' + 1) ∧ (0 ≤ r12' ∧ (r12' < 256 ∨ r12' = 0)) ∧ (q12' ≤ q10' + 1) ∧ SH w w' [rb] [.blk rb 78 [.slice Ab bs.length cb, I ((q12' : Nat) : Int)]]) ?_ (fun D_1_7 => ?_)
   · rintro f w14 ⟨r1', q1', r4', q4', r8', q8', r10', q10', r12', q12', hf, p63, p64, p65, p66, p67, p68, p69, p70, p71, p72, hs14⟩
     obtain ⟨g8, rfl⟩ := has_upd hf
     clear hf
     refine aaL [2] (fa_one ?_)
     refine one_ rfl ?_
     refine bsk hs14 sl23 [I 0, I 1, I 10, I 255, I r1'] [I 0, I 1, I 10, I 255, I r1'] trivial rfl (fun b2' w15 hs15 => ?_)
     refine nl (kq ⟨_, hs15, trivial⟩ ?_)
     refine tk (fuel := 3) (is := [5]) (.cons rfl (.nil)) (by kernel_rfl) (by kernel_rfl) ⟨_, hs15, trivial⟩ ?_
     refine .op trivial rfl rfl (fun wq _ => ixo r4'.toNat sl23 rfl (ieq (x := r4') (by omega)) (by first | omega | (simp; done) | (simp; omega))) ?_
     refine .nil ?_
     exact alc D_1_2 ⟨r1', q1', b2', r4', q4', r8', q8', r10', q10', r12', q12', ⟨rfl, rfl, rfl, rfl, rfl, trivial⟩, p63, p64, p65, p66, p67, p68, p69, p70, p71, p72, hs15⟩
   refine dag (fuel' := 6) (listed' := lbits 15 2751) (fun f w' => ∃ (r1' : Int) (q1' b2' : Nat) (r4' : Int) (q4' : Nat), Has f [(0, pb rb), (9, .pointer (some ⟨b2', r4'.toNat * 1, none⟩)), (11, pb rb), (13, pb rb), (15, pb rb)] ∧ (0 ≤ r1' ∧ (r1' < 256 ∨ r1' = 0)) ∧ (q1' ≤ p + 1) ∧ (0 ≤ r4' ∧ (r4' < 5 ∨ r4' = 0)) ∧ (q4' ≤ q1' + 1) ∧ SH w w' [rb] [.blk rb 78 [.slice Ab bs.length cb, I ((q4' : Nat) : Int)], oI b2' ([0, 1, 10, 255, r1'] : List Int) 5 3]) ?_ (fun D_1_8 => ?_)
   · rintro f w16 ⟨r1', q1', b2', r4', q4', hf, p73, p74, p75, p76, hs16⟩
     obtain ⟨g9, rfl⟩ := has_upd hf
     clear hf
     refine aaL [6, 8] (fa_cons ?_ (fa_one ?_))
     · refine one_ rfl ?_
       refine q trivial rfl rfl (ldo1n (g := I) (ys := ([0, 1, 10, 255, r1'] : List Int)) (o := r4'.toNat) 0 hs16 1 rfl rfl (by first | omega | (simp; done) | (simp; omega)) one3) ?_
       exact nl (kq ⟨_, hs16, trivial⟩ (alc D_1_5 ⟨r1', q1', b2', r4', q4', ⟨rfl, rfl, rfl, rfl, rfl, trivial⟩, p73, p74, p75, p76, hs16⟩))
     · refine one_ rfl ?_
       refine cl trivial rfl (pick (rb := rb) (Ab := Ab) (cb := cb) (bs := bs) (p := q4') (n := 2) (w := _) (hr := (blk_heap hs16 0 rfl)) (hb := (hb.up hs16 (fun _ h => h) (fun _ h => .inl h))) (hbn := (by first | assumption | (simp; omega))) (hp := (by omega))) ?_
       rintro _ w17 ⟨r8', q8', rfl, p77, p78, hs17'⟩
       have hs17 := hs16.callM 0 rfl hs17' (by intro k hk; simp at hk; exact hk.symm)
       clear hs17'
       exact nl (kq ⟨_, hs17, trivial⟩ (alc D_1_6 ⟨r1', q1', b2', r4', q4', r8', q8', ⟨rfl, rfl, rfl, rfl, rfl, trivial⟩, p73, p74, p75, p76, p77, p78, (hs17.pick [1, 0] rfl (by decide))⟩))
   refine dag (fuel' := 6) (listed' := lbits 15 3995) (fun f w' => ∃ (r1' : Int) (q1' : Nat) (r4' : Int) (q4' : Nat) (r8' : Int) (q8' : Nat) (r10' : Int) (q10' : Nat), Has f [(0, pb rb), (5, I r1'), (8, I r4'), (12, I r8'), (14, I r10'), (15, pb rb)] ∧ (0 ≤ r1' ∧ (r1' < 256 ∨ r1' = 0)) ∧ (q1' ≤ p + 1) ∧ (0 ≤ r4' ∧ (r4' < 5 ∨ r4' = 0)) ∧ (q4' ≤ q1' + 1) ∧ (0 ≤ r8' ∧ (r8' < 2 ∨ r8' = 0)) ∧ (q8' ≤ q4' + 1) ∧ (0 ≤ r10' ∧ (r10' < 2 ∨ r10' = 0)) ∧ (q10' ≤ q8' + 1) ∧ SH w w' [rb] [.blk rb 78 [.slice Ab bs.length cb, I ((q10' : Nat) : Int)]]) ?_ (fun D_1_9 => ?_)
   · rintro f w18 ⟨r1', q1', r4', q4', r8', q8', r10', q10', hf, p79, p80, p81, p82, p83, p84, p85, p86, hs18⟩
     obtain ⟨g10, rfl⟩ := has_upd hf
     clear hf
     refine aaL [2, 12] (fa_cons ?_ (fa_one ?_))
     · refine one_ rfl ?_
       refine bsk hs18 sl23 [I 0, I 1, I 10, I 255, I r1'] [I 0, I 1, I 10, I 255, I r1'] trivial rfl (fun b2' w19 hs19 => ?_)
       refine nl (kq ⟨_, hs19, trivial⟩ ?_)
       refine tk (fuel := 4) (is := [5]) (.cons rfl (.nil)) (by kernel_rfl) (by kernel_rfl) ⟨_, hs19, trivial⟩ ?_
       refine .op trivial rfl rfl (fun wq _ => ixo r4'.toNat sl23 rfl (ieq (x := r4') (by omega)) (by first | omega | (simp; done) | (simp; omega))) ?_
       refine .nil ?_
       exact alc D_1_4 ⟨r1', q1', b2', r4', q4', r8', q8', r10', q10', ⟨rfl, rfl, rfl, rfl, rfl, trivial⟩, p79, p80, p81, p82, p83, p84, p85, p86, hs19⟩
     · refine one_ rfl ?_
       refine cl trivial rfl (pick (rb := rb) (Ab := Ab) (cb := cb) (bs := bs) (p := q10') (n := 256) (w := _) (hr := (blk_heap hs18 0 rfl)) (hb := (hb.up hs18 (fun _ h => h) (fun _ h => .inl h))) (hbn := (by first | assumption | (simp; omega))) (hp := (by omega))) ?_
       rintro _ w20 ⟨r12', q12', rfl, p87, p88, hs20'⟩
       have hs20 := hs18.callM 0 rfl hs20' (by intro k hk; simp at hk; exact hk.symm)
       clear hs20'
       exact nl (kq ⟨_, hs20, trivial⟩ (alc D_1_7 ⟨r1', q1', r4', q4', r8', q8', r10', q10', r12', q12', ⟨rfl, rfl, rfl, rfl, rfl, rfl, trivial⟩, p79, p80, p81, p82, p83, p84, p85, p86, p87, p88, hs20⟩))
   refine dag (fuel' := 7) (listed' := lbits 15 2971) (fun f w' => ∃ (r1' : Int) (q1' : Nat) (r4' : Int) (q4' : Nat) (r8' : Int) (q8' : Nat), Has f [(0, pb rb), (5, I r1'), (8, I r4'), (12, I r8'), (13, pb rb), (15, pb rb)] ∧ (0 ≤ r1' ∧ (r1' < 256 ∨ r1' = 0)) ∧ (q1' ≤ p + 1) ∧ (0 ≤ r4' ∧ (r4' < 5 ∨ r4' = 0)) ∧ (q4' ≤ q1' + 1) ∧ (0 ≤ r8' ∧ (r8' < 2 ∨ r8' = 0)) ∧ (q8' ≤ q4' + 1) ∧ SH w w' [rb] [.blk rb 78 [.slice Ab bs.length cb, I ((q8' : Nat) : Int)]]) ?_ (fun D_1_10 => ?_)
   · rintro f w21 ⟨r1', q1', r4', q4', r8', q8', hf, p89, p90, p91, p92, p93, p94, hs21⟩
     obtain ⟨g11, rfl⟩ := has_upd hf
     clear hf
     refine aaL [2, 10] (fa_cons ?_ (fa_one ?_))
     · refine one_ rfl ?_
       refine bsk hs21 sl23 [I 0, I 1, I 10, I 255, I r1'] [I 0, I 1, I 10, I 255, I r1'] trivial rfl (fun b2' w22 hs22 => ?_)
       refine nl (kq ⟨_, hs22, trivial⟩ ?_)
       refine tk (fuel := 5) (is := [5]) (.cons rfl (.nil)) (by kernel_rfl) (by kernel_rfl) ⟨_, hs22, trivial⟩ ?_
       refine .op trivial rfl rfl (fun wq _ => ixo r4'.toNat sl23 rfl (ieq (x := r4') (by omega)) (by first | omega | (simp; done) | (simp; omega))) ?_
       refine .nil ?_
       exact alc D_1_6 ⟨r1', q1', b2', r4', q4', r8', q8', ⟨rfl, rfl, rfl, rfl, rfl, trivial⟩, p89, p90, p91, p92, p93, p94, hs22⟩
     · refine one_ rfl ?_
       refine cl trivial rfl (pick (rb := rb) (Ab := Ab) (cb := cb) (bs := bs) (p := q8') (n := 2) (w := _) (hr := (blk_heap hs21 0 rfl)) (hb := (hb.up hs21 (fun _ h => h) (fun _ h => .inl h))) (hbn := (by first | assumption | (simp; omega))) (hp := (by omega))) ?_
       rintro _ w23 ⟨r10', q10', rfl, p95, p96, hs23'⟩
       have hs23 := hs21.callM 0 rfl hs23' (by intro k hk; simp at hk; exact hk.symm)
       clear hs23'
       exact nl (kq ⟨_, hs23, trivial⟩ (alc D_1_9 ⟨r1', q1', r4', q4', r8', q8', r10', q10', ⟨rfl, rfl, rfl, rfl, rfl, rfl, trivial⟩, p89, p90, p91, p92, p93, p94, p95, p96, hs23⟩))
   refine dag (fuel' := 8) (listed' := lbits 15 2703) (fun f w' => ∃ (r1' : Int) (q1' b2' : Nat), Has f [(0, pb rb), (6, sb b2' (([0, 1, 10, 255, r1'] : List Int).length) 5), (7, pb rb), (11, pb rb), (13, pb rb), (15, pb rb)] ∧ (0 ≤ r1' ∧ (r1' < 256 ∨ r1' = 0)) ∧ (q1' ≤ p + 1) ∧ SH w w' [rb] [.blk rb 78 [.slice Ab bs.length cb, I ((q1' : Nat) : Int)], oI b2' ([0, 1, 10, 255, r1'] : List Int) 5 3]) ?_ (fun D_1_11 => ?_)
   · rintro f w24 ⟨r1', q1', b2', hf, p97, p98, hs24⟩
     obtain ⟨g12, rfl⟩ := has_upd hf
     clear hf
     refine aaL [4] (fa_one ?_)
     refine one_ rfl ?_
     refine cl trivial rfl (pick (rb := rb) (Ab := Ab) (cb := cb) (bs := bs) (p := q1') (n := 5) (w := _) (hr := (blk_heap hs24 0 rfl)) (hb := (hb.up hs24 (fun _ h => h) (fun _ h => .inl h))) (hbn := (by first | assumption | (simp; omega))) (hp := (by omega))) ?_
     rintro _ w25 ⟨r4', q4', rfl, p99, p100, hs25'⟩
     have hs25 := hs24.callM 0 rfl hs25' (by intro k hk; simp at hk; exact hk.symm)
     clear hs25'
     refine nl (kq ⟨_, hs25, trivial⟩ ?_)
     refine tk (fuel := 6) (is := [5]) (.cons rfl (.nil)) (by kernel_rfl) (by kernel_rfl) ⟨_, hs25, trivial⟩ ?_
     refine .op trivial rfl rfl (fun wq _ => ixo r4'.toNat sl23 rfl (ieq (x := r4') (by omega)) (by first | omega | (simp; done) | (simp; omega))) ?_
     refine .nil ?_
     exact alc D_1_8 ⟨r1', q1', b2', r4', q4', ⟨rfl, rfl, rfl, rfl, rfl, trivial⟩, p97, p98, p99, p100, (hs25.pick [1, 0] rfl (by decide))⟩
   refine dag (fuel' := 8) (listed' := lbits 15 2715) (fun f w' => ∃ (r1' : Int) (q1' : Nat) (r4' : Int) (q4' : Nat), Has f [(0, pb rb), (5, I r1'), (8, I r4'), (11, pb rb), (13, pb rb), (15, pb rb)] ∧ (0 ≤ r1' ∧ (r1' < 256 ∨ r1' = 0)) ∧ (q1' ≤ p + 1) ∧ (0 ≤ r4' ∧ (r4' < 5 ∨ r4' = 0)) ∧ (q4' ≤ q1' + 1) ∧ SH w w' [rb] [.blk rb 78 [.slice Ab bs.length cb, I ((q4' : Nat) : Int)]]) ?_ (fun D_1_12 => ?_)
   · rintro f w26 ⟨r1', q1', r4', q4', hf, p101, p102, p103, p104, hs26⟩
     obtain ⟨g13, rfl⟩ := has_upd hf
     clear hf
     refine aaL [2, 8] (fa_cons ?_ (fa_one ?_))
     · refine one_ rfl ?_
       refine bsk hs26 sl23 [I 0, I 1, I 10, I 255, I r1'] [I 0, I 1, I 10, I 255, I r1'] trivial rfl (fun b2' w27 hs27 => ?_)
       refine nl (kq ⟨_, hs27, trivial⟩ ?_)
       refine tk (fuel := 6) (is := [5]) (.cons rfl (.nil)) (by kernel_rfl) (by kernel_rfl) ⟨_, hs27, trivial⟩ ?_
       refine .op trivial rfl rfl (fun wq _ => ixo r4'.toNat sl23 rfl (ieq (x := r4') (by omega)) (by first | omega | (simp; done) | (simp; omega))) ?_
       refine .nil ?_
       exact alc D_1_8 ⟨r1', q1', b2', r4', q4', ⟨rfl, rfl, rfl, rfl, rfl, trivial⟩, p101, p102, p103, p104, hs27⟩
     · refine one_ rfl ?_
       refine cl trivial rfl (pick (rb := rb) (Ab := Ab) (cb := cb) (bs := bs) (p := q4') (n := 2) (w := _) (hr := (blk_heap hs26 0 rfl)) (hb := (hb.up hs26 (fun _ h => h) (fun _ h => .inl h))) (hbn := (by first | assumption | (simp; omega))) (hp := (by omega))) ?_
       rintro _ w28 ⟨r8', q8', rfl, p105, p106, hs28'⟩
       have hs28 := hs26.callM 0 rfl hs28' (by intro k hk; simp at hk; exact hk.symm)
       clear hs28'
       exact nl (kq ⟨_, hs28, trivial⟩ (alc D_1_10 ⟨r1', q1', r4', q4', r8', q8', ⟨rfl, rfl, rfl, rfl, rfl, rfl, trivial⟩, p101, p102, p103, p104, p105, p106, hs28⟩))
   refine dag (fuel' := 9) (listed' := lbits 15 2699) (fun f w' => ∃ (r1' : Int) (q1' : Nat), Has f [(0, pb rb), (5, I r1'), (7, pb rb), (11, pb rb), (13, pb rb), (15, pb rb)] ∧ (0 ≤ r1' ∧ (r1' < 256 ∨ r1' = 0)) ∧ (q1' ≤ p + 1) ∧ SH w w' [rb] [.blk rb 78 [.slice Ab bs.length cb, I ((q1' : Nat) : Int)]]) ?_ (fun D_1_13 => ?_)
   · rintro f w29 ⟨r1', q1', hf, p107, p108, hs29⟩
     obtain ⟨g14, rfl⟩ := has_upd hf
     clear hf
     refine aaL [2, 4] (fa_cons ?_ (fa_one ?_))
     · refine one_ rfl ?_
       refine bsk hs29 sl23 [I 0, I 1, I 10, I 255, I r1'] [I 0, I 1, I 10, I 255, I r1'] trivial rfl (fun b2' w30 hs30 => ?_)
       exact nl (kq ⟨_, hs30, trivial⟩ (alc D_1_11 ⟨r1', q1', b2', ⟨rfl, rfl, rfl, rfl, rfl, rfl, trivial⟩, p107, p108, hs30⟩))
     · refine one_ rfl ?_
       refine cl trivial rfl (pick (rb := rb) (Ab := Ab) (cb := cb) (bs := bs) (p := q1') (n := 5) (w := _) (hr := (blk_heap hs29 0 rfl)) (hb := (hb.up hs29 (fun _ h => h) (fun _ h => .inl h))) (hbn := (by first | assumption | (simp; omega))) (hp := (by omega))) ?_
       rintro _ w31 ⟨r4', q4', rfl, p109, p110, hs31'⟩
       have hs31 := hs29.callM 0 rfl hs31' (by intro k hk; simp at hk; exact hk.symm)
       clear hs31'
       exact nl (kq ⟨_, hs31, trivial⟩ (alc D_1_12 ⟨r1', q1', r4', q4', ⟨rfl, rfl, rfl, rfl, rfl, rfl, trivial⟩, p107, p108, p109, p110, hs31⟩))
   refine dag (fuel' := 10) (listed' := lbits 15 2697) (fun f w' => Has f [(0, pb rb), (4, pb rb), (7, pb rb), (11, pb rb), (13, pb rb), (15, pb rb)] ∧ SH w w' [rb] [.blk rb 78 [.slice Ab bs.length cb, I ((p : Nat) : Int)]]) ?_ (fun D_1_14 => ?_)
   · rintro f w32 ⟨hf, hs32⟩
     obtain ⟨g15, rfl⟩ := has_upd hf
     clear hf
     refine aaL [1] (fa_one ?_)
     refine one_ rfl ?_
     refine cl trivial rfl (pick (rb := rb) (Ab := Ab) (cb := cb) (bs := bs) (p := p) (n := 256) (w := _) (hr := (blk_heap hs32 0 rfl)) (hb := (hb.up hs32 (fun _ h => h) (fun _ h => .inl h))) (hbn := (by first | assumption | (simp; omega))) (hp := (by omega))) ?_
     rintro _ w33 ⟨r1', q1', rfl, p111, p112, hs33'⟩
     have hs33 := hs32.callM 0 rfl hs33' (by intro k hk; simp at hk; exact hk.symm)
     clear hs33'
     exact nl (kq ⟨_, hs33, trivial⟩ (alc D_1_13 ⟨r1', q1', ⟨rfl, rfl, rfl, rfl, rfl, rfl, trivial⟩, p111, p112, hs33⟩))
   have hs34 := hs0.drew
   refine tk (fuel := 10) (is := [0, 3, 7, 9, 11]) (.cons rfl (.cons rfl (.cons rfl (.cons rfl (.cons rfl (.nil)))))) (by kernel_rfl) (by kernel_rfl) ⟨_, hs34, trivial⟩ ?_
   refine .op trivial rfl rfl (fun wq _ => mv (v := pb rb) rfl) ?_
   refine .op trivial rfl rfl (fun wq _ => mv (v := pb rb) rfl) ?_
   refine .op trivial rfl rfl (fun wq _ => mv (v := pb rb) rfl) ?_
   refine .op trivial rfl rfl (fun wq _ => mv (v := pb rb) rfl) ?_
   refine .op trivial rfl rfl (fun wq _ => mv (v := pb rb) rfl) ?_
   refine .nil ?_
   exact alc D_1_14 ⟨⟨rfl, rfl, rfl, rfl, rfl, rfl, trivial⟩, hs34⟩
 rintro f w34 ⟨r1', q1', b2', r4', q4', r8', q8', r10', q10', r12', q12', b13', hf, p113, p114, p115, p116, p117, p118, p119, p120, p121, p122, hs35⟩
 obtain ⟨g16, rfl⟩ := has_upd hf
 clear hf
 refine nN ?_
 refine sq ?_
 refine sq ?_
 refine rg ?_
 refine q trivial rfl rfl (mv (v := pb rb) rfl) ?_
 refine cl trivial rfl (pick (rb := rb) (Ab := Ab) (cb := cb) (bs := bs) (p := q12') (n := 40) (w := _) (hr := (blk_heap hs35 0 rfl)) (hb := (hb.up hs35 (fun _ h => h) (fun _ h => .inl h))) (hbn := (by first | assumption | (simp; omega))) (hp := (by omega))) ?_
 rintro _ w35 ⟨r1, q1, rfl, p123, p124, hs36'⟩
 have hs36 : SH w w35 [rb] [oI b13' ([([0, 1, 10, 255, r1'] : List Int).getD r4'.toNat 0, r8', r10', r12'] : List Int) 4 3, oI b2' ([0, 1, 10, 255, r1'] : List Int) 5 3, .blk rb 78 [.slice Ab bs.length cb, I ((q1 : Nat) : Int)]] := hs35.callM 0 rfl hs36' (by intro k hk; simp at hk; exact hk.symm)
 clear hs36'
 refine nl ?_
 refine nN ?_
 refine bl ?_
 refine sq ?_
 refine rg ?_
 refine q trivial rfl rfl (eqi (k := .i64) (a := r1) (b := 0) rfl rfl) ?_
 refine q trivial rfl rfl (asg (v := .bool (decide (r1 = 0))) rfl) ?_
 refine nl ?_
 refine nN ?_
 refine cdd (p := r1 = 0) rfl (fun h1 => ?_) (fun h1 => ?_)
 · refine rg ?_
   refine q trivial rfl rfl (mv (v := sb b13' (([([0, 1, 10, 255, r1'] : List Int).getD r4'.toNat 0, r8', r10', r12'] : List Int).length) 4) rfl) ?_
   refine q trivial rfl rfl (mv (v := pb rb) rfl) ?_
   refine cl trivial rfl (pick (rb := rb) (Ab := Ab) (cb := cb) (bs := bs) (p := q1) (n := 4) (w := _) (hr := (blk_heap hs36 2 rfl)) (hb := (hb.up hs36 (fun _ h => h) (fun _ h => .inl h))) (hbn := (by first | assumption | (simp; omega))) (hp := (by omega))) ?_
   rintro _ w36 ⟨r2, q2, rfl, p125, p126, hs37'⟩
   have hs37 : SH w w36 [rb] [oI b13' ([([0, 1, 10, 255, r1'] : List Int).getD r4'.toNat 0, r8', r10', r12'] : List Int) 4 3, oI b2' ([0, 1, 10, 255, r1'] : List Int) 5 3, .blk rb 78 [.slice Ab bs.length cb, I ((q2 : Nat) : Int)]] := hs36.callM 2 rfl hs37' (by intro k hk; simp at hk; exact hk.symm)
   clear hs37'
   refine q trivial rfl rfl (ixo r2.toNat sl23 rfl (ieq (x := r2) (by omega)) (by first | omega | (simp; done) | (simp; omega))) ?_
   refine stomn (g := I) (ys := ([([0, 1, 10, 255, r1'] : List Int).getD r4'.toNat 0, r8', r10', r12'] : List Int)) (o := r2.toNat) (u := 256) hs37 0 rfl rfl rfl rfl (by first | omega | (simp; done) | (simp; omega)) rfl one3 trivial (fun w37 (hs38 : SH w w37 [rb] [oI b2' ([0, 1, 10, 255, r1'] : List Int) 5 3, .blk rb 78 [.slice Ab bs.length cb, I ((q2 : Nat) : Int)], .own (some ⟨b13', 0, none⟩) (([([0, 1, 10, 255, r1'] : List Int).getD r4'.toNat 0, r8', r10', r12'] : List Int).length) 4 3 1 ((([([0, 1, 10, 255, r1'] : List Int).getD r4'.toNat 0, r8', r10', r12'] : List Int).set r2.toNat 256).map I)]) => ?_)
   refine nl ?_
   refine bN ?_
   refine nN ?_
   refine sq ?_
   refine rg ?_
   refine q trivial rfl rfl (mv (v := sb b13' (([([0, 1, 10, 255, r1'] : List Int).getD r4'.toNat 0, r8', r10', r12'] : List Int).length) 4) rfl) ?_
   refine q trivial rfl rfl (asg (v := sb b13' (([([0, 1, 10, 255, r1'] : List Int).getD r4'.toNat 0, r8', r10', r12'] : List Int).length) 4) rfl) ?_
   refine nl ?_
   refine nN ?_
   refine rt ?_
   refine fret (v := sb b13' (([([0, 1, 10, 255, r1'] : List Int).getD r4'.toNat 0, r8', r10', r12'] : List Int).length) 4) (.tmp .nil) rfl ?_
   have e1 : ([([0, 1, 10, 255, r1'] : List Int).getD r4'.toNat 0, r8', r10', r12'] : List Int).length = (([([0, 1, 10, 255, r1'] : List Int).getD r4'.toNat 0, r8', r10', r12'] : List Int).set r2.toNat 256).length := by first | rfl | (simp; done) | (simp; omega) | omega
   exact ⟨(some ⟨b13', 0, none⟩), 4, ([([0, 1, 10, 255, r1'] : List Int).getD r4'.toNat 0, r8', r10', r12'] : List Int).set r2.toNat 256, q2, (slv rfl e1 rfl), (by first | omega | (simp; omega) | simp), (by omega), ((hs38.pick [1, 2] rfl (by decide)).cast (lc rfl (lc (own_eq (g := I) rfl e1 rfl rfl) rfl)))⟩
 · refine sq ?_
   refine rg ?_
   refine q trivial rfl rfl (eqi (k := .i64) (a := r1) (b := 1) rfl rfl) ?_
   refine q trivial rfl rfl (asg (v := .bool (decide (r1 = 1))) rfl) ?_
   refine nl ?_
   refine nN ?_
   refine cdd (p := r1 = 1) rfl (fun h2 => ?_) (fun h2 => ?_)
   · refine sq ?_
     refine rg ?_
     refine q trivial rfl rfl (mv (v := sb b13' (([([0, 1, 10, 255, r1'] : List Int).getD r4'.toNat 0, r8', r10', r12'] : List Int).length) 4) rfl) ?_
     have e2 : (([([0, 1, 10, 255, r1'] : List Int).getD r4'.toNat 0, r8', r10', r12'] : List Int).map I).take (3 * 1) = (([([0, 1, 10, 255, r1'] : List Int).getD r4'.toNat 0, r8', r10', r12'] : List Int).take 3).map I := by first | rfl | simp [List.map_take]
     have hs39 : SH w w35 [rb] [oI b2' ([0, 1, 10, 255, r1'] : List Int) 5 3, .blk rb 78 [.slice Ab bs.length cb, I ((q1 : Nat) : Int)], .own (some ⟨b13', 0, none⟩) 3 4 3 1 ((([([0, 1, 10, 255, r1'] : List Int).getD r4'.toNat 0, r8', r10', r12'] : List Int).take 3).map I)] := e2 ▸ SH.trunc hs36 0 (3) rfl (by first | omega | (simp; done) | (simp; omega))
     refine q trivial rfl rfl (cuh 3 sl23 rfl rfl (Nat.le_trans (by first | omega | (simp; done) | (simp; omega)) (own_cap hs36 0 rfl).1)) ?_
     refine q trivial rfl rfl (asg (v := sb b13' 3 4) rfl) ?_
     refine nl ?_
     refine nN ?_
     refine rt (bR (tR ?_))
     refine fret (v := sb b13' 3 4) (.tmp .nil) rfl ?_
     have e3 : 3 = (([([0, 1, 10, 255, r1'] : List Int).getD r4'.toNat 0, r8', r10', r12'] : List Int).take 3).length := by first | rfl | (simp; done) | (simp; omega) | omega
     exact ⟨(some ⟨b13', 0, none⟩), 4, ([([0, 1, 10, 255, r1'] : List Int).getD r4'.toNat 0, r8', r10', r12'] : List Int).take 3, q1, (slv rfl e3 rfl), (by first | omega | (simp; omega) | simp), (by omega), ((hs39.pick [1, 2] rfl (by decide)).cast (lc rfl (lc (own_eq (g := I) rfl e3 rfl rfl) rfl)))⟩
   · refine sk ?_
     refine bN ?_
     refine nN ?_
     refine sq ?_
     refine rg ?_
     refine q trivial rfl rfl (mv (v := sb b13' (([([0, 1, 10, 255, r1'] : List Int).getD r4'.toNat 0, r8', r10', r12'] : List Int).length) 4) rfl) ?_
     refine q trivial rfl rfl (asg (v := sb b13' (([([0, 1, 10, 255, r1'] : List Int).getD r4'.toNat 0, r8', r10', r12'] : List Int).length) 4) rfl) ?_
     refine nl ?_
     refine nN ?_
     refine rt ?_
     refine fret (v := sb b13' (([([0, 1, 10, 255, r1'] : List Int).getD r4'.toNat 0, r8', r10', r12'] : List Int).length) 4) (.tmp .nil) rfl ?_
     exact ⟨(some ⟨b13', 0, none⟩), 4, ([([0, 1, 10, 255, r1'] : List Int).getD r4'.toNat 0, r8', r10', r12'] : List Int), q1, rfl, (by first | omega | (simp; omega) | simp), (by omega), (hs36.pick [2, 0] rfl (by decide))⟩

set_option maxHeartbeats 8000000 in
theorem l91Port {rb : Nat} {Ab : Option Addr} {cb : Nat} {bs : List UInt8} {p : Nat} (w : World) (hr : w.heap[rb]? = some (.cells [.slice Ab bs.length cb, .int .i64 ((p : Nat) : Int)].toArray 78 (0, 0))) (hb : Sl w [rb] 1 Ab bs.length cb (bs.map U)) (hbn : bs.length ≤ 2000) (hp : p ≤ 549755813888) : Does Tryd.prog 68 [pb rb] w (fun v w' => ∃ r : Int, ∃ q : Nat, v = .int .i64 r ∧ (q ≤ p + 10) ∧ SH w w' [rb] [.blk rb 78 [.slice Ab bs.length cb, I ((q : Nat) : Int)]]) := by
 refine fn_enter (N := 18) Tryd.func68 rfl (by kernel_rfl) rfl rfl rfl ?_
 have hs0 : SH w w [rb] [.blk rb 78 [.slice Ab bs.length cb, I ((p : Nat) : Int)]] := SH.entry1 hr
 refine sq ?_
 refine rg ?_
 refine q trivial rfl rfl (asg (v := I 0) rfl) ?_
 refine nl ?_
 refine nN ?_
 refine sq ?_
 refine sq ?_
 refine rg ?_
 refine q trivial rfl rfl (mv (v := pb rb) rfl) ?_
 refine cl trivial rfl (pick (rb := rb) (Ab := Ab) (cb := cb) (bs := bs) (p := p) (n := 40) (w := _) (hr := (blk_heap hs0 0 rfl)) (hb := (hb.up hs0 (fun _ h => h) (fun _ h => .inl h))) (hbn := (by first | assumption | (simp; omega))) (hp := (by omega))) ?_
 rintro _ w1 ⟨r1, q1, rfl, p1, p2, hs1'⟩
 have hs1 : SH w w1 [rb] [.blk rb 78 [.slice Ab bs.length cb, I ((q1 : Nat) : Int)]] := hs0.callM 0 rfl hs1' (by intro k hk; simp at hk; exact hk.symm)
 clear hs1'
 refine q trivial rfl rfl (eqi (k := .i64) (a := r1) (b := 0) rfl rfl) ?_
 refine nl ?_
 refine nN ?_
 refine cdd (p := r1 = 0) rfl (fun h1 => ?_) (fun h1 => ?_)
 · refine sq ?_
   refine rg ?_
   refine bsk hs1 sl23 [I (-1), I 65536] [I (-1), I 65536] trivial rfl (fun b1 w2 (hs2 : SH w w2 [rb] [.blk rb 78 [.slice Ab bs.length cb, I ((q1 : Nat) : Int)], oI b1 ([(-1), 65536] : List Int) 2 3]) => ?_)
   refine q trivial rfl rfl (mv (v := pb rb) rfl) ?_
   refine cl trivial rfl (pick (rb := rb) (Ab := Ab) (cb := cb) (bs := bs) (p := q1) (n := 2) (w := _) (hr := (blk_heap hs2 0 rfl)) (hb := (hb.up hs2 (fun _ h => h) (fun _ h => .inl h))) (hbn := (by first | assumption | (simp; omega))) (hp := (by omega))) ?_
   rintro _ w3 ⟨r2, q2, rfl, p3, p4, hs3'⟩
   have hs3 : SH w w3 [rb] [oI b1 ([(-1), 65536] : List Int) 2 3, .blk rb 78 [.slice Ab bs.length cb, I ((q2 : Nat) : Int)]] := hs2.callM 0 rfl hs3' (by intro k hk; simp at hk; exact hk.symm)
   clear hs3'
   refine q trivial rfl rfl (ixo r2.toNat sl23 rfl (ieq (x := r2) (by omega)) (by first | omega | (simp; done) | (simp; omega))) ?_
   refine q trivial rfl rfl (ldo1n (g := I) (ys := ([(-1), 65536] : List Int)) (o := r2.toNat) 0 hs3 0 rfl rfl (by first | omega | (simp; done) | (simp; omega)) one3) ?_
   refine q trivial rfl rfl (asg (v := I (([(-1), 65536] : List Int).getD r2.toNat 0)) rfl) ?_
   refine nl ?_
   refine nN ?_
   refine rt (tR ?_)
   refine fret (v := I (([(-1), 65536] : List Int).getD r2.toNat 0)) (.tmp .nil) rfl ?_
   exact ⟨([(-1), 65536] : List Int).getD r2.toNat 0, q2, rfl, (by omega), (hs3.pick [1] rfl (by decide))⟩
 · refine sk ?_
   refine nN ?_
   refine sq ?_
   refine rg ?_
   refine q trivial rfl rfl (mv (v := pb rb) rfl) ?_
   refine cl trivial rfl (pick (rb := rb) (Ab := Ab) (cb := cb) (bs := bs) (p := q1) (n := 65536) (w := _) (hr := (blk_heap hs1 0 rfl)) (hb := (hb.up hs1 (fun _ h => h) (fun _ h => .inl h))) (hbn := (by first | assumption | (simp; omega))) (hp := (by omega))) ?_
   rintro _ w4 ⟨r3, q3, rfl, p5, p6, hs4'⟩
   have hs4 : SH w w4 [rb] [.blk rb 78 [.slice Ab bs.length cb, I ((q3 : Nat) : Int)]] := hs1.callM 0 rfl hs4' (by intro k hk; simp at hk; exact hk.symm)
   clear hs4'
   refine bsk hs4 sl23 [I 0, I 80, I 443, I 65535, I r3] [I 0, I 80, I 443, I 65535, I r3] trivial rfl (fun b2 w5 (hs5 : SH w w5 [rb] [.blk rb 78 [.slice Ab bs.length cb, I ((q3 : Nat) : Int)], oI b2 ([0, 80, 443, 65535, r3] : List Int) 5 3]) => ?_)
   refine q trivial rfl rfl (mv (v := pb rb) rfl) ?_
   refine cl trivial rfl (pick (rb := rb) (Ab := Ab) (cb := cb) (bs := bs) (p := q3) (n := 5) (w := _) (hr := (blk_heap hs5 0 rfl)) (hb := (hb.up hs5 (fun _ h => h) (fun _ h => .inl h))) (hbn := (by first | assumption | (simp; omega))) (hp := (by omega))) ?_
   rintro _ w6 ⟨r4, q4, rfl, p7, p8, hs6'⟩
   have hs6 : SH w w6 [rb] [oI b2 ([0, 80, 443, 65535, r3] : List Int) 5 3, .blk rb 78 [.slice Ab bs.length cb, I ((q4 : Nat) : Int)]] := hs5.callM 0 rfl hs6' (by intro k hk; simp at hk; exact hk.symm)
   clear hs6'
   refine q trivial rfl rfl (ixo r4.toNat sl23 rfl (ieq (x := r4) (by omega)) (by first | omega | (simp; done) | (simp; omega))) ?_
   refine q trivial rfl rfl (ldo1n (g := I) (ys := ([0, 80, 443, 65535, r3] : List Int)) (o := r4.toNat) 0 hs6 0 rfl rfl (by first | omega | (simp; done) | (simp; omega)) one3) ?_
   refine q trivial rfl rfl (asg (v := I (([0, 80, 443, 65535, r3] : List Int).getD r4.toNat 0)) rfl) ?_
   refine nl ?_
   refine nN ?_
   refine rt ?_
   refine fret (v := I (([0, 80, 443, 65535, r3] : List Int).getD r4.toNat 0)) (.tmp .nil) rfl ?_
   exact ⟨([0, 80, 443, 65535, r3] : List Int).getD r4.toNat 0, q4, rfl, (by omega), (hs6.pick [1] rfl (by decide))⟩

theorem l91Name {rb : Nat} {Ab : Option Addr} {cb : Nat} {bs : List UInt8} {p : Nat} (w : World) (hr : w.heap[rb]? = some (.cells [.slice Ab bs.length cb, .int .i64 ((p : Nat) : Int)].toArray 78 (0, 0))) (hb : Sl w [rb] 1 Ab bs.length cb (bs.map U)) (hbn : bs.length ≤ 2000) (hp : p ≤ 274877906944) : Does Tryd.prog 69 [pb rb] w (fun v w' => ∃ s : List UInt8, ∃ q : Nat, v = Str s ∧ (s.length ≤ 21) ∧ (q ≤ p + 10) ∧ SH w w' [rb] [.blk rb 78 [.slice Ab bs.length cb, I ((q : Nat) : Int)]]) := by
 refine fn_enter (N := 12) Tryd.func69 rfl (by kernel_rfl) rfl rfl rfl ?_
 have hs0 : SH w w [rb] [.blk rb 78 [.slice Ab bs.length cb, I ((p : Nat) : Int)]] := SH.entry1 hr
 refine sq ?_
 refine rg ?_
 refine q trivial rfl rfl (asg (v := Str []) rfl) ?_
 refine nl ?_
 refine nN ?_
 refine sq ?_
 refine sq ?_
 refine rg ?_
 refine q trivial rfl rfl (mv (v := pb rb) rfl) ?_
 refine cl trivial rfl (pick (rb := rb) (Ab := Ab) (cb := cb) (bs := bs) (p := p) (n := 20) (w := _) (hr := (blk_heap hs0 0 rfl)) (hb := (hb.up hs0 (fun _ h => h) (fun _ h => .inl h))) (hbn := (by first | assumption | (simp; omega))) (hp := (by omega))) ?_
 rintro _ w1 ⟨r1, q1, rfl, p1, p2, hs1'⟩
 have hs1 : SH w w1 [rb] [.blk rb 78 [.slice Ab bs.length cb, I ((q1 : Nat) : Int)]] := hs0.callM 0 rfl hs1' (by intro k hk; simp at hk; exact hk.symm)
 clear hs1'
 refine q trivial rfl rfl (eqi (k := .i64) (a := r1) (b := 0) rfl rfl) ?_
 refine nl ?_
 refine nN ?_
 refine cdd (p := r1 = 0) rfl (fun h1 => ?_) (fun h1 => ?_)
 · refine sq ?_
   refine rg ?_
   refine q trivial rfl rfl (mv (v := pb rb) rfl) ?_
   refine bsk hs1 sl88 [Str [], Str [97, 46, 46, 98], Str [46, 97], Str [97, 46], Str [65], Str [97, 95, 98], Str [97, 98, 99, 100, 101, 102, 103, 104, 105, 106, 107, 108, 109, 110, 111, 112, 113, 114, 115, 116], Str [97, 98, 99, 100, 101, 102, 103, 104, 105, 106, 107, 108, 109, 110, 111, 112, 113, 114, 115, 116, 117], Str [97, 46, 57]] [Str [], Str [97, 46, 46, 98], Str [46, 97], Str [97, 46], Str [65], Str [97, 95, 98], Str [97, 98, 99, 100, 101, 102, 103, 104, 105, 106, 107, 108, 109, 110, 111, 112, 113, 114, 115, 116], Str [97, 98, 99, 100, 101, 102, 103, 104, 105, 106, 107, 108, 109, 110, 111, 112, 113, 114, 115, 116, 117], Str [97, 46, 57]] trivial rfl (fun b1 w2 (hs2 : SH w w2 [rb] [.blk rb 78 [.slice Ab bs.length cb, I ((q1 : Nat) : Int)], .own (some ⟨b1, 0, none⟩) (([[], [97, 46, 46, 98], [46, 97], [97, 46], [65], [97, 95, 98], [97, 98, 99, 100, 101, 102, 103, 104, 105, 106, 107, 108, 109, 110, 111, 112, 113, 114, 115, 116], [97, 98, 99, 100, 101, 102, 103, 104, 105, 106, 107, 108, 109, 110, 111, 112, 113, 114, 115, 116, 117], [97, 46, 57]] : List (List UInt8)).length) 9 9 1 (([[], [97, 46, 46, 98], [46, 97], [97, 46], [65], [97, 95, 98], [97, 98, 99, 100, 101, 102, 103, 104, 105, 106, 107, 108, 109, 110, 111, 112, 113, 114, 115, 116], [97, 98, 99, 100, 101, 102, 103, 104, 105, 106, 107, 108, 109, 110, 111, 112, 113, 114, 115, 116, 117], [97, 46, 57]] : List (List UInt8)).map Str)]) => ?_)
   refine cl trivial rfl (rdOf (rb := rb) (Ab := Ab) (cb := cb) (bs := bs) (p := q1) (Ass := (some ⟨b1, 0, none⟩)) (css := 9) (ss := ([[], [97, 46, 46, 98], [46, 97], [97, 46], [65], [97, 95, 98], [97, 98, 99, 100, 101, 102, 103, 104, 105, 106, 107, 108, 109, 110, 111, 112, 113, 114, 115, 116], [97, 98, 99, 100, 101, 102, 103, 104, 105, 106, 107, 108, 109, 110, 111, 112, 113, 114, 115, 116, 117], [97, 46, 57]] : List (List UInt8))) (w := _) (hr := (blk_heap hs2 0 rfl)) (hb := (hb.up hs2 (fun _ h => h) (fun _ h => .inl h))) (hbn := (by first | assumption | (simp; omega))) (hp := (by omega)) (hss := (hs2.sl 1 rfl (by intro k hk; simp at hk; subst hk; exact ⟨_, memi 0 rfl, rfl⟩))) (hne := (by first | omega | assumption | (simp; done) | (simp; omega)))) ?_
   rintro _ w3 ⟨s1, q2, rfl, p3, p4, hs3'⟩
   have hs3 : SH w w3 [rb] [.own (some ⟨b1, 0, none⟩) (([[], [97, 46, 46, 98], [46, 97], [97, 46], [65], [97, 95, 98], [97, 98, 99, 100, 101, 102, 103, 104, 105, 106, 107, 108, 109, 110, 111, 112, 113, 114, 115, 116], [97, 98, 99, 100, 101, 102, 103, 104, 105, 106, 107, 108, 109, 110, 111, 112, 113, 114, 115, 116, 117], [97, 46, 57]] : List (List UInt8)).length) 9 9 1 (([[], [97, 46, 46, 98], [46, 97], [97, 46], [65], [97, 95, 98], [97, 98, 99, 100, 101, 102, 103, 104, 105, 106, 107, 108, 109, 110, 111, 112, 113, 114, 115, 116], [97, 98, 99, 100, 101, 102, 103, 104, 105, 106, 107, 108, 109, 110, 111, 112, 113, 114, 115, 116, 117], [97, 46, 57]] : List (List UInt8)).map Str), .blk rb 78 [.slice Ab bs.length cb, I ((q2 : Nat) : Int)]] := hs2.callM 0 rfl hs3' (by intro k hk; simp at hk; exact hk.symm)
   clear hs3'
   refine q trivial rfl rfl (asg (v := Str s1) rfl) ?_
   refine nl ?_
   refine nN ?_
   refine rt (tR ?_)
   refine fret (v := Str s1) (.tmp .nil) rfl ?_
   exact ⟨s1, q2, rfl, (by first | exact names9 (by assumption) | exact names6 (by assumption)), (by omega), (hs3.pick [1] rfl (by decide))⟩
 · refine sk ?_
   refine nN ?_
   refine sq ?_
   refine rg ?_
   refine q trivial rfl rfl (mv (v := pb rb) rfl) ?_
   refine bsk hs1 sl88 [Str [120, 46, 111, 114, 103], Str [119, 119, 119, 46, 120, 46, 111, 114, 103], Str [97], Str [98, 45, 99, 46, 110, 101, 116], Str [57, 97, 46, 98], Str [121]] [Str [120, 46, 111, 114, 103], Str [119, 119, 119, 46, 120, 46, 111, 114, 103], Str [97], Str [98, 45, 99, 46, 110, 101, 116], Str [57, 97, 46, 98], Str [121]] trivial rfl (fun b2 w4 (hs4 : SH w w4 [rb] [.blk rb 78 [.slice Ab bs.length cb, I ((q1 : Nat) : Int)], .own (some ⟨b2, 0, none⟩) (([[120, 46, 111, 114, 103], [119, 119, 119, 46, 120, 46, 111, 114, 103], [97], [98, 45, 99, 46, 110, 101, 116], [57, 97, 46, 98], [121]] : List (List UInt8)).length) 6 9 1 (([[120, 46, 111, 114, 103], [119, 119, 119, 46, 120, 46, 111, 114, 103], [97], [98, 45, 99, 46, 110, 101, 116], [57, 97, 46, 98], [121]] : List (List UInt8)).map Str)]) => ?_)
   refine cl trivial rfl (rdOf (rb := rb) (Ab := Ab) (cb := cb) (bs := bs) (p := q1) (Ass := (some ⟨b2, 0, none⟩)) (css := 6) (ss := ([[120, 46, 111, 114, 103], [119, 119, 119, 46, 120, 46, 111, 114, 103], [97], [98, 45, 99, 46, 110, 101, 116], [57, 97, 46, 98], [121]] : List (List UInt8))) (w := _) (hr := (blk_heap hs4 0 rfl)) (hb := (hb.up hs4 (fun _ h => h) (fun _ h => .inl h))) (hbn := (by first | assumption | (simp; omega))) (hp := (by omega)) (hss := (hs4.sl 1 rfl (by intro k hk; simp at hk; subst hk; exact ⟨_, memi 0 rfl, rfl⟩))) (hne := (by first | omega | assumption | (simp; done) | (simp; omega)))) ?_
   rintro _ w5 ⟨s2, q3, rfl, p5, p6, hs5'⟩
   have hs5 : SH w w5 [rb] [.own (some ⟨b2, 0, none⟩) (([[120, 46, 111, 114, 103], [119, 119, 119, 46, 120, 46, 111, 114, 103], [97], [98, 45, 99, 46, 110, 101, 116], [57, 97, 46, 98], [121]] : List (List UInt8)).length) 6 9 1 (([[120, 46, 111, 114, 103], [119, 119, 119, 46, 120, 46, 111, 114, 103], [97], [98, 45, 99, 46, 110, 101, 116], [57, 97, 46, 98], [121]] : List (List UInt8)).map Str), .blk rb 78 [.slice Ab bs.length cb, I ((q3 : Nat) : Int)]] := hs4.callM 0 rfl hs5' (by intro k hk; simp at hk; exact hk.symm)
   clear hs5'
   refine q trivial rfl rfl (asg (v := Str s2) rfl) ?_
   refine nl ?_
   refine nN ?_
   refine rt ?_
   refine fret (v := Str s2) (.tmp .nil) rfl ?_
   exact ⟨s2, q3, rfl, (by first | exact names9 (by assumption) | exact names6 (by assumption)), (by omega), (hs5.pick [1] rfl (by decide))⟩

set_option maxHeartbeats 8000000 in
theorem l91Address {rb : Nat} {Ab : Option Addr} {cb : Nat} {bs : List UInt8} {p : Nat} (w : World) (hr : w.heap[rb]? = some (.cells [.slice Ab bs.length cb, .int .i64 ((p : Nat) : Int)].toArray 78 (0, 0))) (hb : Sl w [rb] 1 Ab bs.length cb (bs.map U)) (hbn : bs.length ≤ 2000) (hp : p ≤ 137438953472) : Does Tryd.prog 52 [pb rb] w (fun v w' => ∃ Aqr : Option Addr, ∃ cqr : Nat, ∃ ak : Int, ∃ aq : List Int, ∃ an : List UInt8, ∃ apt : Int, ∃ q : Nat, v = .agg #[.int .i64 ak, .slice Aqr aq.length cqr, Str an, .int .i64 apt] ∧ (aq.length ≤ 4) ∧ (an.length ≤ 21) ∧ (q ≤ p + 40) ∧ SH w w' [rb] [.blk rb 78 [.slice Ab bs.length cb, I ((q : Nat) : Int)], .own Aqr aq.length cqr 3 1 (aq.map I)]) := by
 refine fn_enter (N := 25) Tryd.func52 rfl (by kernel_rfl) rfl rfl rfl ?_
 have hs0 : SH w w [rb] [.blk rb 78 [.slice Ab bs.length cb, I ((p : Nat) : Int)]] := SH.entry1 hr
 refine sq ?_
 refine rg ?_
 refine al (v := .agg #[I 0, ns, Str [], I 0]) (cs := [I 0, ns, Str [], I 0]) hs0 tz27 rfl trivial rfl (fun b1 w1 (hs1 : SH w w1 [rb] [.blk rb 78 [.slice Ab bs.length cb, I ((p : Nat) : Int)], .blk b1 27 [I 0, ns, Str [], I 0]]) => ?_)
 refine nl ?_
 refine nN ?_
 refine sq ?_
 refine sq ?_
 refine rg ?_
 refine q trivial rfl rfl (mv (v := pb rb) rfl) ?_
 refine cl trivial rfl (pick (rb := rb) (Ab := Ab) (cb := cb) (bs := bs) (p := p) (n := 2) (w := _) (hr := (blk_heap hs1 0 rfl)) (hb := (hb.up hs1 (fun _ h => h) (fun _ h => .inl h))) (hbn := (by first | assumption | (simp; omega))) (hp := (by omega))) ?_
 rintro _ w2 ⟨r1, q1, rfl, p1, p2, hs2'⟩
 have hs2 : SH w w2 [rb] [.blk b1 27 [I 0, ns, Str [], I 0], .blk rb 78 [.slice Ab bs.length cb, I ((q1 : Nat) : Int)]] := hs1.callM 0 rfl hs2' (by intro k hk; simp at hk; exact hk.symm)
 clear hs2'
 refine q trivial rfl rfl (eqi (k := .i64) (a := r1) (b := 0) rfl rfl) ?_
 refine nl ?_
 refine nN ?_
 refine cdd (p := r1 = 0) rfl (fun h1 => ?_) (fun h1 => ?_)
 · refine sq ?_
   refine rg ?_
   refine q trivial rfl rfl (mv (v := pb rb) rfl) ?_
   refine cl trivial rfl (l91Quad (rb := rb) (Ab := Ab) (cb := cb) (bs := bs) (p := q1) (w := _) (hr := (blk_heap hs2 1 rfl)) (hb := (hb.up hs2 (fun _ h => h) (fun _ h => .inl h))) (hbn := (by first | assumption | (simp; omega))) (hp := (by omega))) ?_
   rintro _ w3 ⟨A1, c1, r2, q2, rfl, p3, p4, hs3'⟩
   have hs3 : SH w w3 [rb] [.blk b1 27 [I 0, ns, Str [], I 0], .blk rb 78 [.slice Ab bs.length cb, I ((q2 : Nat) : Int)], .own A1 r2.length c1 3 1 (r2.map I)] := hs2.callM 1 rfl hs3' (by intro k hk; simp at hk; exact hk.symm)
   clear hs3'
   refine q trivial rfl rfl (mv (v := pb rb) rfl) ?_
   refine cl trivial rfl (l91Port (rb := rb) (Ab := Ab) (cb := cb) (bs := bs) (p := q2) (w := _) (hr := (blk_heap hs3 1 rfl)) (hb := (hb.up hs3 (fun _ h => h) (fun _ h => .inl h))) (hbn := (by first | assumption | (simp; omega))) (hp := (by omega))) ?_
   rintro _ w4 ⟨r3, q3, rfl, p5, hs4'⟩
   have hs4 : SH w w4 [rb] [.blk b1 27 [I 0, ns, Str [], I 0], .own A1 r2.length c1 3 1 (r2.map I), .blk rb 78 [.slice Ab bs.length cb, I ((q3 : Nat) : Int)]] := hs3.callM 1 rfl hs4' (by intro k hk; simp at hk; exact hk.symm)
   clear hs4'
   refine q trivial rfl rfl (bdv (v := .agg #[I 1, .slice A1 r2.length c1, Str [], I r3]) [(0, I 1), (1, .slice A1 r2.length c1), (3, I r3)] rfl (fun _ => by kernel_rfl)) ?_
   refine stg (vs := [I 1, .slice A1 r2.length c1, Str [], I r3]) hs4 0 rfl rfl rfl rfl rfl rfl rfl ag27 trivial (fun w5 (hs5 : SH w w5 [rb] [.own A1 r2.length c1 3 1 (r2.map I), .blk rb 78 [.slice Ab bs.length cb, I ((q3 : Nat) : Int)], .blk b1 27 [I 1, .slice A1 r2.length c1, Str [], I r3]]) => ?_)
   refine nl ?_
   refine nN ?_
   refine rt (tR ?_)
   refine fret (v := .agg #[I 1, .slice A1 r2.length c1, Str [], I r3]) (resC hs5 2 rfl rfl ag27 rfl .nil) rfl ?_
   exact ⟨A1, c1, 1, r2, [], r3, q3, rfl, (by first | omega | simp), (by first | omega | simp), (by omega), (hs5.pick [1, 0] rfl (by decide))⟩
 · refine sk ?_
   refine nN ?_
   refine sq ?_
   refine rg ?_
   refine bsk hs2 sl23 [] [] trivial rfl (fun b2 w6 (hs6 : SH w w6 [rb] [.blk b1 27 [I 0, ns, Str [], I 0], .blk rb 78 [.slice Ab bs.length cb, I ((q1 : Nat) : Int)], oI b2 ([] : List Int) 0 3]) => ?_)
   refine q trivial rfl rfl (mv (v := pb rb) rfl) ?_
   refine cl trivial rfl (l91Name (rb := rb) (Ab := Ab) (cb := cb) (bs := bs) (p := q1) (w := _) (hr := (blk_heap hs6 1 rfl)) (hb := (hb.up hs6 (fun _ h => h) (fun _ h => .inl h))) (hbn := (by first | assumption | (simp; omega))) (hp := (by omega))) ?_
   rintro _ w7 ⟨s1, q4, rfl, p6, p7, hs7'⟩
   have hs7 : SH w w7 [rb] [.blk b1 27 [I 0, ns, Str [], I 0], oI b2 ([] : List Int) 0 3, .blk rb 78 [.slice Ab bs.length cb, I ((q4 : Nat) : Int)]] := hs6.callM 1 rfl hs7' (by intro k hk; simp at hk; exact hk.symm)
   clear hs7'
   refine q trivial rfl rfl (mv (v := pb rb) rfl) ?_
   refine cl trivial rfl (l91Port (rb := rb) (Ab := Ab) (cb := cb) (bs := bs) (p := q4) (w := _) (hr := (blk_heap hs7 2 rfl)) (hb := (hb.up hs7 (fun _ h => h) (fun _ h => .inl h))) (hbn := (by first | assumption | (simp; omega))) (hp := (by omega))) ?_
   rintro _ w8 ⟨r4, q5, rfl, p8, hs8'⟩
   have hs8 : SH w w8 [rb] [.blk b1 27 [I 0, ns, Str [], I 0], oI b2 ([] : List Int) 0 3, .blk rb 78 [.slice Ab bs.length cb, I ((q5 : Nat) : Int)]] := hs7.callM 2 rfl hs8' (by intro k hk; simp at hk; exact hk.symm)
   clear hs8'
   refine q trivial rfl rfl (bdv (v := .agg #[I 3, sb b2 (([] : List Int).length) 0, Str s1, I r4]) [(0, I 3), (1, sb b2 (([] : List Int).length) 0), (2, Str s1), (3, I r4)] rfl (fun _ => by kernel_rfl)) ?_
   refine al (v := .agg #[I 0, ns, Str [], I 0]) (cs := [I 0, ns, Str [], I 0]) hs8 tz27 rfl trivial rfl (fun b3 w9 (hs9 : SH w w9 [rb] [.blk b1 27 [I 0, ns, Str [], I 0], oI b2 ([] : List Int) 0 3, .blk rb 78 [.slice Ab bs.length cb, I ((q5 : Nat) : Int)], .blk b3 27 [I 0, ns, Str [], I 0]]) => ?_)
   refine stg (vs := [I 3, sb b2 (([] : List Int).length) 0, Str s1, I r4]) hs9 3 rfl rfl rfl rfl rfl rfl rfl ag27 trivial (fun w10 (hs10 : SH w w10 [rb] [.blk b1 27 [I 0, ns, Str [], I 0], oI b2 ([] : List Int) 0 3, .blk rb 78 [.slice Ab bs.length cb, I ((q5 : Nat) : Int)], .blk b3 27 [I 3, sb b2 (([] : List Int).length) 0, Str s1, I r4]]) => ?_)
   refine nl ?_
   refine nN ?_
   refine sq ?_
   refine sq ?_
   refine rg ?_
   refine q trivial rfl rfl (mv (v := pb rb) rfl) ?_
   refine cl trivial rfl (pick (rb := rb) (Ab := Ab) (cb := cb) (bs := bs) (p := q5) (n := 40) (w := _) (hr := (blk_heap hs10 2 rfl)) (hb := (hb.up hs10 (fun _ h => h) (fun _ h => .inl h))) (hbn := (by first | assumption | (simp; omega))) (hp := (by omega))) ?_
   rintro _ w11 ⟨r5, q6, rfl, p9, p10, hs11'⟩
   have hs11 : SH w w11 [rb] [.blk b1 27 [I 0, ns, Str [], I 0], oI b2 ([] : List Int) 0 3, .blk b3 27 [I 3, sb b2 (([] : List Int).length) 0, Str s1, I r4], .blk rb 78 [.slice Ab bs.length cb, I ((q6 : Nat) : Int)]] := hs10.callM 2 rfl hs11' (by intro k hk; simp at hk; exact hk.symm)
   clear hs11'
   refine q trivial rfl rfl (eqi (k := .i64) (a := r5) (b := 0) rfl rfl) ?_
   refine nl ?_
   refine nN ?_
   refine cdd (p := r5 = 0) rfl (fun h2 => ?_) (fun h2 => ?_)
   · refine rg ?_
     refine q trivial rfl rfl (mv (v := pb rb) rfl) ?_
     refine cl trivial rfl (pick (rb := rb) (Ab := Ab) (cb := cb) (bs := bs) (p := q6) (n := 5) (w := _) (hr := (blk_heap hs11 3 rfl)) (hb := (hb.up hs11 (fun _ h => h) (fun _ h => .inl h))) (hbn := (by first | assumption | (simp; omega))) (hp := (by omega))) ?_
     rintro _ w12 ⟨r6, q7, rfl, p11, p12, hs12'⟩
     have hs12 : SH w w12 [rb] [.blk b1 27 [I 0, ns, Str [], I 0], oI b2 ([] : List Int) 0 3, .blk b3 27 [I 3, sb b2 (([] : List Int).length) 0, Str s1, I r4], .blk rb 78 [.slice Ab bs.length cb, I ((q7 : Nat) : Int)]] := hs11.callM 3 rfl hs12' (by intro k hk; simp at hk; exact hk.symm)
     clear hs12'
     refine q trivial rfl rfl (fa 0 fo27_0 rfl) ?_
     refine st (v := I r6) hs12 2 rfl rfl rfl rfl rfl one3 trivial (fun w13 (hs13 : SH w w13 [rb] [.blk b1 27 [I 0, ns, Str [], I 0], oI b2 ([] : List Int) 0 3, .blk rb 78 [.slice Ab bs.length cb, I ((q7 : Nat) : Int)], .blk b3 27 [I r6, sb b2 (([] : List Int).length) 0, Str s1, I r4]]) => ?_)
     refine nl ?_
     refine nN ?_
     refine sq ?_
     refine rg ?_
     refine q trivial rfl rfl (ldg (vs := [I r6, sb b2 (([] : List Int).length) 0, Str s1, I r4]) hs13 3 rfl rfl rfl rfl ag27) ?_
     refine stg (vs := [I r6, sb b2 (([] : List Int).length) 0, Str s1, I r4]) hs13 0 rfl rfl rfl rfl rfl rfl rfl ag27 trivial (fun w14 (hs14 : SH w w14 [rb] [oI b2 ([] : List Int) 0 3, .blk rb 78 [.slice Ab bs.length cb, I ((q7 : Nat) : Int)], .blk b3 27 [I r6, sb b2 (([] : List Int).length) 0, Str s1, I r4], .blk b1 27 [I r6, sb b2 (([] : List Int).length) 0, Str s1, I r4]]) => ?_)
     refine nl ?_
     refine nN ?_
     refine rt ?_
     refine fret (v := .agg #[I r6, sb b2 (([] : List Int).length) 0, Str s1, I r4]) (resC hs14 3 rfl rfl ag27 rfl .nil) rfl ?_
     exact ⟨(some ⟨b2, 0, none⟩), 0, r6, ([] : List Int), s1, r4, q7, rfl, (by first | omega | simp), (by first | omega | simp), (by omega), (hs14.pick [1, 0] rfl (by decide))⟩
   · refine sk ?_
     refine nN ?_
     refine sq ?_
     refine rg ?_
     refine q trivial rfl rfl (ldg (vs := [I 3, sb b2 (([] : List Int).length) 0, Str s1, I r4]) hs11 2 rfl rfl rfl rfl ag27) ?_
     refine stg (vs := [I 3, sb b2 (([] : List Int).length) 0, Str s1, I r4]) hs11 0 rfl rfl rfl rfl rfl rfl rfl ag27 trivial (fun w15 (hs15 : SH w w15 [rb] [oI b2 ([] : List Int) 0 3, .blk b3 27 [I 3, sb b2 (([] : List Int).length) 0, Str s1, I r4], .blk rb 78 [.slice Ab bs.length cb, I ((q6 : Nat) : Int)], .blk b1 27 [I 3, sb b2 (([] : List Int).length) 0, Str s1, I r4]]) => ?_)
     refine nl ?_
     refine nN ?_
     refine rt ?_
     refine fret (v := .agg #[I 3, sb b2 (([] : List Int).length) 0, Str s1, I r4]) (resC hs15 3 rfl rfl ag27 rfl .nil) rfl ?_
     exact ⟨(some ⟨b2, 0, none⟩), 0, 3, ([] : List Int), s1, r4, q6, rfl, (by first | omega | simp), (by first | omega | simp), (by omega), (hs15.pick [2, 0] rfl (by decide))⟩


end Go.Proofs.YtpddahloogjghaaDoor
