/-
  Part of the proofs over this seat: what each function of the program computes, function by function (the text is written by a program of this hand-in's own).
  Conditions: each theorem states its own.
-/
import Derived.Test.YtpddahloogjghaaDoorPfWalks2
namespace Go.Proofs.YtpddahloogjghaaDoor
open Go.PF
set_option maxRecDepth 100000
set_option linter.unusedSimpArgs false
set_option linter.unusedVariables false

set_option maxHeartbeats 8000000 in
theorem l92Client {rb : Nat} {Ab : Option Addr} {cb : Nat} {bs : List UInt8} {p : Nat} (w : World) (hr : w.heap[rb]? = some (.cells [.slice Ab bs.length cb, .int .i64 ((p : Nat) : Int)].toArray 78 (0, 0))) (hb : Sl w [rb] 1 Ab bs.length cb (bs.map U)) (hbn : bs.length ≤ 2000) (hp : p ≤ 68719476736) : Does Tryd.prog 25 [pb rb] w (fun v w' => ∃ Amr : Option Addr, ∃ cmr : Nat, ∃ Aqr : Option Addr, ∃ cqr : Nat, ∃ ms : List Int, ∃ lu : List UInt8, ∃ lw : List UInt8, ∃ ak : Int, ∃ aq : List Int, ∃ an : List UInt8, ∃ apt : Int, ∃ q : Nat, v = .agg #[.slice Amr ms.length cmr, Str lu, Str lw, .int .i64 ak, .slice Aqr aq.length cqr, Str an, .int .i64 apt] ∧ (ms.length ≤ 2) ∧ (lu.length ≤ 5) ∧ (lw.length ≤ 5) ∧ (aq.length ≤ 4) ∧ (an.length ≤ 21) ∧ (q ≤ p + 60) ∧ SH w w' [rb] [.blk rb 78 [.slice Ab bs.length cb, I ((q : Nat) : Int)], .own Amr ms.length cmr 3 1 (ms.map I), .own Aqr aq.length cqr 3 1 (aq.map I)]) := by
 refine fn_enter (N := 39) Tryd.func25 rfl (by kernel_rfl) rfl rfl rfl ?_
 have hs0 : SH w w [rb] [.blk rb 78 [.slice Ab bs.length cb, I ((p : Nat) : Int)]] := SH.entry1 hr
 refine sq ?_
 refine rg ?_
 refine al (v := .agg #[ns, Str [], Str [], I 0, ns, Str [], I 0]) (cs := [ns, Str [], Str [], I 0, ns, Str [], I 0]) hs0 tz29 rfl trivial rfl (fun b1 w1 (hs1 : SH w w1 [rb] [.blk rb 78 [.slice Ab bs.length cb, I ((p : Nat) : Int)], .blk b1 29 [ns, Str [], Str [], I 0, ns, Str [], I 0]]) => ?_)
 refine nl ?_
 refine nN ?_
 refine sq ?_
 refine raJ (fun w' => ∃ L, SH w w' [rb] L ∧ (.blk b1 29 [ns, Str [], Str [], I 0, ns, Str [], I 0]) ∈ L ∧ True) (fun f w' => ∃ (b0' b1' b2' b3' : Nat) (r6' : Int) (q6' b12' : Nat) (Aq10' : Option Addr) (cq10' : Nat) (ak10' : Int) (aq10' : List Int) (an10' : List UInt8) (apt10' : Int) (q10' b4' : Nat), Has f [(0, pb rb), (2, pb b1), (3, pb b12')] ∧ (0 ≤ r6' ∧ (r6' < 4 ∨ r6' = 0)) ∧ (q6' ≤ p + 1) ∧ (aq10'.length ≤ 4) ∧ (an10'.length ≤ 21) ∧ (q10' ≤ q6' + 40) ∧ SH w w' [rb] [.blk rb 78 [.slice Ab bs.length cb, I ((q10' : Nat) : Int)], .blk b1 29 [ns, Str [], Str [], I 0, ns, Str [], I 0], oI b0' ([0] : List Int) 1 3, oI b1' ([2] : List Int) 1 3, .own Aq10' aq10'.length cq10' 3 1 (aq10'.map I), .blk b12' 29 [.slice ((([(⟨(some ⟨b0', 0, none⟩), 1, ([0] : List Int)⟩ : Hd), (⟨(some ⟨b1', 0, none⟩), 1, ([2] : List Int)⟩ : Hd), (⟨(some ⟨b2', 0, none⟩), 2, ([0, 2] : List Int)⟩ : Hd), (⟨(some ⟨b3', 0, none⟩), 2, ([2, 1] : List Int)⟩ : Hd)] : List Hd).getD r6'.toNat hd0).A) ((([([0] : List Int), ([2] : List Int), ([0, 2] : List Int), ([2, 1] : List Int)] : List (List Int)).getD r6'.toNat []).length) ((([(⟨(some ⟨b0', 0, none⟩), 1, ([0] : List Int)⟩ : Hd), (⟨(some ⟨b1', 0, none⟩), 1, ([2] : List Int)⟩ : Hd), (⟨(some ⟨b2', 0, none⟩), 2, ([0, 2] : List Int)⟩ : Hd), (⟨(some ⟨b3', 0, none⟩), 2, ([2, 1] : List Int)⟩ : Hd)] : List Hd).getD r6'.toNat hd0).c), Str [], Str [], I ak10', .slice Aq10' aq10'.length cq10', Str an10', I apt10'], oI b2' ([0, 2] : List Int) 2 3, oI b3' ([2, 1] : List Int) 2 3, .own (some ⟨b4', 0, none⟩) (([(⟨(some ⟨b0', 0, none⟩), 1, ([0] : List Int)⟩ : Hd), (⟨(some ⟨b1', 0, none⟩), 1, ([2] : List Int)⟩ : Hd), (⟨(some ⟨b2', 0, none⟩), 2, ([0, 2] : List Int)⟩ : Hd), (⟨(some ⟨b3', 0, none⟩), 2, ([2, 1] : List Int)⟩ : Hd)] : List Hd).length) 4 23 1 (([(⟨(some ⟨b0', 0, none⟩), 1, ([0] : List Int)⟩ : Hd), (⟨(some ⟨b1', 0, none⟩), 1, ([2] : List Int)⟩ : Hd), (⟨(some ⟨b2', 0, none⟩), 2, ([0, 2] : List Int)⟩ : Hd), (⟨(some ⟨b3', 0, none⟩), 2, ([2, 1] : List Int)⟩ : Hd)] : List Hd).map hv)]) mixed ?_ ?_
 · refine dag (fuel' := 1) (listed' := lbits 14 8191) (fun f w' => ∃ (b0' b1' b2' b3' : Nat) (r6' : Int) (q6' b12' : Nat) (Aq10' : Option Addr) (cq10' : Nat) (ak10' : Int) (aq10' : List Int) (an10' : List UInt8) (apt10' : Int) (q10' b4' : Nat), Has f [(0, pb rb), (2, pb b1), (3, pb b12'), (15, .agg #[.slice ((([(⟨(some ⟨b0', 0, none⟩), 1, ([0] : List Int)⟩ : Hd), (⟨(some ⟨b1', 0, none⟩), 1, ([2] : List Int)⟩ : Hd), (⟨(some ⟨b2', 0, none⟩), 2, ([0, 2] : List Int)⟩ : Hd), (⟨(some ⟨b3', 0, none⟩), 2, ([2, 1] : List Int)⟩ : Hd)] : List Hd).getD r6'.toNat hd0).A) ((([([0] : List Int), ([2] : List Int), ([0, 2] : List Int), ([2, 1] : List Int)] : List (List Int)).getD r6'.toNat []).length) ((([(⟨(some ⟨b0', 0, none⟩), 1, ([0] : List Int)⟩ : Hd), (⟨(some ⟨b1', 0, none⟩), 1, ([2] : List Int)⟩ : Hd), (⟨(some ⟨b2', 0, none⟩), 2, ([0, 2] : List Int)⟩ : Hd), (⟨(some ⟨b3', 0, none⟩), 2, ([2, 1] : List Int)⟩ : Hd)] : List Hd).getD r6'.toNat hd0).c), Str [], Str [], I ak10', .slice Aq10' aq10'.length cq10', Str an10', I apt10'])] ∧ (0 ≤ r6' ∧ (r6' < 4 ∨ r6' = 0)) ∧ (q6' ≤ p + 1) ∧ (aq10'.length ≤ 4) ∧ (an10'.length ≤ 21) ∧ (q10' ≤ q6' + 40) ∧ SH w w' [rb] [.blk rb 78 [.slice Ab bs.length cb, I ((q10' : Nat) : Int)], .blk b1 29 [ns, Str [], Str [], I 0, ns, Str [], I 0], oI b0' ([0] : List Int) 1 3, oI b1' ([2] : List Int) 1 3, .own Aq10' aq10'.length cq10' 3 1 (aq10'.map I), .blk b12' 29 [ns, Str [], Str [], I 0, ns, Str [], I 0], oI b2' ([0, 2] : List Int) 2 3, oI b3' ([2, 1] : List Int) 2 3, .own (some ⟨b4', 0, none⟩) (([(⟨(some ⟨b0', 0, none⟩), 1, ([0] : List Int)⟩ : Hd), (⟨(some ⟨b1', 0, none⟩), 1, ([2] : List Int)⟩ : Hd), (⟨(some ⟨b2', 0, none⟩), 2, ([0, 2] : List Int)⟩ : Hd), (⟨(some ⟨b3', 0, none⟩), 2, ([2, 1] : List Int)⟩ : Hd)] : List Hd).length) 4 23 1 (([(⟨(some ⟨b0', 0, none⟩), 1, ([0] : List Int)⟩ : Hd), (⟨(some ⟨b1', 0, none⟩), 1, ([2] : List Int)⟩ : Hd), (⟨(some ⟨b2', 0, none⟩), 2, ([0, 2] : List Int)⟩ : Hd), (⟨(some ⟨b3', 0, none⟩), 2, ([2, 1] : List Int)⟩ : Hd)] : List Hd).map hv)]) ?_ (fun D_1_0 => ?_)
   · rintro f w2 ⟨b0', b1', b2', b3', r6', q6', b12', Aq10', cq10', ak10', aq10', an10', apt10', q10', b4', hf, p1, p2, p3, p4, p5, hs2⟩
     obtain ⟨g1, rfl⟩ := has_upd hf
     clear hf
     refine aaL [13] (fa_one ?_)
     refine one_ rfl ?_
     refine stg (vs := [.slice ((([(⟨(some ⟨b0', 0, none⟩), 1, ([0] : List Int)⟩ : Hd), (⟨(some ⟨b1', 0, none⟩), 1, ([2] : List Int)⟩ : Hd), (⟨(some ⟨b2', 0, none⟩), 2, ([0, 2] : List Int)⟩ : Hd), (⟨(some ⟨b3', 0, none⟩), 2, ([2, 1] : List Int)⟩ : Hd)] : List Hd).getD r6'.toNat hd0).A) ((([([0] : List Int), ([2] : List Int), ([0, 2] : List Int), ([2, 1] : List Int)] : List (List Int)).getD r6'.toNat []).length) ((([(⟨(some ⟨b0', 0, none⟩), 1, ([0] : List Int)⟩ : Hd), (⟨(some ⟨b1', 0, none⟩), 1, ([2] : List Int)⟩ : Hd), (⟨(some ⟨b2', 0, none⟩), 2, ([0, 2] : List Int)⟩ : Hd), (⟨(some ⟨b3', 0, none⟩), 2, ([2, 1] : List Int)⟩ : Hd)] : List Hd).getD r6'.toNat hd0).c), Str [], Str [], I ak10', .slice Aq10' aq10'.length cq10', Str an10', I apt10']) hs2 5 rfl rfl rfl rfl rfl rfl rfl ag29 trivial (fun w3 hs3 => ?_)
     refine nl (kq ⟨_, hs3, memi 1 rfl, trivial⟩ ?_)
     refine ad (by kernel_rfl) ?_
     exact ⟨b0', b1', b2', b3', r6', q6', b12', Aq10', cq10', ak10', aq10', an10', apt10', q10', b4', ⟨rfl, rfl, rfl, trivial⟩, p1, p2, p3, p4, p5, (hs3.pick [0, 1, 2, 3, 4, 8, 5, 6, 7] rfl (by decide))⟩
   refine dag (fuel' := 2) (listed' := lbits 14 4095) (fun f w' => ∃ (b0' b1' b2' b3' : Nat) (r6' : Int) (q6' : Nat) (Aq10' : Option Addr) (cq10' : Nat) (ak10' : Int) (aq10' : List Int) (an10' : List UInt8) (apt10' : Int) (q10' b4' : Nat), Has f [(0, pb rb), (2, pb b1), (15, .agg #[.slice ((([(⟨(some ⟨b0', 0, none⟩), 1, ([0] : List Int)⟩ : Hd), (⟨(some ⟨b1', 0, none⟩), 1, ([2] : List Int)⟩ : Hd), (⟨(some ⟨b2', 0, none⟩), 2, ([0, 2] : List Int)⟩ : Hd), (⟨(some ⟨b3', 0, none⟩), 2, ([2, 1] : List Int)⟩ : Hd)] : List Hd).getD r6'.toNat hd0).A) ((([([0] : List Int), ([2] : List Int), ([0, 2] : List Int), ([2, 1] : List Int)] : List (List Int)).getD r6'.toNat []).length) ((([(⟨(some ⟨b0', 0, none⟩), 1, ([0] : List Int)⟩ : Hd), (⟨(some ⟨b1', 0, none⟩), 1, ([2] : List Int)⟩ : Hd), (⟨(some ⟨b2', 0, none⟩), 2, ([0, 2] : List Int)⟩ : Hd), (⟨(some ⟨b3', 0, none⟩), 2, ([2, 1] : List Int)⟩ : Hd)] : List Hd).getD r6'.toNat hd0).c), Str [], Str [], I ak10', .slice Aq10' aq10'.length cq10', Str an10', I apt10'])] ∧ (0 ≤ r6' ∧ (r6' < 4 ∨ r6' = 0)) ∧ (q6' ≤ p + 1) ∧ (aq10'.length ≤ 4) ∧ (an10'.length ≤ 21) ∧ (q10' ≤ q6' + 40) ∧ SH w w' [rb] [.blk rb 78 [.slice Ab bs.length cb, I ((q10' : Nat) : Int)], .blk b1 29 [ns, Str [], Str [], I 0, ns, Str [], I 0], oI b0' ([0] : List Int) 1 3, oI b1' ([2] : List Int) 1 3, .own Aq10' aq10'.length cq10' 3 1 (aq10'.map I), oI b2' ([0, 2] : List Int) 2 3, oI b3' ([2, 1] : List Int) 2 3, .own (some ⟨b4', 0, none⟩) (([(⟨(some ⟨b0', 0, none⟩), 1, ([0] : List Int)⟩ : Hd), (⟨(some ⟨b1', 0, none⟩), 1, ([2] : List Int)⟩ : Hd), (⟨(some ⟨b2', 0, none⟩), 2, ([0, 2] : List Int)⟩ : Hd), (⟨(some ⟨b3', 0, none⟩), 2, ([2, 1] : List Int)⟩ : Hd)] : List Hd).length) 4 23 1 (([(⟨(some ⟨b0', 0, none⟩), 1, ([0] : List Int)⟩ : Hd), (⟨(some ⟨b1', 0, none⟩), 1, ([2] : List Int)⟩ : Hd), (⟨(some ⟨b2', 0, none⟩), 2, ([0, 2] : List Int)⟩ : Hd), (⟨(some ⟨b3', 0, none⟩), 2, ([2, 1] : List Int)⟩ : Hd)] : List Hd).map hv)]) ?_ (fun D_1_1 => ?_)
   · rintro f w4 ⟨b0', b1', b2', b3', r6', q6', Aq10', cq10', ak10', aq10', an10', apt10', q10', b4', hf, p6, p7, p8, p9, p10, hs4⟩
     obtain ⟨g2, rfl⟩ := has_upd hf
     clear hf
     refine aaL [12] (fa_one ?_)
     refine one_ rfl ?_
     refine al (v := .agg #[ns, Str [], Str [], I 0, ns, Str [], I 0]) (cs := [ns, Str [], Str [], I 0, ns, Str [], I 0]) hs4 tz29 rfl trivial rfl (fun b12' w5 hs5 => ?_)
     exact nl (kq ⟨_, hs5, memi 1 rfl, trivial⟩ (alc D_1_0 ⟨b0', b1', b2', b3', r6', q6', b12', Aq10', cq10', ak10', aq10', an10', apt10', q10', b4', ⟨rfl, rfl, rfl, rfl, trivial⟩, p6, p7, p8, p9, p10, (hs5.pick [0, 1, 2, 3, 4, 8, 5, 6, 7] rfl (by decide))⟩))
   refine dag (fuel' := 3) (listed' := lbits 14 5119) (fun f w' => ∃ (b0' b1' b2' b3' : Nat) (r6' : Int) (q6' b12' b4' : Nat), Has f [(0, pb rb), (2, pb b1), (3, pb b12'), (12, .slice ((([(⟨(some ⟨b0', 0, none⟩), 1, ([0] : List Int)⟩ : Hd), (⟨(some ⟨b1', 0, none⟩), 1, ([2] : List Int)⟩ : Hd), (⟨(some ⟨b2', 0, none⟩), 2, ([0, 2] : List Int)⟩ : Hd), (⟨(some ⟨b3', 0, none⟩), 2, ([2, 1] : List Int)⟩ : Hd)] : List Hd).getD r6'.toNat hd0).A) ((([([0] : List Int), ([2] : List Int), ([0, 2] : List Int), ([2, 1] : List Int)] : List (List Int)).getD r6'.toNat []).length) ((([(⟨(some ⟨b0', 0, none⟩), 1, ([0] : List Int)⟩ : Hd), (⟨(some ⟨b1', 0, none⟩), 1, ([2] : List Int)⟩ : Hd), (⟨(some ⟨b2', 0, none⟩), 2, ([0, 2] : List Int)⟩ : Hd), (⟨(some ⟨b3', 0, none⟩), 2, ([2, 1] : List Int)⟩ : Hd)] : List Hd).getD r6'.toNat hd0).c)), (13, pb rb)] ∧ (0 ≤ r6' ∧ (r6' < 4 ∨ r6' = 0)) ∧ (q6' ≤ p + 1) ∧ SH w w' [rb] [.blk rb 78 [.slice Ab bs.length cb, I ((q6' : Nat) : Int)], .blk b1 29 [ns, Str [], Str [], I 0, ns, Str [], I 0], oI b0' ([0] : List Int) 1 3, oI b1' ([2] : List Int) 1 3, .blk b12' 29 [ns, Str [], Str [], I 0, ns, Str [], I 0], oI b2' ([0, 2] : List Int) 2 3, oI b3' ([2, 1] : List Int) 2 3, .own (some ⟨b4', 0, none⟩) (([(⟨(some ⟨b0', 0, none⟩), 1, ([0] : List Int)⟩ : Hd), (⟨(some ⟨b1', 0, none⟩), 1, ([2] : List Int)⟩ : Hd), (⟨(some ⟨b2', 0, none⟩), 2, ([0, 2] : List Int)⟩ : Hd), (⟨(some ⟨b3', 0, none⟩), 2, ([2, 1] : List Int)⟩ : Hd)] : List Hd).length) 4 23 1 (([(⟨(some ⟨b0', 0, none⟩), 1, ([0] : List Int)⟩ : Hd), (⟨(some ⟨b1', 0, none⟩), 1, ([2] : List Int)⟩ : Hd), (⟨(some ⟨b2', 0, none⟩), 2, ([0, 2] : List Int)⟩ : Hd), (⟨(some ⟨b3', 0, none⟩), 2, ([2, 1] : List Int)⟩ : Hd)] : List Hd).map hv)]) ?_ (fun D_1_2 => ?_)
   · rintro f w6 ⟨b0', b1', b2', b3', r6', q6', b12', b4', hf, p11, p12, hs6⟩
     obtain ⟨g3, rfl⟩ := has_upd hf
     clear hf
     refine aaL [10] (fa_one ?_)
     refine one_ rfl ?_
     refine cl trivial rfl (l91Address (rb := rb) (Ab := Ab) (cb := cb) (bs := bs) (p := q6') (w := _) (hr := (blk_heap hs6 0 rfl)) (hb := (hb.up hs6 (fun _ h => h) (fun _ h => .inl h))) (hbn := (by first | assumption | (simp; omega))) (hp := (by omega))) ?_
     rintro _ w7 ⟨Aq10', cq10', ak10', aq10', an10', apt10', q10', rfl, p13, p14, p15, hs7'⟩
     have hs7 := hs6.callM 0 rfl hs7' (by intro k hk; simp at hk; exact hk.symm)
     clear hs7'
     refine nl (kq ⟨_, hs7, memi 0 rfl, trivial⟩ ?_)
     refine tk (fuel := 1) (is := [11]) (.cons rfl (.nil)) (by kernel_rfl) (by kernel_rfl) ⟨_, hs7, memi 0 rfl, trivial⟩ ?_
     refine .op trivial rfl rfl (fun wq _ => bdv (v := .agg #[.slice ((([(⟨(some ⟨b0', 0, none⟩), 1, ([0] : List Int)⟩ : Hd), (⟨(some ⟨b1', 0, none⟩), 1, ([2] : List Int)⟩ : Hd), (⟨(some ⟨b2', 0, none⟩), 2, ([0, 2] : List Int)⟩ : Hd), (⟨(some ⟨b3', 0, none⟩), 2, ([2, 1] : List Int)⟩ : Hd)] : List Hd).getD r6'.toNat hd0).A) ((([([0] : List Int), ([2] : List Int), ([0, 2] : List Int), ([2, 1] : List Int)] : List (List Int)).getD r6'.toNat []).length) ((([(⟨(some ⟨b0', 0, none⟩), 1, ([0] : List Int)⟩ : Hd), (⟨(some ⟨b1', 0, none⟩), 1, ([2] : List Int)⟩ : Hd), (⟨(some ⟨b2', 0, none⟩), 2, ([0, 2] : List Int)⟩ : Hd), (⟨(some ⟨b3', 0, none⟩), 2, ([2, 1] : List Int)⟩ : Hd)] : List Hd).getD r6'.toNat hd0).c), Str [], Str [], I ak10', .slice Aq10' aq10'.length cq10', Str an10', I apt10']) [(0, .slice ((([(⟨(some ⟨b0', 0, none⟩), 1, ([0] : List Int)⟩ : Hd), (⟨(some ⟨b1', 0, none⟩), 1, ([2] : List Int)⟩ : Hd), (⟨(some ⟨b2', 0, none⟩), 2, ([0, 2] : List Int)⟩ : Hd), (⟨(some ⟨b3', 0, none⟩), 2, ([2, 1] : List Int)⟩ : Hd)] : List Hd).getD r6'.toNat hd0).A) ((([([0] : List Int), ([2] : List Int), ([0, 2] : List Int), ([2, 1] : List Int)] : List (List Int)).getD r6'.toNat []).length) ((([(⟨(some ⟨b0', 0, none⟩), 1, ([0] : List Int)⟩ : Hd), (⟨(some ⟨b1', 0, none⟩), 1, ([2] : List Int)⟩ : Hd), (⟨(some ⟨b2', 0, none⟩), 2, ([0, 2] : List Int)⟩ : Hd), (⟨(some ⟨b3', 0, none⟩), 2, ([2, 1] : List Int)⟩ : Hd)] : List Hd).getD r6'.toNat hd0).c)), (2, .agg #[I ak10', .slice Aq10' aq10'.length cq10', Str an10', I apt10'])] rfl (fun _ => by kernel_rfl)) ?_
     refine .nil ?_
     exact alc D_1_0 ⟨b0', b1', b2', b3', r6', q6', b12', Aq10', cq10', ak10', aq10', an10', apt10', q10', b4', ⟨rfl, rfl, rfl, rfl, trivial⟩, p11, p12, p13, p14, p15, (hs7.pick [7, 0, 1, 2, 8, 3, 4, 5, 6] rfl (by decide))⟩
   refine dag (fuel' := 3) (listed' := lbits 14 5887) (fun f w' => ∃ (b0' b1' b2' b3' : Nat) (r6' : Int) (q6' b12' : Nat) (Aq10' : Option Addr) (cq10' : Nat) (ak10' : Int) (aq10' : List Int) (an10' : List UInt8) (apt10' : Int) (q10' b4' : Nat), Has f [(0, pb rb), (2, pb b1), (3, pb b12'), (11, .pointer (some ⟨b4', r6'.toNat * 1, none⟩)), (14, .agg #[I ak10', .slice Aq10' aq10'.length cq10', Str an10', I apt10'])] ∧ (0 ≤ r6' ∧ (r6' < 4 ∨ r6' = 0)) ∧ (q6' ≤ p + 1) ∧ (aq10'.length ≤ 4) ∧ (an10'.length ≤ 21) ∧ (q10' ≤ q6' + 40) ∧ SH w w' [rb] [.blk rb 78 [.slice Ab bs.length cb, I ((q10' : Nat) : Int)], .blk b1 29 [ns, Str [], Str [], I 0, ns, Str [], I 0], oI b0' ([0] : List Int) 1 3, oI b1' ([2] : List Int) 1 3, .own Aq10' aq10'.length cq10' 3 1 (aq10'.map I), .blk b12' 29 [ns, Str [], Str [], I 0, ns, Str [], I 0], oI b2' ([0, 2] : List Int) 2 3, oI b3' ([2, 1] : List Int) 2 3, .own (some ⟨b4', 0, none⟩) (([(⟨(some ⟨b0', 0, none⟩), 1, ([0] : List Int)⟩ : Hd), (⟨(some ⟨b1', 0, none⟩), 1, ([2] : List Int)⟩ : Hd), (⟨(some ⟨b2', 0, none⟩), 2, ([0, 2] : List Int)⟩ : Hd), (⟨(some ⟨b3', 0, none⟩), 2, ([2, 1] : List Int)⟩ : Hd)] : List Hd).length) 4 23 1 (([(⟨(some ⟨b0', 0, none⟩), 1, ([0] : List Int)⟩ : Hd), (⟨(some ⟨b1', 0, none⟩), 1, ([2] : List Int)⟩ : Hd), (⟨(some ⟨b2', 0, none⟩), 2, ([0, 2] : List Int)⟩ : Hd), (⟨(some ⟨b3', 0, none⟩), 2, ([2, 1] : List Int)⟩ : Hd)] : List Hd).map hv)]) ?_ (fun D_1_3 => ?_)
   · rintro f w8 ⟨b0', b1', b2', b3', r6', q6', b12', Aq10', cq10', ak10', aq10', an10', apt10', q10', b4', hf, p16, p17, p18, p19, p20, hs8⟩
     obtain ⟨g4, rfl⟩ := has_upd hf
     clear hf
     refine aaL [8] (fa_one ?_)
     refine one_ rfl ?_
     refine q trivial rfl rfl (ldoHd (L := ([([0] : List Int), ([2] : List Int), ([0, 2] : List Int), ([2, 1] : List Int)] : List (List Int))) (ys := ([(⟨(some ⟨b0', 0, none⟩), 1, ([0] : List Int)⟩ : Hd), (⟨(some ⟨b1', 0, none⟩), 1, ([2] : List Int)⟩ : Hd), (⟨(some ⟨b2', 0, none⟩), 2, ([0, 2] : List Int)⟩ : Hd), (⟨(some ⟨b3', 0, none⟩), 2, ([2, 1] : List Int)⟩ : Hd)] : List Hd)) (o := r6'.toNat) rfl hs8 8 rfl rfl (by first | (first | omega | (simp; done) | (simp; omega)) | (have h4 := four_len r6'.toNat; first | omega | (simp; done) | (simp; omega))) one23) ?_
     refine nl (kq ⟨_, hs8, memi 1 rfl, trivial⟩ ?_)
     refine tk (fuel := 1) (is := [11]) (.cons rfl (.nil)) (by kernel_rfl) (by kernel_rfl) ⟨_, hs8, memi 1 rfl, trivial⟩ ?_
     refine .op trivial rfl rfl (fun wq _ => bdv (v := .agg #[.slice ((([(⟨(some ⟨b0', 0, none⟩), 1, ([0] : List Int)⟩ : Hd), (⟨(some ⟨b1', 0, none⟩), 1, ([2] : List Int)⟩ : Hd), (⟨(some ⟨b2', 0, none⟩), 2, ([0, 2] : List Int)⟩ : Hd), (⟨(some ⟨b3', 0, none⟩), 2, ([2, 1] : List Int)⟩ : Hd)] : List Hd).getD r6'.toNat hd0).A) ((([([0] : List Int), ([2] : List Int), ([0, 2] : List Int), ([2, 1] : List Int)] : List (List Int)).getD r6'.toNat []).length) ((([(⟨(some ⟨b0', 0, none⟩), 1, ([0] : List Int)⟩ : Hd), (⟨(some ⟨b1', 0, none⟩), 1, ([2] : List Int)⟩ : Hd), (⟨(some ⟨b2', 0, none⟩), 2, ([0, 2] : List Int)⟩ : Hd), (⟨(some ⟨b3', 0, none⟩), 2, ([2, 1] : List Int)⟩ : Hd)] : List Hd).getD r6'.toNat hd0).c), Str [], Str [], I ak10', .slice Aq10' aq10'.length cq10', Str an10', I apt10']) [(0, .slice ((([(⟨(some ⟨b0', 0, none⟩), 1, ([0] : List Int)⟩ : Hd), (⟨(some ⟨b1', 0, none⟩), 1, ([2] : List Int)⟩ : Hd), (⟨(some ⟨b2', 0, none⟩), 2, ([0, 2] : List Int)⟩ : Hd), (⟨(some ⟨b3', 0, none⟩), 2, ([2, 1] : List Int)⟩ : Hd)] : List Hd).getD r6'.toNat hd0).A) ((([([0] : List Int), ([2] : List Int), ([0, 2] : List Int), ([2, 1] : List Int)] : List (List Int)).getD r6'.toNat []).length) ((([(⟨(some ⟨b0', 0, none⟩), 1, ([0] : List Int)⟩ : Hd), (⟨(some ⟨b1', 0, none⟩), 1, ([2] : List Int)⟩ : Hd), (⟨(some ⟨b2', 0, none⟩), 2, ([0, 2] : List Int)⟩ : Hd), (⟨(some ⟨b3', 0, none⟩), 2, ([2, 1] : List Int)⟩ : Hd)] : List Hd).getD r6'.toNat hd0).c)), (2, .agg #[I ak10', .slice Aq10' aq10'.length cq10', Str an10', I apt10'])] rfl (fun _ => by kernel_rfl)) ?_
     refine .nil ?_
     exact alc D_1_0 ⟨b0', b1', b2', b3', r6', q6', b12', Aq10', cq10', ak10', aq10', an10', apt10', q10', b4', ⟨rfl, rfl, rfl, rfl, trivial⟩, p16, p17, p18, p19, p20, hs8⟩
   refine dag (fuel' := 4) (listed' := lbits 14 1023) (fun f w' => ∃ (b0' b1' b2' b3' : Nat) (r6' : Int) (q6' b4' : Nat), Has f [(0, pb rb), (2, pb b1), (12, .slice ((([(⟨(some ⟨b0', 0, none⟩), 1, ([0] : List Int)⟩ : Hd), (⟨(some ⟨b1', 0, none⟩), 1, ([2] : List Int)⟩ : Hd), (⟨(some ⟨b2', 0, none⟩), 2, ([0, 2] : List Int)⟩ : Hd), (⟨(some ⟨b3', 0, none⟩), 2, ([2, 1] : List Int)⟩ : Hd)] : List Hd).getD r6'.toNat hd0).A) ((([([0] : List Int), ([2] : List Int), ([0, 2] : List Int), ([2, 1] : List Int)] : List (List Int)).getD r6'.toNat []).length) ((([(⟨(some ⟨b0', 0, none⟩), 1, ([0] : List Int)⟩ : Hd), (⟨(some ⟨b1', 0, none⟩), 1, ([2] : List Int)⟩ : Hd), (⟨(some ⟨b2', 0, none⟩), 2, ([0, 2] : List Int)⟩ : Hd), (⟨(some ⟨b3', 0, none⟩), 2, ([2, 1] : List Int)⟩ : Hd)] : List Hd).getD r6'.toNat hd0).c)), (13, pb rb)] ∧ (0 ≤ r6' ∧ (r6' < 4 ∨ r6' = 0)) ∧ (q6' ≤ p + 1) ∧ SH w w' [rb] [.blk rb 78 [.slice Ab bs.length cb, I ((q6' : Nat) : Int)], .blk b1 29 [ns, Str [], Str [], I 0, ns, Str [], I 0], oI b0' ([0] : List Int) 1 3, oI b1' ([2] : List Int) 1 3, oI b2' ([0, 2] : List Int) 2 3, oI b3' ([2, 1] : List Int) 2 3, .own (some ⟨b4', 0, none⟩) (([(⟨(some ⟨b0', 0, none⟩), 1, ([0] : List Int)⟩ : Hd), (⟨(some ⟨b1', 0, none⟩), 1, ([2] : List Int)⟩ : Hd), (⟨(some ⟨b2', 0, none⟩), 2, ([0, 2] : List Int)⟩ : Hd), (⟨(some ⟨b3', 0, none⟩), 2, ([2, 1] : List Int)⟩ : Hd)] : List Hd).length) 4 23 1 (([(⟨(some ⟨b0', 0, none⟩), 1, ([0] : List Int)⟩ : Hd), (⟨(some ⟨b1', 0, none⟩), 1, ([2] : List Int)⟩ : Hd), (⟨(some ⟨b2', 0, none⟩), 2, ([0, 2] : List Int)⟩ : Hd), (⟨(some ⟨b3', 0, none⟩), 2, ([2, 1] : List Int)⟩ : Hd)] : List Hd).map hv)]) ?_ (fun D_1_4 => ?_)
   · rintro f w9 ⟨b0', b1', b2', b3', r6', q6', b4', hf, p21, p22, hs9⟩
     obtain ⟨g5, rfl⟩ := has_upd hf
     clear hf
     refine aaL [10, 12] (fa_cons ?_ (fa_one ?_))
     · refine one_ rfl ?_
       refine cl trivial rfl (l91Address (rb := rb) (Ab := Ab) (cb := cb) (bs := bs) (p := q6') (w := _) (hr := (blk_heap hs9 0 rfl)) (hb := (hb.up hs9 (fun _ h => h) (fun _ h => .inl h))) (hbn := (by first | assumption | (simp; omega))) (hp := (by omega))) ?_
       rintro _ w10 ⟨Aq10', cq10', ak10', aq10', an10', apt10', q10', rfl, p23, p24, p25, hs10'⟩
       have hs10 := hs9.callM 0 rfl hs10' (by intro k hk; simp at hk; exact hk.symm)
       clear hs10'
       refine nl (kq ⟨_, hs10, memi 0 rfl, trivial⟩ ?_)
       refine tk (fuel := 2) (is := [11]) (.cons rfl (.nil)) (by kernel_rfl) (by kernel_rfl) ⟨_, hs10, memi 0 rfl, trivial⟩ ?_
       refine .op trivial rfl rfl (fun wq _ => bdv (v := .agg #[.slice ((([(⟨(some ⟨b0', 0, none⟩), 1, ([0] : List Int)⟩ : Hd), (⟨(some ⟨b1', 0, none⟩), 1, ([2] : List Int)⟩ : Hd), (⟨(some ⟨b2', 0, none⟩), 2, ([0, 2] : List Int)⟩ : Hd), (⟨(some ⟨b3', 0, none⟩), 2, ([2, 1] : List Int)⟩ : Hd)] : List Hd).getD r6'.toNat hd0).A) ((([([0] : List Int), ([2] : List Int), ([0, 2] : List Int), ([2, 1] : List Int)] : List (List Int)).getD r6'.toNat []).length) ((([(⟨(some ⟨b0', 0, none⟩), 1, ([0] : List Int)⟩ : Hd), (⟨(some ⟨b1', 0, none⟩), 1, ([2] : List Int)⟩ : Hd), (⟨(some ⟨b2', 0, none⟩), 2, ([0, 2] : List Int)⟩ : Hd), (⟨(some ⟨b3', 0, none⟩), 2, ([2, 1] : List Int)⟩ : Hd)] : List Hd).getD r6'.toNat hd0).c), Str [], Str [], I ak10', .slice Aq10' aq10'.length cq10', Str an10', I apt10']) [(0, .slice ((([(⟨(some ⟨b0', 0, none⟩), 1, ([0] : List Int)⟩ : Hd), (⟨(some ⟨b1', 0, none⟩), 1, ([2] : List Int)⟩ : Hd), (⟨(some ⟨b2', 0, none⟩), 2, ([0, 2] : List Int)⟩ : Hd), (⟨(some ⟨b3', 0, none⟩), 2, ([2, 1] : List Int)⟩ : Hd)] : List Hd).getD r6'.toNat hd0).A) ((([([0] : List Int), ([2] : List Int), ([0, 2] : List Int), ([2, 1] : List Int)] : List (List Int)).getD r6'.toNat []).length) ((([(⟨(some ⟨b0', 0, none⟩), 1, ([0] : List Int)⟩ : Hd), (⟨(some ⟨b1', 0, none⟩), 1, ([2] : List Int)⟩ : Hd), (⟨(some ⟨b2', 0, none⟩), 2, ([0, 2] : List Int)⟩ : Hd), (⟨(some ⟨b3', 0, none⟩), 2, ([2, 1] : List Int)⟩ : Hd)] : List Hd).getD r6'.toNat hd0).c)), (2, .agg #[I ak10', .slice Aq10' aq10'.length cq10', Str an10', I apt10'])] rfl (fun _ => by kernel_rfl)) ?_
       refine .nil ?_
       exact alc D_1_1 ⟨b0', b1', b2', b3', r6', q6', Aq10', cq10', ak10', aq10', an10', apt10', q10', b4', ⟨rfl, rfl, rfl, trivial⟩, p21, p22, p23, p24, p25, (hs10.pick [6, 0, 1, 2, 7, 3, 4, 5] rfl (by decide))⟩
     · refine one_ rfl ?_
       refine al (v := .agg #[ns, Str [], Str [], I 0, ns, Str [], I 0]) (cs := [ns, Str [], Str [], I 0, ns, Str [], I 0]) hs9 tz29 rfl trivial rfl (fun b12' w11 hs11 => ?_)
       exact nl (kq ⟨_, hs11, memi 1 rfl, trivial⟩ (alc D_1_2 ⟨b0', b1', b2', b3', r6', q6', b12', b4', ⟨rfl, rfl, rfl, rfl, rfl, trivial⟩, p21, p22, (hs11.pick [0, 1, 2, 3, 7, 4, 5, 6] rfl (by decide))⟩))
   refine dag (fuel' := 4) (listed' := lbits 14 1791) (fun f w' => ∃ (b0' b1' b2' b3' : Nat) (r6' : Int) (q6' : Nat) (Aq10' : Option Addr) (cq10' : Nat) (ak10' : Int) (aq10' : List Int) (an10' : List UInt8) (apt10' : Int) (q10' b4' : Nat), Has f [(0, pb rb), (2, pb b1), (11, .pointer (some ⟨b4', r6'.toNat * 1, none⟩)), (14, .agg #[I ak10', .slice Aq10' aq10'.length cq10', Str an10', I apt10'])] ∧ (0 ≤ r6' ∧ (r6' < 4 ∨ r6' = 0)) ∧ (q6' ≤ p + 1) ∧ (aq10'.length ≤ 4) ∧ (an10'.length ≤ 21) ∧ (q10' ≤ q6' + 40) ∧ SH w w' [rb] [.blk rb 78 [.slice Ab bs.length cb, I ((q10' : Nat) : Int)], .blk b1 29 [ns, Str [], Str [], I 0, ns, Str [], I 0], oI b0' ([0] : List Int) 1 3, oI b1' ([2] : List Int) 1 3, .own Aq10' aq10'.length cq10' 3 1 (aq10'.map I), oI b2' ([0, 2] : List Int) 2 3, oI b3' ([2, 1] : List Int) 2 3, .own (some ⟨b4', 0, none⟩) (([(⟨(some ⟨b0', 0, none⟩), 1, ([0] : List Int)⟩ : Hd), (⟨(some ⟨b1', 0, none⟩), 1, ([2] : List Int)⟩ : Hd), (⟨(some ⟨b2', 0, none⟩), 2, ([0, 2] : List Int)⟩ : Hd), (⟨(some ⟨b3', 0, none⟩), 2, ([2, 1] : List Int)⟩ : Hd)] : List Hd).length) 4 23 1 (([(⟨(some ⟨b0', 0, none⟩), 1, ([0] : List Int)⟩ : Hd), (⟨(some ⟨b1', 0, none⟩), 1, ([2] : List Int)⟩ : Hd), (⟨(some ⟨b2', 0, none⟩), 2, ([0, 2] : List Int)⟩ : Hd), (⟨(some ⟨b3', 0, none⟩), 2, ([2, 1] : List Int)⟩ : Hd)] : List Hd).map hv)]) ?_ (fun D_1_5 => ?_)
   · rintro f w12 ⟨b0', b1', b2', b3', r6', q6', Aq10', cq10', ak10', aq10', an10', apt10', q10', b4', hf, p26, p27, p28, p29, p30, hs12⟩
     obtain ⟨g6, rfl⟩ := has_upd hf
     clear hf
     refine aaL [8, 12] (fa_cons ?_ (fa_one ?_))
     · refine one_ rfl ?_
       refine q trivial rfl rfl (ldoHd (L := ([([0] : List Int), ([2] : List Int), ([0, 2] : List Int), ([2, 1] : List Int)] : List (List Int))) (ys := ([(⟨(some ⟨b0', 0, none⟩), 1, ([0] : List Int)⟩ : Hd), (⟨(some ⟨b1', 0, none⟩), 1, ([2] : List Int)⟩ : Hd), (⟨(some ⟨b2', 0, none⟩), 2, ([0, 2] : List Int)⟩ : Hd), (⟨(some ⟨b3', 0, none⟩), 2, ([2, 1] : List Int)⟩ : Hd)] : List Hd)) (o := r6'.toNat) rfl hs12 7 rfl rfl (by first | (first | omega | (simp; done) | (simp; omega)) | (have h4 := four_len r6'.toNat; first | omega | (simp; done) | (simp; omega))) one23) ?_
       refine nl (kq ⟨_, hs12, memi 1 rfl, trivial⟩ ?_)
       refine tk (fuel := 2) (is := [11]) (.cons rfl (.nil)) (by kernel_rfl) (by kernel_rfl) ⟨_, hs12, memi 1 rfl, trivial⟩ ?_
       refine .op trivial rfl rfl (fun wq _ => bdv (v := .agg #[.slice ((([(⟨(some ⟨b0', 0, none⟩), 1, ([0] : List Int)⟩ : Hd), (⟨(some ⟨b1', 0, none⟩), 1, ([2] : List Int)⟩ : Hd), (⟨(some ⟨b2', 0, none⟩), 2, ([0, 2] : List Int)⟩ : Hd), (⟨(some ⟨b3', 0, none⟩), 2, ([2, 1] : List Int)⟩ : Hd)] : List Hd).getD r6'.toNat hd0).A) ((([([0] : List Int), ([2] : List Int), ([0, 2] : List Int), ([2, 1] : List Int)] : List (List Int)).getD r6'.toNat []).length) ((([(⟨(some ⟨b0', 0, none⟩), 1, ([0] : List Int)⟩ : Hd), (⟨(some ⟨b1', 0, none⟩), 1, ([2] : List Int)⟩ : Hd), (⟨(some ⟨b2', 0, none⟩), 2, ([0, 2] : List Int)⟩ : Hd), (⟨(some ⟨b3', 0, none⟩), 2, ([2, 1] : List Int)⟩ : Hd)] : List Hd).getD r6'.toNat hd0).c), Str [], Str [], I ak10', .slice Aq10' aq10'.length cq10', Str an10', I apt10']) [(0, .slice ((([(⟨(some ⟨b0', 0, none⟩), 1, ([0] : List Int)⟩ : Hd), (⟨(some ⟨b1', 0, none⟩), 1, ([2] : List Int)⟩ : Hd), (⟨(some ⟨b2', 0, none⟩), 2, ([0, 2] : List Int)⟩ : Hd), (⟨(some ⟨b3', 0, none⟩), 2, ([2, 1] : List Int)⟩ : Hd)] : List Hd).getD r6'.toNat hd0).A) ((([([0] : List Int), ([2] : List Int), ([0, 2] : List Int), ([2, 1] : List Int)] : List (List Int)).getD r6'.toNat []).length) ((([(⟨(some ⟨b0', 0, none⟩), 1, ([0] : List Int)⟩ : Hd), (⟨(some ⟨b1', 0, none⟩), 1, ([2] : List Int)⟩ : Hd), (⟨(some ⟨b2', 0, none⟩), 2, ([0, 2] : List Int)⟩ : Hd), (⟨(some ⟨b3', 0, none⟩), 2, ([2, 1] : List Int)⟩ : Hd)] : List Hd).getD r6'.toNat hd0).c)), (2, .agg #[I ak10', .slice Aq10' aq10'.length cq10', Str an10', I apt10'])] rfl (fun _ => by kernel_rfl)) ?_
       refine .nil ?_
       exact alc D_1_1 ⟨b0', b1', b2', b3', r6', q6', Aq10', cq10', ak10', aq10', an10', apt10', q10', b4', ⟨rfl, rfl, rfl, trivial⟩, p26, p27, p28, p29, p30, hs12⟩
     · refine one_ rfl ?_
       refine al (v := .agg #[ns, Str [], Str [], I 0, ns, Str [], I 0]) (cs := [ns, Str [], Str [], I 0, ns, Str [], I 0]) hs12 tz29 rfl trivial rfl (fun b12' w13 hs13 => ?_)
       exact nl (kq ⟨_, hs13, memi 1 rfl, trivial⟩ (alc D_1_3 ⟨b0', b1', b2', b3', r6', q6', b12', Aq10', cq10', ak10', aq10', an10', apt10', q10', b4', ⟨rfl, rfl, rfl, rfl, rfl, trivial⟩, p26, p27, p28, p29, p30, (hs13.pick [0, 1, 2, 3, 4, 8, 5, 6, 7] rfl (by decide))⟩))
   refine dag (fuel' := 4) (listed' := lbits 14 4863) (fun f w' => ∃ (b0' b1' b2' b3' : Nat) (r6' : Int) (q6' b12' b4' : Nat), Has f [(0, pb rb), (2, pb b1), (3, pb b12'), (11, .pointer (some ⟨b4', r6'.toNat * 1, none⟩)), (13, pb rb)] ∧ (0 ≤ r6' ∧ (r6' < 4 ∨ r6' = 0)) ∧ (q6' ≤ p + 1) ∧ SH w w' [rb] [.blk rb 78 [.slice Ab bs.length cb, I ((q6' : Nat) : Int)], .blk b1 29 [ns, Str [], Str [], I 0, ns, Str [], I 0], oI b0' ([0] : List Int) 1 3, oI b1' ([2] : List Int) 1 3, .blk b12' 29 [ns, Str [], Str [], I 0, ns, Str [], I 0], oI b2' ([0, 2] : List Int) 2 3, oI b3' ([2, 1] : List Int) 2 3, .own (some ⟨b4', 0, none⟩) (([(⟨(some ⟨b0', 0, none⟩), 1, ([0] : List Int)⟩ : Hd), (⟨(some ⟨b1', 0, none⟩), 1, ([2] : List Int)⟩ : Hd), (⟨(some ⟨b2', 0, none⟩), 2, ([0, 2] : List Int)⟩ : Hd), (⟨(some ⟨b3', 0, none⟩), 2, ([2, 1] : List Int)⟩ : Hd)] : List Hd).length) 4 23 1 (([(⟨(some ⟨b0', 0, none⟩), 1, ([0] : List Int)⟩ : Hd), (⟨(some ⟨b1', 0, none⟩), 1, ([2] : List Int)⟩ : Hd), (⟨(some ⟨b2', 0, none⟩), 2, ([0, 2] : List Int)⟩ : Hd), (⟨(some ⟨b3', 0, none⟩), 2, ([2, 1] : List Int)⟩ : Hd)] : List Hd).map hv)]) ?_ (fun D_1_6 => ?_)
   · rintro f w14 ⟨b0', b1', b2', b3', r6', q6', b12', b4', hf, p31, p32, hs14⟩
     obtain ⟨g7, rfl⟩ := has_upd hf
     clear hf
     refine aaL [8, 10] (fa_cons ?_ (fa_one ?_))
     · refine one_ rfl ?_
       refine q trivial rfl rfl (ldoHd (L := ([([0] : List Int), ([2] : List Int), ([0, 2] : List Int), ([2, 1] : List Int)] : List (List Int))) (ys := ([(⟨(some ⟨b0', 0, none⟩), 1, ([0] : List Int)⟩ : Hd), (⟨(some ⟨b1', 0, none⟩), 1, ([2] : List Int)⟩ : Hd), (⟨(some ⟨b2', 0, none⟩), 2, ([0, 2] : List Int)⟩ : Hd), (⟨(some ⟨b3', 0, none⟩), 2, ([2, 1] : List Int)⟩ : Hd)] : List Hd)) (o := r6'.toNat) rfl hs14 7 rfl rfl (by first | (first | omega | (simp; done) | (simp; omega)) | (have h4 := four_len r6'.toNat; first | omega | (simp; done) | (simp; omega))) one23) ?_
       exact nl (kq ⟨_, hs14, memi 1 rfl, trivial⟩ (alc D_1_2 ⟨b0', b1', b2', b3', r6', q6', b12', b4', ⟨rfl, rfl, rfl, rfl, rfl, trivial⟩, p31, p32, hs14⟩))
     · refine one_ rfl ?_
       refine cl trivial rfl (l91Address (rb := rb) (Ab := Ab) (cb := cb) (bs := bs) (p := q6') (w := _) (hr := (blk_heap hs14 0 rfl)) (hb := (hb.up hs14 (fun _ h => h) (fun _ h => .inl h))) (hbn := (by first | assumption | (simp; omega))) (hp := (by omega))) ?_
       rintro _ w15 ⟨Aq10', cq10', ak10', aq10', an10', apt10', q10', rfl, p33, p34, p35, hs15'⟩
       have hs15 := hs14.callM 0 rfl hs15' (by intro k hk; simp at hk; exact hk.symm)
       clear hs15'
       exact nl (kq ⟨_, hs15, memi 0 rfl, trivial⟩ (alc D_1_3 ⟨b0', b1', b2', b3', r6', q6', b12', Aq10', cq10', ak10', aq10', an10', apt10', q10', b4', ⟨rfl, rfl, rfl, rfl, rfl, trivial⟩, p31, p32, p33, p34, p35, (hs15.pick [7, 0, 1, 2, 8, 3, 4, 5, 6] rfl (by decide))⟩))
   refine dag (fuel' := 5) (listed' := lbits 14 767) (fun f w' => ∃ (b0' b1' b2' b3' : Nat) (r6' : Int) (q6' b4' : Nat), Has f [(0, pb rb), (2, pb b1), (11, .pointer (some ⟨b4', r6'.toNat * 1, none⟩)), (13, pb rb)] ∧ (0 ≤ r6' ∧ (r6' < 4 ∨ r6' = 0)) ∧ (q6' ≤ p + 1) ∧ SH w w' [rb] [.blk rb 78 [.slice Ab bs.length cb, I ((q6' : Nat) : Int)], .blk b1 29 [ns, Str [], Str [], I 0, ns, Str [], I 0], oI b0' ([0] : List Int) 1 3, oI b1' ([2] : List Int) 1 3, oI b2' ([0, 2] : List Int) 2 3, oI b3' ([2, 1] : List Int) 2 3, .own (some ⟨b4', 0, none⟩) (([(⟨(some ⟨b0', 0, none⟩), 1, ([0] : List Int)⟩ : Hd), (⟨(some ⟨b1', 0, none⟩), 1, ([2] : List Int)⟩ : Hd), (⟨(some ⟨b2', 0, none⟩), 2, ([0, 2] : List Int)⟩ : Hd), (⟨(some ⟨b3', 0, none⟩), 2, ([2, 1] : List Int)⟩ : Hd)] : List Hd).length) 4 23 1 (([(⟨(some ⟨b0', 0, none⟩), 1, ([0] : List Int)⟩ : Hd), (⟨(some ⟨b1', 0, none⟩), 1, ([2] : List Int)⟩ : Hd), (⟨(some ⟨b2', 0, none⟩), 2, ([0, 2] : List Int)⟩ : Hd), (⟨(some ⟨b3', 0, none⟩), 2, ([2, 1] : List Int)⟩ : Hd)] : List Hd).map hv)]) ?_ (fun D_1_7 => ?_)
   · rintro f w16 ⟨b0', b1', b2', b3', r6', q6', b4', hf, p36, p37, hs16⟩
     obtain ⟨g8, rfl⟩ := has_upd hf
     clear hf
     refine aaL [8, 10, 12] (fa_cons ?_ (fa_cons ?_ (fa_one ?_)))
     · refine one_ rfl ?_
       refine q trivial rfl rfl (ldoHd (L := ([([0] : List Int), ([2] : List Int), ([0, 2] : List Int), ([2, 1] : List Int)] : List (List Int))) (ys := ([(⟨(some ⟨b0', 0, none⟩), 1, ([0] : List Int)⟩ : Hd), (⟨(some ⟨b1', 0, none⟩), 1, ([2] : List Int)⟩ : Hd), (⟨(some ⟨b2', 0, none⟩), 2, ([0, 2] : List Int)⟩ : Hd), (⟨(some ⟨b3', 0, none⟩), 2, ([2, 1] : List Int)⟩ : Hd)] : List Hd)) (o := r6'.toNat) rfl hs16 6 rfl rfl (by first | (first | omega | (simp; done) | (simp; omega)) | (have h4 := four_len r6'.toNat; first | omega | (simp; done) | (simp; omega))) one23) ?_
       exact nl (kq ⟨_, hs16, memi 1 rfl, trivial⟩ (alc D_1_4 ⟨b0', b1', b2', b3', r6', q6', b4', ⟨rfl, rfl, rfl, rfl, trivial⟩, p36, p37, hs16⟩))
     · refine one_ rfl ?_
       refine cl trivial rfl (l91Address (rb := rb) (Ab := Ab) (cb := cb) (bs := bs) (p := q6') (w := _) (hr := (blk_heap hs16 0 rfl)) (hb := (hb.up hs16 (fun _ h => h) (fun _ h => .inl h))) (hbn := (by first | assumption | (simp; omega))) (hp := (by omega))) ?_
       rintro _ w17 ⟨Aq10', cq10', ak10', aq10', an10', apt10', q10', rfl, p38, p39, p40, hs17'⟩
       have hs17 := hs16.callM 0 rfl hs17' (by intro k hk; simp at hk; exact hk.symm)
       clear hs17'
       exact nl (kq ⟨_, hs17, memi 0 rfl, trivial⟩ (alc D_1_5 ⟨b0', b1', b2', b3', r6', q6', Aq10', cq10', ak10', aq10', an10', apt10', q10', b4', ⟨rfl, rfl, rfl, rfl, trivial⟩, p36, p37, p38, p39, p40, (hs17.pick [6, 0, 1, 2, 7, 3, 4, 5] rfl (by decide))⟩))
     · refine one_ rfl ?_
       refine al (v := .agg #[ns, Str [], Str [], I 0, ns, Str [], I 0]) (cs := [ns, Str [], Str [], I 0, ns, Str [], I 0]) hs16 tz29 rfl trivial rfl (fun b12' w18 hs18 => ?_)
       exact nl (kq ⟨_, hs18, memi 1 rfl, trivial⟩ (alc D_1_6 ⟨b0', b1', b2', b3', r6', q6', b12', b4', ⟨rfl, rfl, rfl, rfl, rfl, trivial⟩, p36, p37, (hs18.pick [0, 1, 2, 3, 7, 4, 5, 6] rfl (by decide))⟩))
   refine dag (fuel' := 5) (listed' := lbits 14 5743) (fun f w' => ∃ (b0' b1' b2' b3' : Nat) (r6' : Int) (q6' b12' : Nat) (Aq10' : Option Addr) (cq10' : Nat) (ak10' : Int) (aq10' : List Int) (an10' : List UInt8) (apt10' : Int) (q10' : Nat), Has f [(0, pb rb), (2, pb b1), (3, pb b12'), (4, sb b0' (([0] : List Int).length) 1), (5, sb b1' (([2] : List Int).length) 1), (6, sb b2' (([0, 2] : List Int).length) 2), (7, sb b3' (([2, 1] : List Int).length) 2), (10, I r6'), (14, .agg #[I ak10', .slice Aq10' aq10'.length cq10', Str an10', I apt10'])] ∧ (0 ≤ r6' ∧ (r6' < 4 ∨ r6' = 0)) ∧ (q6' ≤ p + 1) ∧ (aq10'.length ≤ 4) ∧ (an10'.length ≤ 21) ∧ (q10' ≤ q6' + 40) ∧ SH w w' [rb] [.blk rb 78 [.slice Ab bs.length cb, I ((q10' : Nat) : Int)], .blk b1 29 [ns, Str [], Str [], I 0, ns, Str [], I 0], oI b0' ([0] : List Int) 1 3, oI b1' ([2] : List Int) 1 3, .own Aq10' aq10'.length cq10' 3 1 (aq10'.map I), .blk b12' 29 [ns, Str [], Str [], I 0, ns, Str [], I 0], oI b2' ([0, 2] : List Int) 2 3, oI b3' ([2, 1] : List Int) 2 3]) ?_ (fun D_1_8 => ?_)
   · rintro f w19 ⟨b0', b1', b2', b3', r6', q6', b12', Aq10', cq10', ak10', aq10', an10', apt10', q10', hf, p41, p42, p43, p44, p45, hs19⟩
     obtain ⟨g9, rfl⟩ := has_upd hf
     clear hf
     refine aaL [4] (fa_one ?_)
     refine one_ rfl ?_
     refine bsk hs19 sl74 [sb b0' (([0] : List Int).length) 1, sb b1' (([2] : List Int).length) 1, sb b2' (([0, 2] : List Int).length) 2, sb b3' (([2, 1] : List Int).length) 2] [sb b0' (([0] : List Int).length) 1, sb b1' (([2] : List Int).length) 1, sb b2' (([0, 2] : List Int).length) 2, sb b3' (([2, 1] : List Int).length) 2] trivial rfl (fun b4' w20 hs20 => ?_)
     refine nl (kq ⟨_, hs20, memi 1 rfl, trivial⟩ ?_)
     refine tk (fuel := 3) (is := [7]) (.cons rfl (.nil)) (by kernel_rfl) (by kernel_rfl) ⟨_, hs20, memi 1 rfl, trivial⟩ ?_
     refine .op trivial rfl rfl (fun wq _ => ixo r6'.toNat sl74 rfl (ieq (x := r6') (by first | (omega) | (have h4 := four_len r6'.toNat; omega))) (by first | (first | omega | (simp; done) | (simp; omega)) | (have h4 := four_len r6'.toNat; first | omega | (simp; done) | (simp; omega)))) ?_
     refine .nil ?_
     exact alc D_1_3 ⟨b0', b1', b2', b3', r6', q6', b12', Aq10', cq10', ak10', aq10', an10', apt10', q10', b4', ⟨rfl, rfl, rfl, rfl, rfl, trivial⟩, p41, p42, p43, p44, p45, hs20⟩
   refine dag (fuel' := 6) (listed' := lbits 14 4671) (fun f w' => ∃ (b0' b1' b2' b3' b12' b4' : Nat), Has f [(0, pb rb), (2, pb b1), (3, pb b12'), (8, sb b4' (([(⟨(some ⟨b0', 0, none⟩), 1, ([0] : List Int)⟩ : Hd), (⟨(some ⟨b1', 0, none⟩), 1, ([2] : List Int)⟩ : Hd), (⟨(some ⟨b2', 0, none⟩), 2, ([0, 2] : List Int)⟩ : Hd), (⟨(some ⟨b3', 0, none⟩), 2, ([2, 1] : List Int)⟩ : Hd)] : List Hd).length) 4), (9, pb rb), (13, pb rb)] ∧ SH w w' [rb] [.blk rb 78 [.slice Ab bs.length cb, I ((p : Nat) : Int)], .blk b1 29 [ns, Str [], Str [], I 0, ns, Str [], I 0], oI b0' ([0] : List Int) 1 3, oI b1' ([2] : List Int) 1 3, .blk b12' 29 [ns, Str [], Str [], I 0, ns, Str [], I 0], oI b2' ([0, 2] : List Int) 2 3, oI b3' ([2, 1] : List Int) 2 3, .own (some ⟨b4', 0, none⟩) (([(⟨(some ⟨b0', 0, none⟩), 1, ([0] : List Int)⟩ : Hd), (⟨(some ⟨b1', 0, none⟩), 1, ([2] : List Int)⟩ : Hd), (⟨(some ⟨b2', 0, none⟩), 2, ([0, 2] : List Int)⟩ : Hd), (⟨(some ⟨b3', 0, none⟩), 2, ([2, 1] : List Int)⟩ : Hd)] : List Hd).length) 4 23 1 (([(⟨(some ⟨b0', 0, none⟩), 1, ([0] : List Int)⟩ : Hd), (⟨(some ⟨b1', 0, none⟩), 1, ([2] : List Int)⟩ : Hd), (⟨(some ⟨b2', 0, none⟩), 2, ([0, 2] : List Int)⟩ : Hd), (⟨(some ⟨b3', 0, none⟩), 2, ([2, 1] : List Int)⟩ : Hd)] : List Hd).map hv)]) ?_ (fun D_1_9 => ?_)
   · rintro f w21 ⟨b0', b1', b2', b3', b12', b4', hf, hs21⟩
     obtain ⟨g10, rfl⟩ := has_upd hf
     clear hf
     refine aaL [6] (fa_one ?_)
     refine one_ rfl ?_
     refine cl trivial rfl (pick (rb := rb) (Ab := Ab) (cb := cb) (bs := bs) (p := p) (n := 4) (w := _) (hr := (blk_heap hs21 0 rfl)) (hb := (hb.up hs21 (fun _ h => h) (fun _ h => .inl h))) (hbn := (by first | assumption | (simp; omega))) (hp := (by omega))) ?_
     rintro _ w22 ⟨r6', q6', rfl, p46, p47, hs22'⟩
     have hs22 := hs21.callM 0 rfl hs22' (by intro k hk; simp at hk; exact hk.symm)
     clear hs22'
     refine nl (kq ⟨_, hs22, memi 0 rfl, trivial⟩ ?_)
     refine tk (fuel := 4) (is := [7]) (.cons rfl (.nil)) (by kernel_rfl) (by kernel_rfl) ⟨_, hs22, memi 0 rfl, trivial⟩ ?_
     refine .op trivial rfl rfl (fun wq _ => ixo r6'.toNat sl74 rfl (ieq (x := r6') (by first | (omega) | (have h4 := four_len r6'.toNat; omega))) (by first | (first | omega | (simp; done) | (simp; omega)) | (have h4 := four_len r6'.toNat; first | omega | (simp; done) | (simp; omega)))) ?_
     refine .nil ?_
     exact alc D_1_6 ⟨b0', b1', b2', b3', r6', q6', b12', b4', ⟨rfl, rfl, rfl, rfl, rfl, trivial⟩, p46, p47, (hs22.pick [7, 0, 1, 2, 3, 4, 5, 6] rfl (by decide))⟩
   refine dag (fuel' := 6) (listed' := lbits 14 1647) (fun f w' => ∃ (b0' b1' b2' b3' : Nat) (r6' : Int) (q6' : Nat) (Aq10' : Option Addr) (cq10' : Nat) (ak10' : Int) (aq10' : List Int) (an10' : List UInt8) (apt10' : Int) (q10' : Nat), Has f [(0, pb rb), (2, pb b1), (4, sb b0' (([0] : List Int).length) 1), (5, sb b1' (([2] : List Int).length) 1), (6, sb b2' (([0, 2] : List Int).length) 2), (7, sb b3' (([2, 1] : List Int).length) 2), (10, I r6'), (14, .agg #[I ak10', .slice Aq10' aq10'.length cq10', Str an10', I apt10'])] ∧ (0 ≤ r6' ∧ (r6' < 4 ∨ r6' = 0)) ∧ (q6' ≤ p + 1) ∧ (aq10'.length ≤ 4) ∧ (an10'.length ≤ 21) ∧ (q10' ≤ q6' + 40) ∧ SH w w' [rb] [.blk rb 78 [.slice Ab bs.length cb, I ((q10' : Nat) : Int)], .blk b1 29 [ns, Str [], Str [], I 0, ns, Str [], I 0], oI b0' ([0] : List Int) 1 3, oI b1' ([2] : List Int) 1 3, .own Aq10' aq10'.length cq10' 3 1 (aq10'.map I), oI b2' ([0, 2] : List Int) 2 3, oI b3' ([2, 1] : List Int) 2 3]) ?_ (fun D_1_10 => ?_)
   · rintro f w23 ⟨b0', b1', b2', b3', r6', q6', Aq10', cq10', ak10', aq10', an10', apt10', q10', hf, p48, p49, p50, p51, p52, hs23⟩
     obtain ⟨g11, rfl⟩ := has_upd hf
     clear hf
     refine aaL [4, 12] (fa_cons ?_ (fa_one ?_))
     · refine one_ rfl ?_
       refine bsk hs23 sl74 [sb b0' (([0] : List Int).length) 1, sb b1' (([2] : List Int).length) 1, sb b2' (([0, 2] : List Int).length) 2, sb b3' (([2, 1] : List Int).length) 2] [sb b0' (([0] : List Int).length) 1, sb b1' (([2] : List Int).length) 1, sb b2' (([0, 2] : List Int).length) 2, sb b3' (([2, 1] : List Int).length) 2] trivial rfl (fun b4' w24 hs24 => ?_)
       refine nl (kq ⟨_, hs24, memi 1 rfl, trivial⟩ ?_)
       refine tk (fuel := 4) (is := [7]) (.cons rfl (.nil)) (by kernel_rfl) (by kernel_rfl) ⟨_, hs24, memi 1 rfl, trivial⟩ ?_
       refine .op trivial rfl rfl (fun wq _ => ixo r6'.toNat sl74 rfl (ieq (x := r6') (by first | (omega) | (have h4 := four_len r6'.toNat; omega))) (by first | (first | omega | (simp; done) | (simp; omega)) | (have h4 := four_len r6'.toNat; first | omega | (simp; done) | (simp; omega)))) ?_
       refine .nil ?_
       exact alc D_1_5 ⟨b0', b1', b2', b3', r6', q6', Aq10', cq10', ak10', aq10', an10', apt10', q10', b4', ⟨rfl, rfl, rfl, rfl, trivial⟩, p48, p49, p50, p51, p52, hs24⟩
     · refine one_ rfl ?_
       refine al (v := .agg #[ns, Str [], Str [], I 0, ns, Str [], I 0]) (cs := [ns, Str [], Str [], I 0, ns, Str [], I 0]) hs23 tz29 rfl trivial rfl (fun b12' w25 hs25 => ?_)
       exact nl (kq ⟨_, hs25, memi 1 rfl, trivial⟩ (alc D_1_8 ⟨b0', b1', b2', b3', r6', q6', b12', Aq10', cq10', ak10', aq10', an10', apt10', q10', ⟨rfl, rfl, rfl, rfl, rfl, rfl, rfl, rfl, rfl, trivial⟩, p48, p49, p50, p51, p52, (hs25.pick [0, 1, 2, 3, 4, 7, 5, 6] rfl (by decide))⟩))
   refine dag (fuel' := 6) (listed' := lbits 14 4719) (fun f w' => ∃ (b0' b1' b2' b3' : Nat) (r6' : Int) (q6' b12' : Nat), Has f [(0, pb rb), (2, pb b1), (3, pb b12'), (4, sb b0' (([0] : List Int).length) 1), (5, sb b1' (([2] : List Int).length) 1), (6, sb b2' (([0, 2] : List Int).length) 2), (7, sb b3' (([2, 1] : List Int).length) 2), (10, I r6'), (13, pb rb)] ∧ (0 ≤ r6' ∧ (r6' < 4 ∨ r6' = 0)) ∧ (q6' ≤ p + 1) ∧ SH w w' [rb] [.blk rb 78 [.slice Ab bs.length cb, I ((q6' : Nat) : Int)], .blk b1 29 [ns, Str [], Str [], I 0, ns, Str [], I 0], oI b0' ([0] : List Int) 1 3, oI b1' ([2] : List Int) 1 3, .blk b12' 29 [ns, Str [], Str [], I 0, ns, Str [], I 0], oI b2' ([0, 2] : List Int) 2 3, oI b3' ([2, 1] : List Int) 2 3]) ?_ (fun D_1_11 => ?_)
   · rintro f w26 ⟨b0', b1', b2', b3', r6', q6', b12', hf, p53, p54, hs26⟩
     obtain ⟨g12, rfl⟩ := has_upd hf
     clear hf
     refine aaL [4, 10] (fa_cons ?_ (fa_one ?_))
     · refine one_ rfl ?_
       refine bsk hs26 sl74 [sb b0' (([0] : List Int).length) 1, sb b1' (([2] : List Int).length) 1, sb b2' (([0, 2] : List Int).length) 2, sb b3' (([2, 1] : List Int).length) 2] [sb b0' (([0] : List Int).length) 1, sb b1' (([2] : List Int).length) 1, sb b2' (([0, 2] : List Int).length) 2, sb b3' (([2, 1] : List Int).length) 2] trivial rfl (fun b4' w27 hs27 => ?_)
       refine nl (kq ⟨_, hs27, memi 1 rfl, trivial⟩ ?_)
       refine tk (fuel := 4) (is := [7]) (.cons rfl (.nil)) (by kernel_rfl) (by kernel_rfl) ⟨_, hs27, memi 1 rfl, trivial⟩ ?_
       refine .op trivial rfl rfl (fun wq _ => ixo r6'.toNat sl74 rfl (ieq (x := r6') (by first | (omega) | (have h4 := four_len r6'.toNat; omega))) (by first | (first | omega | (simp; done) | (simp; omega)) | (have h4 := four_len r6'.toNat; first | omega | (simp; done) | (simp; omega)))) ?_
       refine .nil ?_
       exact alc D_1_6 ⟨b0', b1', b2', b3', r6', q6', b12', b4', ⟨rfl, rfl, rfl, rfl, rfl, trivial⟩, p53, p54, hs27⟩
     · refine one_ rfl ?_
       refine cl trivial rfl (l91Address (rb := rb) (Ab := Ab) (cb := cb) (bs := bs) (p := q6') (w := _) (hr := (blk_heap hs26 0 rfl)) (hb := (hb.up hs26 (fun _ h => h) (fun _ h => .inl h))) (hbn := (by first | assumption | (simp; omega))) (hp := (by omega))) ?_
       rintro _ w28 ⟨Aq10', cq10', ak10', aq10', an10', apt10', q10', rfl, p55, p56, p57, hs28'⟩
       have hs28 := hs26.callM 0 rfl hs28' (by intro k hk; simp at hk; exact hk.symm)
       clear hs28'
       exact nl (kq ⟨_, hs28, memi 0 rfl, trivial⟩ (alc D_1_8 ⟨b0', b1', b2', b3', r6', q6', b12', Aq10', cq10', ak10', aq10', an10', apt10', q10', ⟨rfl, rfl, rfl, rfl, rfl, rfl, rfl, rfl, rfl, trivial⟩, p53, p54, p55, p56, p57, (hs28.pick [6, 0, 1, 2, 7, 3, 4, 5] rfl (by decide))⟩))
   refine dag (fuel' := 6) (listed' := lbits 14 5735) (fun f w' => ∃ (b0' b1' b2' : Nat) (r6' : Int) (q6' b12' : Nat) (Aq10' : Option Addr) (cq10' : Nat) (ak10' : Int) (aq10' : List Int) (an10' : List UInt8) (apt10' : Int) (q10' : Nat), Has f [(0, pb rb), (2, pb b1), (3, pb b12'), (4, sb b0' (([0] : List Int).length) 1), (5, sb b1' (([2] : List Int).length) 1), (6, sb b2' (([0, 2] : List Int).length) 2), (10, I r6'), (14, .agg #[I ak10', .slice Aq10' aq10'.length cq10', Str an10', I apt10'])] ∧ (0 ≤ r6' ∧ (r6' < 4 ∨ r6' = 0)) ∧ (q6' ≤ p + 1) ∧ (aq10'.length ≤ 4) ∧ (an10'.length ≤ 21) ∧ (q10' ≤ q6' + 40) ∧ SH w w' [rb] [.blk rb 78 [.slice Ab bs.length cb, I ((q10' : Nat) : Int)], .blk b1 29 [ns, Str [], Str [], I 0, ns, Str [], I 0], oI b0' ([0] : List Int) 1 3, oI b1' ([2] : List Int) 1 3, .own Aq10' aq10'.length cq10' 3 1 (aq10'.map I), .blk b12' 29 [ns, Str [], Str [], I 0, ns, Str [], I 0], oI b2' ([0, 2] : List Int) 2 3]) ?_ (fun D_1_12 => ?_)
   · rintro f w29 ⟨b0', b1', b2', r6', q6', b12', Aq10', cq10', ak10', aq10', an10', apt10', q10', hf, p58, p59, p60, p61, p62, hs29⟩
     obtain ⟨g13, rfl⟩ := has_upd hf
     clear hf
     refine aaL [3] (fa_one ?_)
     refine one_ rfl ?_
     refine bsk hs29 sl23 [I 2, I 1] [I 2, I 1] trivial rfl (fun b3' w30 hs30 => ?_)
     exact nl (kq ⟨_, hs30, memi 1 rfl, trivial⟩ (alc D_1_8 ⟨b0', b1', b2', b3', r6', q6', b12', Aq10', cq10', ak10', aq10', an10', apt10', q10', ⟨rfl, rfl, rfl, rfl, rfl, rfl, rfl, rfl, rfl, trivial⟩, p58, p59, p60, p61, p62, hs30⟩))
   refine dag (fuel' := 6) (listed' := lbits 14 5739) (fun f w' => ∃ (b0' b1' b3' : Nat) (r6' : Int) (q6' b12' : Nat) (Aq10' : Option Addr) (cq10' : Nat) (ak10' : Int) (aq10' : List Int) (an10' : List UInt8) (apt10' : Int) (q10' : Nat), Has f [(0, pb rb), (2, pb b1), (3, pb b12'), (4, sb b0' (([0] : List Int).length) 1), (5, sb b1' (([2] : List Int).length) 1), (7, sb b3' (([2, 1] : List Int).length) 2), (10, I r6'), (14, .agg #[I ak10', .slice Aq10' aq10'.length cq10', Str an10', I apt10'])] ∧ (0 ≤ r6' ∧ (r6' < 4 ∨ r6' = 0)) ∧ (q6' ≤ p + 1) ∧ (aq10'.length ≤ 4) ∧ (an10'.length ≤ 21) ∧ (q10' ≤ q6' + 40) ∧ SH w w' [rb] [.blk rb 78 [.slice Ab bs.length cb, I ((q10' : Nat) : Int)], .blk b1 29 [ns, Str [], Str [], I 0, ns, Str [], I 0], oI b0' ([0] : List Int) 1 3, oI b1' ([2] : List Int) 1 3, .own Aq10' aq10'.length cq10' 3 1 (aq10'.map I), .blk b12' 29 [ns, Str [], Str [], I 0, ns, Str [], I 0], oI b3' ([2, 1] : List Int) 2 3]) ?_ (fun D_1_13 => ?_)
   · rintro f w31 ⟨b0', b1', b3', r6', q6', b12', Aq10', cq10', ak10', aq10', an10', apt10', q10', hf, p63, p64, p65, p66, p67, hs31⟩
     obtain ⟨g14, rfl⟩ := has_upd hf
     clear hf
     refine aaL [2] (fa_one ?_)
     refine one_ rfl ?_
     refine bsk hs31 sl23 [I 0, I 2] [I 0, I 2] trivial rfl (fun b2' w32 hs32 => ?_)
     exact nl (kq ⟨_, hs32, memi 1 rfl, trivial⟩ (alc D_1_8 ⟨b0', b1', b2', b3', r6', q6', b12', Aq10', cq10', ak10', aq10', an10', apt10', q10', ⟨rfl, rfl, rfl, rfl, rfl, rfl, rfl, rfl, rfl, trivial⟩, p63, p64, p65, p66, p67, (hs32.pick [0, 1, 2, 3, 4, 5, 7, 6] rfl (by decide))⟩))
   refine dag (fuel' := 6) (listed' := lbits 14 5741) (fun f w' => ∃ (b0' b2' b3' : Nat) (r6' : Int) (q6' b12' : Nat) (Aq10' : Option Addr) (cq10' : Nat) (ak10' : Int) (aq10' : List Int) (an10' : List UInt8) (apt10' : Int) (q10' : Nat), Has f [(0, pb rb), (2, pb b1), (3, pb b12'), (4, sb b0' (([0] : List Int).length) 1), (6, sb b2' (([0, 2] : List Int).length) 2), (7, sb b3' (([2, 1] : List Int).length) 2), (10, I r6'), (14, .agg #[I ak10', .slice Aq10' aq10'.length cq10', Str an10', I apt10'])] ∧ (0 ≤ r6' ∧ (r6' < 4 ∨ r6' = 0)) ∧ (q6' ≤ p + 1) ∧ (aq10'.length ≤ 4) ∧ (an10'.length ≤ 21) ∧ (q10' ≤ q6' + 40) ∧ SH w w' [rb] [.blk rb 78 [.slice Ab bs.length cb, I ((q10' : Nat) : Int)], .blk b1 29 [ns, Str [], Str [], I 0, ns, Str [], I 0], oI b0' ([0] : List Int) 1 3, .own Aq10' aq10'.length cq10' 3 1 (aq10'.map I), .blk b12' 29 [ns, Str [], Str [], I 0, ns, Str [], I 0], oI b2' ([0, 2] : List Int) 2 3, oI b3' ([2, 1] : List Int) 2 3]) ?_ (fun D_1_14 => ?_)
   · rintro f w33 ⟨b0', b2', b3', r6', q6', b12', Aq10', cq10', ak10', aq10', an10', apt10', q10', hf, p68, p69, p70, p71, p72, hs33⟩
     obtain ⟨g15, rfl⟩ := has_upd hf
     clear hf
     refine aaL [1] (fa_one ?_)
     refine one_ rfl ?_
     refine bsk hs33 sl23 [I 2] [I 2] trivial rfl (fun b1' w34 hs34 => ?_)
     exact nl (kq ⟨_, hs34, memi 1 rfl, trivial⟩ (alc D_1_8 ⟨b0', b1', b2', b3', r6', q6', b12', Aq10', cq10', ak10', aq10', an10', apt10', q10', ⟨rfl, rfl, rfl, rfl, rfl, rfl, rfl, rfl, rfl, trivial⟩, p68, p69, p70, p71, p72, (hs34.pick [0, 1, 2, 7, 3, 4, 5, 6] rfl (by decide))⟩))
   refine dag (fuel' := 6) (listed' := lbits 14 5742) (fun f w' => ∃ (b1' b2' b3' : Nat) (r6' : Int) (q6' b12' : Nat) (Aq10' : Option Addr) (cq10' : Nat) (ak10' : Int) (aq10' : List Int) (an10' : List UInt8) (apt10' : Int) (q10' : Nat), Has f [(0, pb rb), (2, pb b1), (3, pb b12'), (5, sb b1' (([2] : List Int).length) 1), (6, sb b2' (([0, 2] : List Int).length) 2), (7, sb b3' (([2, 1] : List Int).length) 2), (10, I r6'), (14, .agg #[I ak10', .slice Aq10' aq10'.length cq10', Str an10', I apt10'])] ∧ (0 ≤ r6' ∧ (r6' < 4 ∨ r6' = 0)) ∧ (q6' ≤ p + 1) ∧ (aq10'.length ≤ 4) ∧ (an10'.length ≤ 21) ∧ (q10' ≤ q6' + 40) ∧ SH w w' [rb] [.blk rb 78 [.slice Ab bs.length cb, I ((q10' : Nat) : Int)], .blk b1 29 [ns, Str [], Str [], I 0, ns, Str [], I 0], oI b1' ([2] : List Int) 1 3, .own Aq10' aq10'.length cq10' 3 1 (aq10'.map I), .blk b12' 29 [ns, Str [], Str [], I 0, ns, Str [], I 0], oI b2' ([0, 2] : List Int) 2 3, oI b3' ([2, 1] : List Int) 2 3]) ?_ (fun D_1_15 => ?_)
   · rintro f w35 ⟨b1', b2', b3', r6', q6', b12', Aq10', cq10', ak10', aq10', an10', apt10', q10', hf, p73, p74, p75, p76, p77, hs35⟩
     obtain ⟨g16, rfl⟩ := has_upd hf
     clear hf
     refine aaL [0] (fa_one ?_)
     refine one_ rfl ?_
     refine bsk hs35 sl23 [I 0] [I 0] trivial rfl (fun b0' w36 hs36 => ?_)
     exact nl (kq ⟨_, hs36, memi 1 rfl, trivial⟩ (alc D_1_8 ⟨b0', b1', b2', b3', r6', q6', b12', Aq10', cq10', ak10', aq10', an10', apt10', q10', ⟨rfl, rfl, rfl, rfl, rfl, rfl, rfl, rfl, rfl, trivial⟩, p73, p74, p75, p76, p77, (hs36.pick [0, 1, 7, 2, 3, 4, 5, 6] rfl (by decide))⟩))
   refine dag (fuel' := 7) (listed' := lbits 14 575) (fun f w' => ∃ (b0' b1' b2' b3' b4' : Nat), Has f [(0, pb rb), (2, pb b1), (8, sb b4' (([(⟨(some ⟨b0', 0, none⟩), 1, ([0] : List Int)⟩ : Hd), (⟨(some ⟨b1', 0, none⟩), 1, ([2] : List Int)⟩ : Hd), (⟨(some ⟨b2', 0, none⟩), 2, ([0, 2] : List Int)⟩ : Hd), (⟨(some ⟨b3', 0, none⟩), 2, ([2, 1] : List Int)⟩ : Hd)] : List Hd).length) 4), (9, pb rb), (13, pb rb)] ∧ SH w w' [rb] [.blk rb 78 [.slice Ab bs.length cb, I ((p : Nat) : Int)], .blk b1 29 [ns, Str [], Str [], I 0, ns, Str [], I 0], oI b0' ([0] : List Int) 1 3, oI b1' ([2] : List Int) 1 3, oI b2' ([0, 2] : List Int) 2 3, oI b3' ([2, 1] : List Int) 2 3, .own (some ⟨b4', 0, none⟩) (([(⟨(some ⟨b0', 0, none⟩), 1, ([0] : List Int)⟩ : Hd), (⟨(some ⟨b1', 0, none⟩), 1, ([2] : List Int)⟩ : Hd), (⟨(some ⟨b2', 0, none⟩), 2, ([0, 2] : List Int)⟩ : Hd), (⟨(some ⟨b3', 0, none⟩), 2, ([2, 1] : List Int)⟩ : Hd)] : List Hd).length) 4 23 1 (([(⟨(some ⟨b0', 0, none⟩), 1, ([0] : List Int)⟩ : Hd), (⟨(some ⟨b1', 0, none⟩), 1, ([2] : List Int)⟩ : Hd), (⟨(some ⟨b2', 0, none⟩), 2, ([0, 2] : List Int)⟩ : Hd), (⟨(some ⟨b3', 0, none⟩), 2, ([2, 1] : List Int)⟩ : Hd)] : List Hd).map hv)]) ?_ (fun D_1_16 => ?_)
   · rintro f w37 ⟨b0', b1', b2', b3', b4', hf, hs37⟩
     obtain ⟨g17, rfl⟩ := has_upd hf
     clear hf
     refine aaL [6, 12] (fa_cons ?_ (fa_one ?_))
     · refine one_ rfl ?_
       refine cl trivial rfl (pick (rb := rb) (Ab := Ab) (cb := cb) (bs := bs) (p := p) (n := 4) (w := _) (hr := (blk_heap hs37 0 rfl)) (hb := (hb.up hs37 (fun _ h => h) (fun _ h => .inl h))) (hbn := (by first | assumption | (simp; omega))) (hp := (by omega))) ?_
       rintro _ w38 ⟨r6', q6', rfl, p78, p79, hs38'⟩
       have hs38 := hs37.callM 0 rfl hs38' (by intro k hk; simp at hk; exact hk.symm)
       clear hs38'
       refine nl (kq ⟨_, hs38, memi 0 rfl, trivial⟩ ?_)
       refine tk (fuel := 5) (is := [7]) (.cons rfl (.nil)) (by kernel_rfl) (by kernel_rfl) ⟨_, hs38, memi 0 rfl, trivial⟩ ?_
       refine .op trivial rfl rfl (fun wq _ => ixo r6'.toNat sl74 rfl (ieq (x := r6') (by first | (omega) | (have h4 := four_len r6'.toNat; omega))) (by first | (first | omega | (simp; done) | (simp; omega)) | (have h4 := four_len r6'.toNat; first | omega | (simp; done) | (simp; omega)))) ?_
       refine .nil ?_
       exact alc D_1_7 ⟨b0', b1', b2', b3', r6', q6', b4', ⟨rfl, rfl, rfl, rfl, trivial⟩, p78, p79, (hs38.pick [6, 0, 1, 2, 3, 4, 5] rfl (by decide))⟩
     · refine one_ rfl ?_
       refine al (v := .agg #[ns, Str [], Str [], I 0, ns, Str [], I 0]) (cs := [ns, Str [], Str [], I 0, ns, Str [], I 0]) hs37 tz29 rfl trivial rfl (fun b12' w39 hs39 => ?_)
       exact nl (kq ⟨_, hs39, memi 1 rfl, trivial⟩ (alc D_1_9 ⟨b0', b1', b2', b3', b12', b4', ⟨rfl, rfl, rfl, rfl, rfl, rfl, trivial⟩, (hs39.pick [0, 1, 2, 3, 7, 4, 5, 6] rfl (by decide))⟩))
   refine dag (fuel' := 7) (listed' := lbits 14 623) (fun f w' => ∃ (b0' b1' b2' b3' : Nat) (r6' : Int) (q6' : Nat), Has f [(0, pb rb), (2, pb b1), (4, sb b0' (([0] : List Int).length) 1), (5, sb b1' (([2] : List Int).length) 1), (6, sb b2' (([0, 2] : List Int).length) 2), (7, sb b3' (([2, 1] : List Int).length) 2), (10, I r6'), (13, pb rb)] ∧ (0 ≤ r6' ∧ (r6' < 4 ∨ r6' = 0)) ∧ (q6' ≤ p + 1) ∧ SH w w' [rb] [.blk rb 78 [.slice Ab bs.length cb, I ((q6' : Nat) : Int)], .blk b1 29 [ns, Str [], Str [], I 0, ns, Str [], I 0], oI b0' ([0] : List Int) 1 3, oI b1' ([2] : List Int) 1 3, oI b2' ([0, 2] : List Int) 2 3, oI b3' ([2, 1] : List Int) 2 3]) ?_ (fun D_1_17 => ?_)
   · rintro f w40 ⟨b0', b1', b2', b3', r6', q6', hf, p80, p81, hs40⟩
     obtain ⟨g18, rfl⟩ := has_upd hf
     clear hf
     refine aaL [4, 10, 12] (fa_cons ?_ (fa_cons ?_ (fa_one ?_)))
     · refine one_ rfl ?_
       refine bsk hs40 sl74 [sb b0' (([0] : List Int).length) 1, sb b1' (([2] : List Int).length) 1, sb b2' (([0, 2] : List Int).length) 2, sb b3' (([2, 1] : List Int).length) 2] [sb b0' (([0] : List Int).length) 1, sb b1' (([2] : List Int).length) 1, sb b2' (([0, 2] : List Int).length) 2, sb b3' (([2, 1] : List Int).length) 2] trivial rfl (fun b4' w41 hs41 => ?_)
       refine nl (kq ⟨_, hs41, memi 1 rfl, trivial⟩ ?_)
       refine tk (fuel := 5) (is := [7]) (.cons rfl (.nil)) (by kernel_rfl) (by kernel_rfl) ⟨_, hs41, memi 1 rfl, trivial⟩ ?_
       refine .op trivial rfl rfl (fun wq _ => ixo r6'.toNat sl74 rfl (ieq (x := r6') (by first | (omega) | (have h4 := four_len r6'.toNat; omega))) (by first | (first | omega | (simp; done) | (simp; omega)) | (have h4 := four_len r6'.toNat; first | omega | (simp; done) | (simp; omega)))) ?_
       refine .nil ?_
       exact alc D_1_7 ⟨b0', b1', b2', b3', r6', q6', b4', ⟨rfl, rfl, rfl, rfl, trivial⟩, p80, p81, hs41⟩
     · refine one_ rfl ?_
       refine cl trivial rfl (l91Address (rb := rb) (Ab := Ab) (cb := cb) (bs := bs) (p := q6') (w := _) (hr := (blk_heap hs40 0 rfl)) (hb := (hb.up hs40 (fun _ h => h) (fun _ h => .inl h))) (hbn := (by first | assumption | (simp; omega))) (hp := (by omega))) ?_
       rintro _ w42 ⟨Aq10', cq10', ak10', aq10', an10', apt10', q10', rfl, p82, p83, p84, hs42'⟩
       have hs42 := hs40.callM 0 rfl hs42' (by intro k hk; simp at hk; exact hk.symm)
       clear hs42'
       exact nl (kq ⟨_, hs42, memi 0 rfl, trivial⟩ (alc D_1_10 ⟨b0', b1', b2', b3', r6', q6', Aq10', cq10', ak10', aq10', an10', apt10', q10', ⟨rfl, rfl, rfl, rfl, rfl, rfl, rfl, rfl, trivial⟩, p80, p81, p82, p83, p84, (hs42.pick [5, 0, 1, 2, 6, 3, 4] rfl (by decide))⟩))
     · refine one_ rfl ?_
       refine al (v := .agg #[ns, Str [], Str [], I 0, ns, Str [], I 0]) (cs := [ns, Str [], Str [], I 0, ns, Str [], I 0]) hs40 tz29 rfl trivial rfl (fun b12' w43 hs43 => ?_)
       exact nl (kq ⟨_, hs43, memi 1 rfl, trivial⟩ (alc D_1_11 ⟨b0', b1', b2', b3', r6', q6', b12', ⟨rfl, rfl, rfl, rfl, rfl, rfl, rfl, rfl, rfl, trivial⟩, p80, p81, (hs43.pick [0, 1, 2, 3, 6, 4, 5] rfl (by decide))⟩))
   refine dag (fuel' := 7) (listed' := lbits 14 4655) (fun f w' => ∃ (b0' b1' b2' b3' b12' : Nat), Has f [(0, pb rb), (2, pb b1), (3, pb b12'), (4, sb b0' (([0] : List Int).length) 1), (5, sb b1' (([2] : List Int).length) 1), (6, sb b2' (([0, 2] : List Int).length) 2), (7, sb b3' (([2, 1] : List Int).length) 2), (9, pb rb), (13, pb rb)] ∧ SH w w' [rb] [.blk rb 78 [.slice Ab bs.length cb, I ((p : Nat) : Int)], .blk b1 29 [ns, Str [], Str [], I 0, ns, Str [], I 0], oI b0' ([0] : List Int) 1 3, oI b1' ([2] : List Int) 1 3, .blk b12' 29 [ns, Str [], Str [], I 0, ns, Str [], I 0], oI b2' ([0, 2] : List Int) 2 3, oI b3' ([2, 1] : List Int) 2 3]) ?_ (fun D_1_18 => ?_)
   · rintro f w44 ⟨b0', b1', b2', b3', b12', hf, hs44⟩
     obtain ⟨g19, rfl⟩ := has_upd hf
     clear hf
     refine aaL [4, 6] (fa_cons ?_ (fa_one ?_))
     · refine one_ rfl ?_
       refine bsk hs44 sl74 [sb b0' (([0] : List Int).length) 1, sb b1' (([2] : List Int).length) 1, sb b2' (([0, 2] : List Int).length) 2, sb b3' (([2, 1] : List Int).length) 2] [sb b0' (([0] : List Int).length) 1, sb b1' (([2] : List Int).length) 1, sb b2' (([0, 2] : List Int).length) 2, sb b3' (([2, 1] : List Int).length) 2] trivial rfl (fun b4' w45 hs45 => ?_)
       exact nl (kq ⟨_, hs45, memi 1 rfl, trivial⟩ (alc D_1_9 ⟨b0', b1', b2', b3', b12', b4', ⟨rfl, rfl, rfl, rfl, rfl, rfl, trivial⟩, hs45⟩))
     · refine one_ rfl ?_
       refine cl trivial rfl (pick (rb := rb) (Ab := Ab) (cb := cb) (bs := bs) (p := p) (n := 4) (w := _) (hr := (blk_heap hs44 0 rfl)) (hb := (hb.up hs44 (fun _ h => h) (fun _ h => .inl h))) (hbn := (by first | assumption | (simp; omega))) (hp := (by omega))) ?_
       rintro _ w46 ⟨r6', q6', rfl, p85, p86, hs46'⟩
       have hs46 := hs44.callM 0 rfl hs46' (by intro k hk; simp at hk; exact hk.symm)
       clear hs46'
       exact nl (kq ⟨_, hs46, memi 0 rfl, trivial⟩ (alc D_1_11 ⟨b0', b1', b2', b3', r6', q6', b12', ⟨rfl, rfl, rfl, rfl, rfl, rfl, rfl, rfl, rfl, trivial⟩, p85, p86, (hs46.pick [6, 0, 1, 2, 3, 4, 5] rfl (by decide))⟩))
   refine dag (fuel' := 7) (listed' := lbits 14 1639) (fun f w' => ∃ (b0' b1' b2' : Nat) (r6' : Int) (q6' : Nat) (Aq10' : Option Addr) (cq10' : Nat) (ak10' : Int) (aq10' : List Int) (an10' : List UInt8) (apt10' : Int) (q10' : Nat), Has f [(0, pb rb), (2, pb b1), (4, sb b0' (([0] : List Int).length) 1), (5, sb b1' (([2] : List Int).length) 1), (6, sb b2' (([0, 2] : List Int).length) 2), (10, I r6'), (14, .agg #[I ak10', .slice Aq10' aq10'.length cq10', Str an10', I apt10'])] ∧ (0 ≤ r6' ∧ (r6' < 4 ∨ r6' = 0)) ∧ (q6' ≤ p + 1) ∧ (aq10'.length ≤ 4) ∧ (an10'.length ≤ 21) ∧ (q10' ≤ q6' + 40) ∧ SH w w' [rb] [.blk rb 78 [.slice Ab bs.length cb, I ((q10' : Nat) : Int)], .blk b1 29 [ns, Str [], Str [], I 0, ns, Str [], I 0], oI b0' ([0] : List Int) 1 3, oI b1' ([2] : List Int) 1 3, .own Aq10' aq10'.length cq10' 3 1 (aq10'.map I), oI b2' ([0, 2] : List Int) 2 3]) ?_ (fun D_1_19 => ?_)
   · rintro f w47 ⟨b0', b1', b2', r6', q6', Aq10', cq10', ak10', aq10', an10', apt10', q10', hf, p87, p88, p89, p90, p91, hs47⟩
     obtain ⟨g20, rfl⟩ := has_upd hf
     clear hf
     refine aaL [3, 12] (fa_cons ?_ (fa_one ?_))
     · refine one_ rfl ?_
       refine bsk hs47 sl23 [I 2, I 1] [I 2, I 1] trivial rfl (fun b3' w48 hs48 => ?_)
       exact nl (kq ⟨_, hs48, memi 1 rfl, trivial⟩ (alc D_1_10 ⟨b0', b1', b2', b3', r6', q6', Aq10', cq10', ak10', aq10', an10', apt10', q10', ⟨rfl, rfl, rfl, rfl, rfl, rfl, rfl, rfl, trivial⟩, p87, p88, p89, p90, p91, hs48⟩))
     · refine one_ rfl ?_
       refine al (v := .agg #[ns, Str [], Str [], I 0, ns, Str [], I 0]) (cs := [ns, Str [], Str [], I 0, ns, Str [], I 0]) hs47 tz29 rfl trivial rfl (fun b12' w49 hs49 => ?_)
       exact nl (kq ⟨_, hs49, memi 1 rfl, trivial⟩ (alc D_1_12 ⟨b0', b1', b2', r6', q6', b12', Aq10', cq10', ak10', aq10', an10', apt10', q10', ⟨rfl, rfl, rfl, rfl, rfl, rfl, rfl, rfl, trivial⟩, p87, p88, p89, p90, p91, (hs49.pick [0, 1, 2, 3, 4, 6, 5] rfl (by decide))⟩))
   refine dag (fuel' := 7) (listed' := lbits 14 4711) (fun f w' => ∃ (b0' b1' b2' : Nat) (r6' : Int) (q6' b12' : Nat), Has f [(0, pb rb), (2, pb b1), (3, pb b12'), (4, sb b0' (([0] : List Int).length) 1), (5, sb b1' (([2] : List Int).length) 1), (6, sb b2' (([0, 2] : List Int).length) 2), (10, I r6'), (13, pb rb)] ∧ (0 ≤ r6' ∧ (r6' < 4 ∨ r6' = 0)) ∧ (q6' ≤ p + 1) ∧ SH w w' [rb] [.blk rb 78 [.slice Ab bs.length cb, I ((q6' : Nat) : Int)], .blk b1 29 [ns, Str [], Str [], I 0, ns, Str [], I 0], oI b0' ([0] : List Int) 1 3, oI b1' ([2] : List Int) 1 3, .blk b12' 29 [ns, Str [], Str [], I 0, ns, Str [], I 0], oI b2' ([0, 2] : List Int) 2 3]) ?_ (fun D_1_20 => ?_)
   · rintro f w50 ⟨b0', b1', b2', r6', q6', b12', hf, p92, p93, hs50⟩
     obtain ⟨g21, rfl⟩ := has_upd hf
     clear hf
     refine aaL [3, 10] (fa_cons ?_ (fa_one ?_))
     · refine one_ rfl ?_
       refine bsk hs50 sl23 [I 2, I 1] [I 2, I 1] trivial rfl (fun b3' w51 hs51 => ?_)
       exact nl (kq ⟨_, hs51, memi 1 rfl, trivial⟩ (alc D_1_11 ⟨b0', b1', b2', b3', r6', q6', b12', ⟨rfl, rfl, rfl, rfl, rfl, rfl, rfl, rfl, rfl, trivial⟩, p92, p93, hs51⟩))
     · refine one_ rfl ?_
       refine cl trivial rfl (l91Address (rb := rb) (Ab := Ab) (cb := cb) (bs := bs) (p := q6') (w := _) (hr := (blk_heap hs50 0 rfl)) (hb := (hb.up hs50 (fun _ h => h) (fun _ h => .inl h))) (hbn := (by first | assumption | (simp; omega))) (hp := (by omega))) ?_
       rintro _ w52 ⟨Aq10', cq10', ak10', aq10', an10', apt10', q10', rfl, p94, p95, p96, hs52'⟩
       have hs52 := hs50.callM 0 rfl hs52' (by intro k hk; simp at hk; exact hk.symm)
       clear hs52'
       exact nl (kq ⟨_, hs52, memi 0 rfl, trivial⟩ (alc D_1_12 ⟨b0', b1', b2', r6', q6', b12', Aq10', cq10', ak10', aq10', an10', apt10', q10', ⟨rfl, rfl, rfl, rfl, rfl, rfl, rfl, rfl, trivial⟩, p92, p93, p94, p95, p96, (hs52.pick [5, 0, 1, 2, 6, 3, 4] rfl (by decide))⟩))
   refine dag (fuel' := 7) (listed' := lbits 14 1643) (fun f w' => ∃ (b0' b1' b3' : Nat) (r6' : Int) (q6' : Nat) (Aq10' : Option Addr) (cq10' : Nat) (ak10' : Int) (aq10' : List Int) (an10' : List UInt8) (apt10' : Int) (q10' : Nat), Has f [(0, pb rb), (2, pb b1), (4, sb b0' (([0] : List Int).length) 1), (5, sb b1' (([2] : List Int).length) 1), (7, sb b3' (([2, 1] : List Int).length) 2), (10, I r6'), (14, .agg #[I ak10', .slice Aq10' aq10'.length cq10', Str an10', I apt10'])] ∧ (0 ≤ r6' ∧ (r6' < 4 ∨ r6' = 0)) ∧ (q6' ≤ p + 1) ∧ (aq10'.length ≤ 4) ∧ (an10'.length ≤ 21) ∧ (q10' ≤ q6' + 40) ∧ SH w w' [rb] [.blk rb 78 [.slice Ab bs.length cb, I ((q10' : Nat) : Int)], .blk b1 29 [ns, Str [], Str [], I 0, ns, Str [], I 0], oI b0' ([0] : List Int) 1 3, oI b1' ([2] : List Int) 1 3, .own Aq10' aq10'.length cq10' 3 1 (aq10'.map I), oI b3' ([2, 1] : List Int) 2 3]) ?_ (fun D_1_21 => ?_)
   · rintro f w53 ⟨b0', b1', b3', r6', q6', Aq10', cq10', ak10', aq10', an10', apt10', q10', hf, p97, p98, p99, p100, p101, hs53⟩
     obtain ⟨g22, rfl⟩ := has_upd hf
     clear hf
     refine aaL [2, 12] (fa_cons ?_ (fa_one ?_))
     · refine one_ rfl ?_
       refine bsk hs53 sl23 [I 0, I 2] [I 0, I 2] trivial rfl (fun b2' w54 hs54 => ?_)
       exact nl (kq ⟨_, hs54, memi 1 rfl, trivial⟩ (alc D_1_10 ⟨b0', b1', b2', b3', r6', q6', Aq10', cq10', ak10', aq10', an10', apt10', q10', ⟨rfl, rfl, rfl, rfl, rfl, rfl, rfl, rfl, trivial⟩, p97, p98, p99, p100, p101, (hs54.pick [0, 1, 2, 3, 4, 6, 5] rfl (by decide))⟩))
     · refine one_ rfl ?_
       refine al (v := .agg #[ns, Str [], Str [], I 0, ns, Str [], I 0]) (cs := [ns, Str [], Str [], I 0, ns, Str [], I 0]) hs53 tz29 rfl trivial rfl (fun b12' w55 hs55 => ?_)
       exact nl (kq ⟨_, hs55, memi 1 rfl, trivial⟩ (alc D_1_13 ⟨b0', b1', b3', r6', q6', b12', Aq10', cq10', ak10', aq10', an10', apt10', q10', ⟨rfl, rfl, rfl, rfl, rfl, rfl, rfl, rfl, trivial⟩, p97, p98, p99, p100, p101, (hs55.pick [0, 1, 2, 3, 4, 6, 5] rfl (by decide))⟩))
   refine dag (fuel' := 7) (listed' := lbits 14 4715) (fun f w' => ∃ (b0' b1' b3' : Nat) (r6' : Int) (q6' b12' : Nat), Has f [(0, pb rb), (2, pb b1), (3, pb b12'), (4, sb b0' (([0] : List Int).length) 1), (5, sb b1' (([2] : List Int).length) 1), (7, sb b3' (([2, 1] : List Int).length) 2), (10, I r6'), (13, pb rb)] ∧ (0 ≤ r6' ∧ (r6' < 4 ∨ r6' = 0)) ∧ (q6' ≤ p + 1) ∧ SH w w' [rb] [.blk rb 78 [.slice Ab bs.length cb, I ((q6' : Nat) : Int)], .blk b1 29 [ns, Str [], Str [], I 0, ns, Str [], I 0], oI b0' ([0] : List Int) 1 3, oI b1' ([2] : List Int) 1 3, .blk b12' 29 [ns, Str [], Str [], I 0, ns, Str [], I 0], oI b3' ([2, 1] : List Int) 2 3]) ?_ (fun D_1_22 => ?_)
   · rintro f w56 ⟨b0', b1', b3', r6', q6', b12', hf, p102, p103, hs56⟩
     obtain ⟨g23, rfl⟩ := has_upd hf
     clear hf
     refine aaL [2, 10] (fa_cons ?_ (fa_one ?_))
     · refine one_ rfl ?_
       refine bsk hs56 sl23 [I 0, I 2] [I 0, I 2] trivial rfl (fun b2' w57 hs57 => ?_)
       exact nl (kq ⟨_, hs57, memi 1 rfl, trivial⟩ (alc D_1_11 ⟨b0', b1', b2', b3', r6', q6', b12', ⟨rfl, rfl, rfl, rfl, rfl, rfl, rfl, rfl, rfl, trivial⟩, p102, p103, (hs57.pick [0, 1, 2, 3, 4, 6, 5] rfl (by decide))⟩))
     · refine one_ rfl ?_
       refine cl trivial rfl (l91Address (rb := rb) (Ab := Ab) (cb := cb) (bs := bs) (p := q6') (w := _) (hr := (blk_heap hs56 0 rfl)) (hb := (hb.up hs56 (fun _ h => h) (fun _ h => .inl h))) (hbn := (by first | assumption | (simp; omega))) (hp := (by omega))) ?_
       rintro _ w58 ⟨Aq10', cq10', ak10', aq10', an10', apt10', q10', rfl, p104, p105, p106, hs58'⟩
       have hs58 := hs56.callM 0 rfl hs58' (by intro k hk; simp at hk; exact hk.symm)
       clear hs58'
       exact nl (kq ⟨_, hs58, memi 0 rfl, trivial⟩ (alc D_1_13 ⟨b0', b1', b3', r6', q6', b12', Aq10', cq10', ak10', aq10', an10', apt10', q10', ⟨rfl, rfl, rfl, rfl, rfl, rfl, rfl, rfl, trivial⟩, p102, p103, p104, p105, p106, (hs58.pick [5, 0, 1, 2, 6, 3, 4] rfl (by decide))⟩))
   refine dag (fuel' := 7) (listed' := lbits 14 5731) (fun f w' => ∃ (b0' b1' : Nat) (r6' : Int) (q6' b12' : Nat) (Aq10' : Option Addr) (cq10' : Nat) (ak10' : Int) (aq10' : List Int) (an10' : List UInt8) (apt10' : Int) (q10' : Nat), Has f [(0, pb rb), (2, pb b1), (3, pb b12'), (4, sb b0' (([0] : List Int).length) 1), (5, sb b1' (([2] : List Int).length) 1), (10, I r6'), (14, .agg #[I ak10', .slice Aq10' aq10'.length cq10', Str an10', I apt10'])] ∧ (0 ≤ r6' ∧ (r6' < 4 ∨ r6' = 0)) ∧ (q6' ≤ p + 1) ∧ (aq10'.length ≤ 4) ∧ (an10'.length ≤ 21) ∧ (q10' ≤ q6' + 40) ∧ SH w w' [rb] [.blk rb 78 [.slice Ab bs.length cb, I ((q10' : Nat) : Int)], .blk b1 29 [ns, Str [], Str [], I 0, ns, Str [], I 0], oI b0' ([0] : List Int) 1 3, oI b1' ([2] : List Int) 1 3, .own Aq10' aq10'.length cq10' 3 1 (aq10'.map I), .blk b12' 29 [ns, Str [], Str [], I 0, ns, Str [], I 0]]) ?_ (fun D_1_23 => ?_)
   · rintro f w59 ⟨b0', b1', r6', q6', b12', Aq10', cq10', ak10', aq10', an10', apt10', q10', hf, p107, p108, p109, p110, p111, hs59⟩
     obtain ⟨g24, rfl⟩ := has_upd hf
     clear hf
     refine aaL [2, 3] (fa_cons ?_ (fa_one ?_))
     · refine one_ rfl ?_
       refine bsk hs59 sl23 [I 0, I 2] [I 0, I 2] trivial rfl (fun b2' w60 hs60 => ?_)
       exact nl (kq ⟨_, hs60, memi 1 rfl, trivial⟩ (alc D_1_12 ⟨b0', b1', b2', r6', q6', b12', Aq10', cq10', ak10', aq10', an10', apt10', q10', ⟨rfl, rfl, rfl, rfl, rfl, rfl, rfl, rfl, trivial⟩, p107, p108, p109, p110, p111, hs60⟩))
     · refine one_ rfl ?_
       refine bsk hs59 sl23 [I 2, I 1] [I 2, I 1] trivial rfl (fun b3' w61 hs61 => ?_)
       exact nl (kq ⟨_, hs61, memi 1 rfl, trivial⟩ (alc D_1_13 ⟨b0', b1', b3', r6', q6', b12', Aq10', cq10', ak10', aq10', an10', apt10', q10', ⟨rfl, rfl, rfl, rfl, rfl, rfl, rfl, rfl, trivial⟩, p107, p108, p109, p110, p111, hs61⟩))
   refine dag (fuel' := 7) (listed' := lbits 14 1645) (fun f w' => ∃ (b0' b2' b3' : Nat) (r6' : Int) (q6' : Nat) (Aq10' : Option Addr) (cq10' : Nat) (ak10' : Int) (aq10' : List Int) (an10' : List UInt8) (apt10' : Int) (q10' : Nat), Has f [(0, pb rb), (2, pb b1), (4, sb b0' (([0] : List Int).length) 1), (6, sb b2' (([0, 2] : List Int).length) 2), (7, sb b3' (([2, 1] : List Int).length) 2), (10, I r6'), (14, .agg #[I ak10', .slice Aq10' aq10'.length cq10', Str an10', I apt10'])] ∧ (0 ≤ r6' ∧ (r6' < 4 ∨ r6' = 0)) ∧ (q6' ≤ p + 1) ∧ (aq10'.length ≤ 4) ∧ (an10'.length ≤ 21) ∧ (q10' ≤ q6' + 40) ∧ SH w w' [rb] [.blk rb 78 [.slice Ab bs.length cb, I ((q10' : Nat) : Int)], .blk b1 29 [ns, Str [], Str [], I 0, ns, Str [], I 0], oI b0' ([0] : List Int) 1 3, .own Aq10' aq10'.length cq10' 3 1 (aq10'.map I), oI b2' ([0, 2] : List Int) 2 3, oI b3' ([2, 1] : List Int) 2 3]) ?_ (fun D_1_24 => ?_)
   · rintro f w62 ⟨b0', b2', b3', r6', q6', Aq10', cq10', ak10', aq10', an10', apt10', q10', hf, p112, p113, p114, p115, p116, hs62⟩
     obtain ⟨g25, rfl⟩ := has_upd hf
     clear hf
     refine aaL [1, 12] (fa_cons ?_ (fa_one ?_))
     · refine one_ rfl ?_
       refine bsk hs62 sl23 [I 2] [I 2] trivial rfl (fun b1' w63 hs63 => ?_)
       exact nl (kq ⟨_, hs63, memi 1 rfl, trivial⟩ (alc D_1_10 ⟨b0', b1', b2', b3', r6', q6', Aq10', cq10', ak10', aq10', an10', apt10', q10', ⟨rfl, rfl, rfl, rfl, rfl, rfl, rfl, rfl, trivial⟩, p112, p113, p114, p115, p116, (hs63.pick [0, 1, 2, 6, 3, 4, 5] rfl (by decide))⟩))
     · refine one_ rfl ?_
       refine al (v := .agg #[ns, Str [], Str [], I 0, ns, Str [], I 0]) (cs := [ns, Str [], Str [], I 0, ns, Str [], I 0]) hs62 tz29 rfl trivial rfl (fun b12' w64 hs64 => ?_)
       exact nl (kq ⟨_, hs64, memi 1 rfl, trivial⟩ (alc D_1_14 ⟨b0', b2', b3', r6', q6', b12', Aq10', cq10', ak10', aq10', an10', apt10', q10', ⟨rfl, rfl, rfl, rfl, rfl, rfl, rfl, rfl, trivial⟩, p112, p113, p114, p115, p116, (hs64.pick [0, 1, 2, 3, 6, 4, 5] rfl (by decide))⟩))
   refine dag (fuel' := 7) (listed' := lbits 14 4717) (fun f w' => ∃ (b0' b2' b3' : Nat) (r6' : Int) (q6' b12' : Nat), Has f [(0, pb rb), (2, pb b1), (3, pb b12'), (4, sb b0' (([0] : List Int).length) 1), (6, sb b2' (([0, 2] : List Int).length) 2), (7, sb b3' (([2, 1] : List Int).length) 2), (10, I r6'), (13, pb rb)] ∧ (0 ≤ r6' ∧ (r6' < 4 ∨ r6' = 0)) ∧ (q6' ≤ p + 1) ∧ SH w w' [rb] [.blk rb 78 [.slice Ab bs.length cb, I ((q6' : Nat) : Int)], .blk b1 29 [ns, Str [], Str [], I 0, ns, Str [], I 0], oI b0' ([0] : List Int) 1 3, .blk b12' 29 [ns, Str [], Str [], I 0, ns, Str [], I 0], oI b2' ([0, 2] : List Int) 2 3, oI b3' ([2, 1] : List Int) 2 3]) ?_ (fun D_1_25 => ?_)
   · rintro f w65 ⟨b0', b2', b3', r6', q6', b12', hf, p117, p118, hs65⟩
     obtain ⟨g26, rfl⟩ := has_upd hf
     clear hf
     refine aaL [1, 10] (fa_cons ?_ (fa_one ?_))
     · refine one_ rfl ?_
       refine bsk hs65 sl23 [I 2] [I 2] trivial rfl (fun b1' w66 hs66 => ?_)
       exact nl (kq ⟨_, hs66, memi 1 rfl, trivial⟩ (alc D_1_11 ⟨b0', b1', b2', b3', r6', q6', b12', ⟨rfl, rfl, rfl, rfl, rfl, rfl, rfl, rfl, rfl, trivial⟩, p117, p118, (hs66.pick [0, 1, 2, 6, 3, 4, 5] rfl (by decide))⟩))
     · refine one_ rfl ?_
       refine cl trivial rfl (l91Address (rb := rb) (Ab := Ab) (cb := cb) (bs := bs) (p := q6') (w := _) (hr := (blk_heap hs65 0 rfl)) (hb := (hb.up hs65 (fun _ h => h) (fun _ h => .inl h))) (hbn := (by first | assumption | (simp; omega))) (hp := (by omega))) ?_
       rintro _ w67 ⟨Aq10', cq10', ak10', aq10', an10', apt10', q10', rfl, p119, p120, p121, hs67'⟩
       have hs67 := hs65.callM 0 rfl hs67' (by intro k hk; simp at hk; exact hk.symm)
       clear hs67'
       exact nl (kq ⟨_, hs67, memi 0 rfl, trivial⟩ (alc D_1_14 ⟨b0', b2', b3', r6', q6', b12', Aq10', cq10', ak10', aq10', an10', apt10', q10', ⟨rfl, rfl, rfl, rfl, rfl, rfl, rfl, rfl, trivial⟩, p117, p118, p119, p120, p121, (hs67.pick [5, 0, 1, 6, 2, 3, 4] rfl (by decide))⟩))
   refine dag (fuel' := 7) (listed' := lbits 14 5733) (fun f w' => ∃ (b0' b2' : Nat) (r6' : Int) (q6' b12' : Nat) (Aq10' : Option Addr) (cq10' : Nat) (ak10' : Int) (aq10' : List Int) (an10' : List UInt8) (apt10' : Int) (q10' : Nat), Has f [(0, pb rb), (2, pb b1), (3, pb b12'), (4, sb b0' (([0] : List Int).length) 1), (6, sb b2' (([0, 2] : List Int).length) 2), (10, I r6'), (14, .agg #[I ak10', .slice Aq10' aq10'.length cq10', Str an10', I apt10'])] ∧ (0 ≤ r6' ∧ (r6' < 4 ∨ r6' = 0)) ∧ (q6' ≤ p + 1) ∧ (aq10'.length ≤ 4) ∧ (an10'.length ≤ 21) ∧ (q10' ≤ q6' + 40) ∧ SH w w' [rb] [.blk rb 78 [.slice Ab bs.length cb, I ((q10' : Nat) : Int)], .blk b1 29 [ns, Str [], Str [], I 0, ns, Str [], I 0], oI b0' ([0] : List Int) 1 3, .own Aq10' aq10'.length cq10' 3 1 (aq10'.map I), .blk b12' 29 [ns, Str [], Str [], I 0, ns, Str [], I 0], oI b2' ([0, 2] : List Int) 2 3]) ?_ (fun D_1_26 => ?_)
   · rintro f w68 ⟨b0', b2', r6', q6', b12', Aq10', cq10', ak10', aq10', an10', apt10', q10', hf, p122, p123, p124, p125, p126, hs68⟩
     obtain ⟨g27, rfl⟩ := has_upd hf
     clear hf
     refine aaL [1, 3] (fa_cons ?_ (fa_one ?_))
     · refine one_ rfl ?_
       refine bsk hs68 sl23 [I 2] [I 2] trivial rfl (fun b1' w69 hs69 => ?_)
       exact nl (kq ⟨_, hs69, memi 1 rfl, trivial⟩ (alc D_1_12 ⟨b0', b1', b2', r6', q6', b12', Aq10', cq10', ak10', aq10', an10', apt10', q10', ⟨rfl, rfl, rfl, rfl, rfl, rfl, rfl, rfl, trivial⟩, p122, p123, p124, p125, p126, (hs69.pick [0, 1, 2, 6, 3, 4, 5] rfl (by decide))⟩))
     · refine one_ rfl ?_
       refine bsk hs68 sl23 [I 2, I 1] [I 2, I 1] trivial rfl (fun b3' w70 hs70 => ?_)
       exact nl (kq ⟨_, hs70, memi 1 rfl, trivial⟩ (alc D_1_14 ⟨b0', b2', b3', r6', q6', b12', Aq10', cq10', ak10', aq10', an10', apt10', q10', ⟨rfl, rfl, rfl, rfl, rfl, rfl, rfl, rfl, trivial⟩, p122, p123, p124, p125, p126, hs70⟩))
   refine dag (fuel' := 7) (listed' := lbits 14 5737) (fun f w' => ∃ (b0' b3' : Nat) (r6' : Int) (q6' b12' : Nat) (Aq10' : Option Addr) (cq10' : Nat) (ak10' : Int) (aq10' : List Int) (an10' : List UInt8) (apt10' : Int) (q10' : Nat), Has f [(0, pb rb), (2, pb b1), (3, pb b12'), (4, sb b0' (([0] : List Int).length) 1), (7, sb b3' (([2, 1] : List Int).length) 2), (10, I r6'), (14, .agg #[I ak10', .slice Aq10' aq10'.length cq10', Str an10', I apt10'])] ∧ (0 ≤ r6' ∧ (r6' < 4 ∨ r6' = 0)) ∧ (q6' ≤ p + 1) ∧ (aq10'.length ≤ 4) ∧ (an10'.length ≤ 21) ∧ (q10' ≤ q6' + 40) ∧ SH w w' [rb] [.blk rb 78 [.slice Ab bs.length cb, I ((q10' : Nat) : Int)], .blk b1 29 [ns, Str [], Str [], I 0, ns, Str [], I 0], oI b0' ([0] : List Int) 1 3, .own Aq10' aq10'.length cq10' 3 1 (aq10'.map I), .blk b12' 29 [ns, Str [], Str [], I 0, ns, Str [], I 0], oI b3' ([2, 1] : List Int) 2 3]) ?_ (fun D_1_27 => ?_)
   · rintro f w71 ⟨b0', b3', r6', q6', b12', Aq10', cq10', ak10', aq10', an10', apt10', q10', hf, p127, p128, p129, p130, p131, hs71⟩
     obtain ⟨g28, rfl⟩ := has_upd hf
     clear hf
     refine aaL [1, 2] (fa_cons ?_ (fa_one ?_))
     · refine one_ rfl ?_
       refine bsk hs71 sl23 [I 2] [I 2] trivial rfl (fun b1' w72 hs72 => ?_)
       exact nl (kq ⟨_, hs72, memi 1 rfl, trivial⟩ (alc D_1_13 ⟨b0', b1', b3', r6', q6', b12', Aq10', cq10', ak10', aq10', an10', apt10', q10', ⟨rfl, rfl, rfl, rfl, rfl, rfl, rfl, rfl, trivial⟩, p127, p128, p129, p130, p131, (hs72.pick [0, 1, 2, 6, 3, 4, 5] rfl (by decide))⟩))
     · refine one_ rfl ?_
       refine bsk hs71 sl23 [I 0, I 2] [I 0, I 2] trivial rfl (fun b2' w73 hs73 => ?_)
       exact nl (kq ⟨_, hs73, memi 1 rfl, trivial⟩ (alc D_1_14 ⟨b0', b2', b3', r6', q6', b12', Aq10', cq10', ak10', aq10', an10', apt10', q10', ⟨rfl, rfl, rfl, rfl, rfl, rfl, rfl, rfl, trivial⟩, p127, p128, p129, p130, p131, (hs73.pick [0, 1, 2, 3, 4, 6, 5] rfl (by decide))⟩))
   refine dag (fuel' := 7) (listed' := lbits 14 1646) (fun f w' => ∃ (b1' b2' b3' : Nat) (r6' : Int) (q6' : Nat) (Aq10' : Option Addr) (cq10' : Nat) (ak10' : Int) (aq10' : List Int) (an10' : List UInt8) (apt10' : Int) (q10' : Nat), Has f [(0, pb rb), (2, pb b1), (5, sb b1' (([2] : List Int).length) 1), (6, sb b2' (([0, 2] : List Int).length) 2), (7, sb b3' (([2, 1] : List Int).length) 2), (10, I r6'), (14, .agg #[I ak10', .slice Aq10' aq10'.length cq10', Str an10', I apt10'])] ∧ (0 ≤ r6' ∧ (r6' < 4 ∨ r6' = 0)) ∧ (q6' ≤ p + 1) ∧ (aq10'.length ≤ 4) ∧ (an10'.length ≤ 21) ∧ (q10' ≤ q6' + 40) ∧ SH w w' [rb] [.blk rb 78 [.slice Ab bs.length cb, I ((q10' : Nat) : Int)], .blk b1 29 [ns, Str [], Str [], I 0, ns, Str [], I 0], oI b1' ([2] : List Int) 1 3, .own Aq10' aq10'.length cq10' 3 1 (aq10'.map I), oI b2' ([0, 2] : List Int) 2 3, oI b3' ([2, 1] : List Int) 2 3]) ?_ (fun D_1_28 => ?_)
   · rintro f w74 ⟨b1', b2', b3', r6', q6', Aq10', cq10', ak10', aq10', an10', apt10', q10', hf, p132, p133, p134, p135, p136, hs74⟩
     obtain ⟨g29, rfl⟩ := has_upd hf
     clear hf
     refine aaL [0, 12] (fa_cons ?_ (fa_one ?_))
     · refine one_ rfl ?_
       refine bsk hs74 sl23 [I 0] [I 0] trivial rfl (fun b0' w75 hs75 => ?_)
       exact nl (kq ⟨_, hs75, memi 1 rfl, trivial⟩ (alc D_1_10 ⟨b0', b1', b2', b3', r6', q6', Aq10', cq10', ak10', aq10', an10', apt10', q10', ⟨rfl, rfl, rfl, rfl, rfl, rfl, rfl, rfl, trivial⟩, p132, p133, p134, p135, p136, (hs75.pick [0, 1, 6, 2, 3, 4, 5] rfl (by decide))⟩))
     · refine one_ rfl ?_
       refine al (v := .agg #[ns, Str [], Str [], I 0, ns, Str [], I 0]) (cs := [ns, Str [], Str [], I 0, ns, Str [], I 0]) hs74 tz29 rfl trivial rfl (fun b12' w76 hs76 => ?_)
       exact nl (kq ⟨_, hs76, memi 1 rfl, trivial⟩ (alc D_1_15 ⟨b1', b2', b3', r6', q6', b12', Aq10', cq10', ak10', aq10', an10', apt10', q10', ⟨rfl, rfl, rfl, rfl, rfl, rfl, rfl, rfl, trivial⟩, p132, p133, p134, p135, p136, (hs76.pick [0, 1, 2, 3, 6, 4, 5] rfl (by decide))⟩))
   refine dag (fuel' := 7) (listed' := lbits 14 4718) (fun f w' => ∃ (b1' b2' b3' : Nat) (r6' : Int) (q6' b12' : Nat), Has f [(0, pb rb), (2, pb b1), (3, pb b12'), (5, sb b1' (([2] : List Int).length) 1), (6, sb b2' (([0, 2] : List Int).length) 2), (7, sb b3' (([2, 1] : List Int).length) 2), (10, I r6'), (13, pb rb)] ∧ (0 ≤ r6' ∧ (r6' < 4 ∨ r6' = 0)) ∧ (q6' ≤ p + 1) ∧ SH w w' [rb] [.blk rb 78 [.slice Ab bs.length cb, I ((q6' : Nat) : Int)], .blk b1 29 [ns, Str [], Str [], I 0, ns, Str [], I 0], oI b1' ([2] : List Int) 1 3, .blk b12' 29 [ns, Str [], Str [], I 0, ns, Str [], I 0], oI b2' ([0, 2] : List Int) 2 3, oI b3' ([2, 1] : List Int) 2 3]) ?_ (fun D_1_29 => ?_)
   · rintro f w77 ⟨b1', b2', b3', r6', q6', b12', hf, p137, p138, hs77⟩
     obtain ⟨g30, rfl⟩ := has_upd hf
     clear hf
     refine aaL [0, 10] (fa_cons ?_ (fa_one ?_))
     · refine one_ rfl ?_
       refine bsk hs77 sl23 [I 0] [I 0] trivial rfl (fun b0' w78 hs78 => ?_)
       exact nl (kq ⟨_, hs78, memi 1 rfl, trivial⟩ (alc D_1_11 ⟨b0', b1', b2', b3', r6', q6', b12', ⟨rfl, rfl, rfl, rfl, rfl, rfl, rfl, rfl, rfl, trivial⟩, p137, p138, (hs78.pick [0, 1, 6, 2, 3, 4, 5] rfl (by decide))⟩))
     · refine one_ rfl ?_
       refine cl trivial rfl (l91Address (rb := rb) (Ab := Ab) (cb := cb) (bs := bs) (p := q6') (w := _) (hr := (blk_heap hs77 0 rfl)) (hb := (hb.up hs77 (fun _ h => h) (fun _ h => .inl h))) (hbn := (by first | assumption | (simp; omega))) (hp := (by omega))) ?_
       rintro _ w79 ⟨Aq10', cq10', ak10', aq10', an10', apt10', q10', rfl, p139, p140, p141, hs79'⟩
       have hs79 := hs77.callM 0 rfl hs79' (by intro k hk; simp at hk; exact hk.symm)
       clear hs79'
       exact nl (kq ⟨_, hs79, memi 0 rfl, trivial⟩ (alc D_1_15 ⟨b1', b2', b3', r6', q6', b12', Aq10', cq10', ak10', aq10', an10', apt10', q10', ⟨rfl, rfl, rfl, rfl, rfl, rfl, rfl, rfl, trivial⟩, p137, p138, p139, p140, p141, (hs79.pick [5, 0, 1, 6, 2, 3, 4] rfl (by decide))⟩))
   refine dag (fuel' := 7) (listed' := lbits 14 5734) (fun f w' => ∃ (b1' b2' : Nat) (r6' : Int) (q6' b12' : Nat) (Aq10' : Option Addr) (cq10' : Nat) (ak10' : Int) (aq10' : List Int) (an10' : List UInt8) (apt10' : Int) (q10' : Nat), Has f [(0, pb rb), (2, pb b1), (3, pb b12'), (5, sb b1' (([2] : List Int).length) 1), (6, sb b2' (([0, 2] : List Int).length) 2), (10, I r6'), (14, .agg #[I ak10', .slice Aq10' aq10'.length cq10', Str an10', I apt10'])] ∧ (0 ≤ r6' ∧ (r6' < 4 ∨ r6' = 0)) ∧ (q6' ≤ p + 1) ∧ (aq10'.length ≤ 4) ∧ (an10'.length ≤ 21) ∧ (q10' ≤ q6' + 40) ∧ SH w w' [rb] [.blk rb 78 [.slice Ab bs.length cb, I ((q10' : Nat) : Int)], .blk b1 29 [ns, Str [], Str [], I 0, ns, Str [], I 0], oI b1' ([2] : List Int) 1 3, .own Aq10' aq10'.length cq10' 3 1 (aq10'.map I), .blk b12' 29 [ns, Str [], Str [], I 0, ns, Str [], I 0], oI b2' ([0, 2] : List Int) 2 3]) ?_ (fun D_1_30 => ?_)
   · rintro f w80 ⟨b1', b2', r6', q6', b12', Aq10', cq10', ak10', aq10', an10', apt10', q10', hf, p142, p143, p144, p145, p146, hs80⟩
     obtain ⟨g31, rfl⟩ := has_upd hf
     clear hf
     refine aaL [0, 3] (fa_cons ?_ (fa_one ?_))
     · refine one_ rfl ?_
       refine bsk hs80 sl23 [I 0] [I 0] trivial rfl (fun b0' w81 hs81 => ?_)
       exact nl (kq ⟨_, hs81, memi 1 rfl, trivial⟩ (alc D_1_12 ⟨b0', b1', b2', r6', q6', b12', Aq10', cq10', ak10', aq10', an10', apt10', q10', ⟨rfl, rfl, rfl, rfl, rfl, rfl, rfl, rfl, trivial⟩, p142, p143, p144, p145, p146, (hs81.pick [0, 1, 6, 2, 3, 4, 5] rfl (by decide))⟩))
     · refine one_ rfl ?_
       refine bsk hs80 sl23 [I 2, I 1] [I 2, I 1] trivial rfl (fun b3' w82 hs82 => ?_)
       exact nl (kq ⟨_, hs82, memi 1 rfl, trivial⟩ (alc D_1_15 ⟨b1', b2', b3', r6', q6', b12', Aq10', cq10', ak10', aq10', an10', apt10', q10', ⟨rfl, rfl, rfl, rfl, rfl, rfl, rfl, rfl, trivial⟩, p142, p143, p144, p145, p146, hs82⟩))
   refine dag (fuel' := 7) (listed' := lbits 14 5738) (fun f w' => ∃ (b1' b3' : Nat) (r6' : Int) (q6' b12' : Nat) (Aq10' : Option Addr) (cq10' : Nat) (ak10' : Int) (aq10' : List Int) (an10' : List UInt8) (apt10' : Int) (q10' : Nat), Has f [(0, pb rb), (2, pb b1), (3, pb b12'), (5, sb b1' (([2] : List Int).length) 1), (7, sb b3' (([2, 1] : List Int).length) 2), (10, I r6'), (14, .agg #[I ak10', .slice Aq10' aq10'.length cq10', Str an10', I apt10'])] ∧ (0 ≤ r6' ∧ (r6' < 4 ∨ r6' = 0)) ∧ (q6' ≤ p + 1) ∧ (aq10'.length ≤ 4) ∧ (an10'.length ≤ 21) ∧ (q10' ≤ q6' + 40) ∧ SH w w' [rb] [.blk rb 78 [.slice Ab bs.length cb, I ((q10' : Nat) : Int)], .blk b1 29 [ns, Str [], Str [], I 0, ns, Str [], I 0], oI b1' ([2] : List Int) 1 3, .own Aq10' aq10'.length cq10' 3 1 (aq10'.map I), .blk b12' 29 [ns, Str [], Str [], I 0, ns, Str [], I 0], oI b3' ([2, 1] : List Int) 2 3]) ?_ (fun D_1_31 => ?_)
   · rintro f w83 ⟨b1', b3', r6', q6', b12', Aq10', cq10', ak10', aq10', an10', apt10', q10', hf, p147, p148, p149, p150, p151, hs83⟩
     obtain ⟨g32, rfl⟩ := has_upd hf
     clear hf
     refine aaL [0, 2] (fa_cons ?_ (fa_one ?_))
     · refine one_ rfl ?_
       refine bsk hs83 sl23 [I 0] [I 0] trivial rfl (fun b0' w84 hs84 => ?_)
       exact nl (kq ⟨_, hs84, memi 1 rfl, trivial⟩ (alc D_1_13 ⟨b0', b1', b3', r6', q6', b12', Aq10', cq10', ak10', aq10', an10', apt10', q10', ⟨rfl, rfl, rfl, rfl, rfl, rfl, rfl, rfl, trivial⟩, p147, p148, p149, p150, p151, (hs84.pick [0, 1, 6, 2, 3, 4, 5] rfl (by decide))⟩))
     · refine one_ rfl ?_
       refine bsk hs83 sl23 [I 0, I 2] [I 0, I 2] trivial rfl (fun b2' w85 hs85 => ?_)
       exact nl (kq ⟨_, hs85, memi 1 rfl, trivial⟩ (alc D_1_15 ⟨b1', b2', b3', r6', q6', b12', Aq10', cq10', ak10', aq10', an10', apt10', q10', ⟨rfl, rfl, rfl, rfl, rfl, rfl, rfl, rfl, trivial⟩, p147, p148, p149, p150, p151, (hs85.pick [0, 1, 2, 3, 4, 6, 5] rfl (by decide))⟩))
   refine dag (fuel' := 7) (listed' := lbits 14 5740) (fun f w' => ∃ (b2' b3' : Nat) (r6' : Int) (q6' b12' : Nat) (Aq10' : Option Addr) (cq10' : Nat) (ak10' : Int) (aq10' : List Int) (an10' : List UInt8) (apt10' : Int) (q10' : Nat), Has f [(0, pb rb), (2, pb b1), (3, pb b12'), (6, sb b2' (([0, 2] : List Int).length) 2), (7, sb b3' (([2, 1] : List Int).length) 2), (10, I r6'), (14, .agg #[I ak10', .slice Aq10' aq10'.length cq10', Str an10', I apt10'])] ∧ (0 ≤ r6' ∧ (r6' < 4 ∨ r6' = 0)) ∧ (q6' ≤ p + 1) ∧ (aq10'.length ≤ 4) ∧ (an10'.length ≤ 21) ∧ (q10' ≤ q6' + 40) ∧ SH w w' [rb] [.blk rb 78 [.slice Ab bs.length cb, I ((q10' : Nat) : Int)], .blk b1 29 [ns, Str [], Str [], I 0, ns, Str [], I 0], .own Aq10' aq10'.length cq10' 3 1 (aq10'.map I), .blk b12' 29 [ns, Str [], Str [], I 0, ns, Str [], I 0], oI b2' ([0, 2] : List Int) 2 3, oI b3' ([2, 1] : List Int) 2 3]) ?_ (fun D_1_32 => ?_)
   · rintro f w86 ⟨b2', b3', r6', q6', b12', Aq10', cq10', ak10', aq10', an10', apt10', q10', hf, p152, p153, p154, p155, p156, hs86⟩
     obtain ⟨g33, rfl⟩ := has_upd hf
     clear hf
     refine aaL [0, 1] (fa_cons ?_ (fa_one ?_))
     · refine one_ rfl ?_
       refine bsk hs86 sl23 [I 0] [I 0] trivial rfl (fun b0' w87 hs87 => ?_)
       exact nl (kq ⟨_, hs87, memi 1 rfl, trivial⟩ (alc D_1_14 ⟨b0', b2', b3', r6', q6', b12', Aq10', cq10', ak10', aq10', an10', apt10', q10', ⟨rfl, rfl, rfl, rfl, rfl, rfl, rfl, rfl, trivial⟩, p152, p153, p154, p155, p156, (hs87.pick [0, 1, 6, 2, 3, 4, 5] rfl (by decide))⟩))
     · refine one_ rfl ?_
       refine bsk hs86 sl23 [I 2] [I 2] trivial rfl (fun b1' w88 hs88 => ?_)
       exact nl (kq ⟨_, hs88, memi 1 rfl, trivial⟩ (alc D_1_15 ⟨b1', b2', b3', r6', q6', b12', Aq10', cq10', ak10', aq10', an10', apt10', q10', ⟨rfl, rfl, rfl, rfl, rfl, rfl, rfl, rfl, trivial⟩, p152, p153, p154, p155, p156, (hs88.pick [0, 1, 6, 2, 3, 4, 5] rfl (by decide))⟩))
   refine dag (fuel' := 8) (listed' := lbits 14 559) (fun f w' => ∃ (b0' b1' b2' b3' : Nat), Has f [(0, pb rb), (2, pb b1), (4, sb b0' (([0] : List Int).length) 1), (5, sb b1' (([2] : List Int).length) 1), (6, sb b2' (([0, 2] : List Int).length) 2), (7, sb b3' (([2, 1] : List Int).length) 2), (9, pb rb), (13, pb rb)] ∧ SH w w' [rb] [.blk rb 78 [.slice Ab bs.length cb, I ((p : Nat) : Int)], .blk b1 29 [ns, Str [], Str [], I 0, ns, Str [], I 0], oI b0' ([0] : List Int) 1 3, oI b1' ([2] : List Int) 1 3, oI b2' ([0, 2] : List Int) 2 3, oI b3' ([2, 1] : List Int) 2 3]) ?_ (fun D_1_33 => ?_)
   · rintro f w89 ⟨b0', b1', b2', b3', hf, hs89⟩
     obtain ⟨g34, rfl⟩ := has_upd hf
     clear hf
     refine aaL [4, 6, 12] (fa_cons ?_ (fa_cons ?_ (fa_one ?_)))
     · refine one_ rfl ?_
       refine bsk hs89 sl74 [sb b0' (([0] : List Int).length) 1, sb b1' (([2] : List Int).length) 1, sb b2' (([0, 2] : List Int).length) 2, sb b3' (([2, 1] : List Int).length) 2] [sb b0' (([0] : List Int).length) 1, sb b1' (([2] : List Int).length) 1, sb b2' (([0, 2] : List Int).length) 2, sb b3' (([2, 1] : List Int).length) 2] trivial rfl (fun b4' w90 hs90 => ?_)
       exact nl (kq ⟨_, hs90, memi 1 rfl, trivial⟩ (alc D_1_16 ⟨b0', b1', b2', b3', b4', ⟨rfl, rfl, rfl, rfl, rfl, trivial⟩, hs90⟩))
     · refine one_ rfl ?_
       refine cl trivial rfl (pick (rb := rb) (Ab := Ab) (cb := cb) (bs := bs) (p := p) (n := 4) (w := _) (hr := (blk_heap hs89 0 rfl)) (hb := (hb.up hs89 (fun _ h => h) (fun _ h => .inl h))) (hbn := (by first | assumption | (simp; omega))) (hp := (by omega))) ?_
       rintro _ w91 ⟨r6', q6', rfl, p157, p158, hs91'⟩
       have hs91 := hs89.callM 0 rfl hs91' (by intro k hk; simp at hk; exact hk.symm)
       clear hs91'
       exact nl (kq ⟨_, hs91, memi 0 rfl, trivial⟩ (alc D_1_17 ⟨b0', b1', b2', b3', r6', q6', ⟨rfl, rfl, rfl, rfl, rfl, rfl, rfl, rfl, trivial⟩, p157, p158, (hs91.pick [5, 0, 1, 2, 3, 4] rfl (by decide))⟩))
     · refine one_ rfl ?_
       refine al (v := .agg #[ns, Str [], Str [], I 0, ns, Str [], I 0]) (cs := [ns, Str [], Str [], I 0, ns, Str [], I 0]) hs89 tz29 rfl trivial rfl (fun b12' w92 hs92 => ?_)
       exact nl (kq ⟨_, hs92, memi 1 rfl, trivial⟩ (alc D_1_18 ⟨b0', b1', b2', b3', b12', ⟨rfl, rfl, rfl, rfl, rfl, rfl, rfl, rfl, rfl, trivial⟩, (hs92.pick [0, 1, 2, 3, 6, 4, 5] rfl (by decide))⟩))
   refine dag (fuel' := 8) (listed' := lbits 14 615) (fun f w' => ∃ (b0' b1' b2' : Nat) (r6' : Int) (q6' : Nat), Has f [(0, pb rb), (2, pb b1), (4, sb b0' (([0] : List Int).length) 1), (5, sb b1' (([2] : List Int).length) 1), (6, sb b2' (([0, 2] : List Int).length) 2), (10, I r6'), (13, pb rb)] ∧ (0 ≤ r6' ∧ (r6' < 4 ∨ r6' = 0)) ∧ (q6' ≤ p + 1) ∧ SH w w' [rb] [.blk rb 78 [.slice Ab bs.length cb, I ((q6' : Nat) : Int)], .blk b1 29 [ns, Str [], Str [], I 0, ns, Str [], I 0], oI b0' ([0] : List Int) 1 3, oI b1' ([2] : List Int) 1 3, oI b2' ([0, 2] : List Int) 2 3]) ?_ (fun D_1_34 => ?_)
   · rintro f w93 ⟨b0', b1', b2', r6', q6', hf, p159, p160, hs93⟩
     obtain ⟨g35, rfl⟩ := has_upd hf
     clear hf
     refine aaL [3, 10, 12] (fa_cons ?_ (fa_cons ?_ (fa_one ?_)))
     · refine one_ rfl ?_
       refine bsk hs93 sl23 [I 2, I 1] [I 2, I 1] trivial rfl (fun b3' w94 hs94 => ?_)
       exact nl (kq ⟨_, hs94, memi 1 rfl, trivial⟩ (alc D_1_17 ⟨b0', b1', b2', b3', r6', q6', ⟨rfl, rfl, rfl, rfl, rfl, rfl, rfl, rfl, trivial⟩, p159, p160, hs94⟩))
     · refine one_ rfl ?_
       refine cl trivial rfl (l91Address (rb := rb) (Ab := Ab) (cb := cb) (bs := bs) (p := q6') (w := _) (hr := (blk_heap hs93 0 rfl)) (hb := (hb.up hs93 (fun _ h => h) (fun _ h => .inl h))) (hbn := (by first | assumption | (simp; omega))) (hp := (by omega))) ?_
       rintro _ w95 ⟨Aq10', cq10', ak10', aq10', an10', apt10', q10', rfl, p161, p162, p163, hs95'⟩
       have hs95 := hs93.callM 0 rfl hs95' (by intro k hk; simp at hk; exact hk.symm)
       clear hs95'
       exact nl (kq ⟨_, hs95, memi 0 rfl, trivial⟩ (alc D_1_19 ⟨b0', b1', b2', r6', q6', Aq10', cq10', ak10', aq10', an10', apt10', q10', ⟨rfl, rfl, rfl, rfl, rfl, rfl, rfl, trivial⟩, p159, p160, p161, p162, p163, (hs95.pick [4, 0, 1, 2, 5, 3] rfl (by decide))⟩))
     · refine one_ rfl ?_
       refine al (v := .agg #[ns, Str [], Str [], I 0, ns, Str [], I 0]) (cs := [ns, Str [], Str [], I 0, ns, Str [], I 0]) hs93 tz29 rfl trivial rfl (fun b12' w96 hs96 => ?_)
       exact nl (kq ⟨_, hs96, memi 1 rfl, trivial⟩ (alc D_1_20 ⟨b0', b1', b2', r6', q6', b12', ⟨rfl, rfl, rfl, rfl, rfl, rfl, rfl, rfl, trivial⟩, p159, p160, (hs96.pick [0, 1, 2, 3, 5, 4] rfl (by decide))⟩))
   refine dag (fuel' := 8) (listed' := lbits 14 4647) (fun f w' => ∃ (b0' b1' b2' b12' : Nat), Has f [(0, pb rb), (2, pb b1), (3, pb b12'), (4, sb b0' (([0] : List Int).length) 1), (5, sb b1' (([2] : List Int).length) 1), (6, sb b2' (([0, 2] : List Int).length) 2), (9, pb rb), (13, pb rb)] ∧ SH w w' [rb] [.blk rb 78 [.slice Ab bs.length cb, I ((p : Nat) : Int)], .blk b1 29 [ns, Str [], Str [], I 0, ns, Str [], I 0], oI b0' ([0] : List Int) 1 3, oI b1' ([2] : List Int) 1 3, .blk b12' 29 [ns, Str [], Str [], I 0, ns, Str [], I 0], oI b2' ([0, 2] : List Int) 2 3]) ?_ (fun D_1_35 => ?_)
   · rintro f w97 ⟨b0', b1', b2', b12', hf, hs97⟩
     obtain ⟨g36, rfl⟩ := has_upd hf
     clear hf
     refine aaL [3, 6] (fa_cons ?_ (fa_one ?_))
     · refine one_ rfl ?_
       refine bsk hs97 sl23 [I 2, I 1] [I 2, I 1] trivial rfl (fun b3' w98 hs98 => ?_)
       exact nl (kq ⟨_, hs98, memi 1 rfl, trivial⟩ (alc D_1_18 ⟨b0', b1', b2', b3', b12', ⟨rfl, rfl, rfl, rfl, rfl, rfl, rfl, rfl, rfl, trivial⟩, hs98⟩))
     · refine one_ rfl ?_
       refine cl trivial rfl (pick (rb := rb) (Ab := Ab) (cb := cb) (bs := bs) (p := p) (n := 4) (w := _) (hr := (blk_heap hs97 0 rfl)) (hb := (hb.up hs97 (fun _ h => h) (fun _ h => .inl h))) (hbn := (by first | assumption | (simp; omega))) (hp := (by omega))) ?_
       rintro _ w99 ⟨r6', q6', rfl, p164, p165, hs99'⟩
       have hs99 := hs97.callM 0 rfl hs99' (by intro k hk; simp at hk; exact hk.symm)
       clear hs99'
       exact nl (kq ⟨_, hs99, memi 0 rfl, trivial⟩ (alc D_1_20 ⟨b0', b1', b2', r6', q6', b12', ⟨rfl, rfl, rfl, rfl, rfl, rfl, rfl, rfl, trivial⟩, p164, p165, (hs99.pick [5, 0, 1, 2, 3, 4] rfl (by decide))⟩))
   refine dag (fuel' := 8) (listed' := lbits 14 619) (fun f w' => ∃ (b0' b1' b3' : Nat) (r6' : Int) (q6' : Nat), Has f [(0, pb rb), (2, pb b1), (4, sb b0' (([0] : List Int).length) 1), (5, sb b1' (([2] : List Int).length) 1), (7, sb b3' (([2, 1] : List Int).length) 2), (10, I r6'), (13, pb rb)] ∧ (0 ≤ r6' ∧ (r6' < 4 ∨ r6' = 0)) ∧ (q6' ≤ p + 1) ∧ SH w w' [rb] [.blk rb 78 [.slice Ab bs.length cb, I ((q6' : Nat) : Int)], .blk b1 29 [ns, Str [], Str [], I 0, ns, Str [], I 0], oI b0' ([0] : List Int) 1 3, oI b1' ([2] : List Int) 1 3, oI b3' ([2, 1] : List Int) 2 3]) ?_ (fun D_1_36 => ?_)
   · rintro f w100 ⟨b0', b1', b3', r6', q6', hf, p166, p167, hs100⟩
     obtain ⟨g37, rfl⟩ := has_upd hf
     clear hf
     refine aaL [2, 10, 12] (fa_cons ?_ (fa_cons ?_ (fa_one ?_)))
     · refine one_ rfl ?_
       refine bsk hs100 sl23 [I 0, I 2] [I 0, I 2] trivial rfl (fun b2' w101 hs101 => ?_)
       exact nl (kq ⟨_, hs101, memi 1 rfl, trivial⟩ (alc D_1_17 ⟨b0', b1', b2', b3', r6', q6', ⟨rfl, rfl, rfl, rfl, rfl, rfl, rfl, rfl, trivial⟩, p166, p167, (hs101.pick [0, 1, 2, 3, 5, 4] rfl (by decide))⟩))
     · refine one_ rfl ?_
       refine cl trivial rfl (l91Address (rb := rb) (Ab := Ab) (cb := cb) (bs := bs) (p := q6') (w := _) (hr := (blk_heap hs100 0 rfl)) (hb := (hb.up hs100 (fun _ h => h) (fun _ h => .inl h))) (hbn := (by first | assumption | (simp; omega))) (hp := (by omega))) ?_
       rintro _ w102 ⟨Aq10', cq10', ak10', aq10', an10', apt10', q10', rfl, p168, p169, p170, hs102'⟩
       have hs102 := hs100.callM 0 rfl hs102' (by intro k hk; simp at hk; exact hk.symm)
       clear hs102'
       exact nl (kq ⟨_, hs102, memi 0 rfl, trivial⟩ (alc D_1_21 ⟨b0', b1', b3', r6', q6', Aq10', cq10', ak10', aq10', an10', apt10', q10', ⟨rfl, rfl, rfl, rfl, rfl, rfl, rfl, trivial⟩, p166, p167, p168, p169, p170, (hs102.pick [4, 0, 1, 2, 5, 3] rfl (by decide))⟩))
     · refine one_ rfl ?_
       refine al (v := .agg #[ns, Str [], Str [], I 0, ns, Str [], I 0]) (cs := [ns, Str [], Str [], I 0, ns, Str [], I 0]) hs100 tz29 rfl trivial rfl (fun b12' w103 hs103 => ?_)
       exact nl (kq ⟨_, hs103, memi 1 rfl, trivial⟩ (alc D_1_22 ⟨b0', b1', b3', r6', q6', b12', ⟨rfl, rfl, rfl, rfl, rfl, rfl, rfl, rfl, trivial⟩, p166, p167, (hs103.pick [0, 1, 2, 3, 5, 4] rfl (by decide))⟩))
   refine dag (fuel' := 8) (listed' := lbits 14 4651) (fun f w' => ∃ (b0' b1' b3' b12' : Nat), Has f [(0, pb rb), (2, pb b1), (3, pb b12'), (4, sb b0' (([0] : List Int).length) 1), (5, sb b1' (([2] : List Int).length) 1), (7, sb b3' (([2, 1] : List Int).length) 2), (9, pb rb), (13, pb rb)] ∧ SH w w' [rb] [.blk rb 78 [.slice Ab bs.length cb, I ((p : Nat) : Int)], .blk b1 29 [ns, Str [], Str [], I 0, ns, Str [], I 0], oI b0' ([0] : List Int) 1 3, oI b1' ([2] : List Int) 1 3, .blk b12' 29 [ns, Str [], Str [], I 0, ns, Str [], I 0], oI b3' ([2, 1] : List Int) 2 3]) ?_ (fun D_1_37 => ?_)
   · rintro f w104 ⟨b0', b1', b3', b12', hf, hs104⟩
     obtain ⟨g38, rfl⟩ := has_upd hf
     clear hf
     refine aaL [2, 6] (fa_cons ?_ (fa_one ?_))
     · refine one_ rfl ?_
       refine bsk hs104 sl23 [I 0, I 2] [I 0, I 2] trivial rfl (fun b2' w105 hs105 => ?_)
       exact nl (kq ⟨_, hs105, memi 1 rfl, trivial⟩ (alc D_1_18 ⟨b0', b1', b2', b3', b12', ⟨rfl, rfl, rfl, rfl, rfl, rfl, rfl, rfl, rfl, trivial⟩, (hs105.pick [0, 1, 2, 3, 4, 6, 5] rfl (by decide))⟩))
     · refine one_ rfl ?_
       refine cl trivial rfl (pick (rb := rb) (Ab := Ab) (cb := cb) (bs := bs) (p := p) (n := 4) (w := _) (hr := (blk_heap hs104 0 rfl)) (hb := (hb.up hs104 (fun _ h => h) (fun _ h => .inl h))) (hbn := (by first | assumption | (simp; omega))) (hp := (by omega))) ?_
       rintro _ w106 ⟨r6', q6', rfl, p171, p172, hs106'⟩
       have hs106 := hs104.callM 0 rfl hs106' (by intro k hk; simp at hk; exact hk.symm)
       clear hs106'
       exact nl (kq ⟨_, hs106, memi 0 rfl, trivial⟩ (alc D_1_22 ⟨b0', b1', b3', r6', q6', b12', ⟨rfl, rfl, rfl, rfl, rfl, rfl, rfl, rfl, trivial⟩, p171, p172, (hs106.pick [5, 0, 1, 2, 3, 4] rfl (by decide))⟩))
   refine dag (fuel' := 8) (listed' := lbits 14 1635) (fun f w' => ∃ (b0' b1' : Nat) (r6' : Int) (q6' : Nat) (Aq10' : Option Addr) (cq10' : Nat) (ak10' : Int) (aq10' : List Int) (an10' : List UInt8) (apt10' : Int) (q10' : Nat), Has f [(0, pb rb), (2, pb b1), (4, sb b0' (([0] : List Int).length) 1), (5, sb b1' (([2] : List Int).length) 1), (10, I r6'), (14, .agg #[I ak10', .slice Aq10' aq10'.length cq10', Str an10', I apt10'])] ∧ (0 ≤ r6' ∧ (r6' < 4 ∨ r6' = 0)) ∧ (q6' ≤ p + 1) ∧ (aq10'.length ≤ 4) ∧ (an10'.length ≤ 21) ∧ (q10' ≤ q6' + 40) ∧ SH w w' [rb] [.blk rb 78 [.slice Ab bs.length cb, I ((q10' : Nat) : Int)], .blk b1 29 [ns, Str [], Str [], I 0, ns, Str [], I 0], oI b0' ([0] : List Int) 1 3, oI b1' ([2] : List Int) 1 3, .own Aq10' aq10'.length cq10' 3 1 (aq10'.map I)]) ?_ (fun D_1_38 => ?_)
   · rintro f w107 ⟨b0', b1', r6', q6', Aq10', cq10', ak10', aq10', an10', apt10', q10', hf, p173, p174, p175, p176, p177, hs107⟩
     obtain ⟨g39, rfl⟩ := has_upd hf
     clear hf
     refine aaL [2, 3, 12] (fa_cons ?_ (fa_cons ?_ (fa_one ?_)))
     · refine one_ rfl ?_
       refine bsk hs107 sl23 [I 0, I 2] [I 0, I 2] trivial rfl (fun b2' w108 hs108 => ?_)
       exact nl (kq ⟨_, hs108, memi 1 rfl, trivial⟩ (alc D_1_19 ⟨b0', b1', b2', r6', q6', Aq10', cq10', ak10', aq10', an10', apt10', q10', ⟨rfl, rfl, rfl, rfl, rfl, rfl, rfl, trivial⟩, p173, p174, p175, p176, p177, hs108⟩))
     · refine one_ rfl ?_
       refine bsk hs107 sl23 [I 2, I 1] [I 2, I 1] trivial rfl (fun b3' w109 hs109 => ?_)
       exact nl (kq ⟨_, hs109, memi 1 rfl, trivial⟩ (alc D_1_21 ⟨b0', b1', b3', r6', q6', Aq10', cq10', ak10', aq10', an10', apt10', q10', ⟨rfl, rfl, rfl, rfl, rfl, rfl, rfl, trivial⟩, p173, p174, p175, p176, p177, hs109⟩))
     · refine one_ rfl ?_
       refine al (v := .agg #[ns, Str [], Str [], I 0, ns, Str [], I 0]) (cs := [ns, Str [], Str [], I 0, ns, Str [], I 0]) hs107 tz29 rfl trivial rfl (fun b12' w110 hs110 => ?_)
       exact nl (kq ⟨_, hs110, memi 1 rfl, trivial⟩ (alc D_1_23 ⟨b0', b1', r6', q6', b12', Aq10', cq10', ak10', aq10', an10', apt10', q10', ⟨rfl, rfl, rfl, rfl, rfl, rfl, rfl, trivial⟩, p173, p174, p175, p176, p177, hs110⟩))
   refine dag (fuel' := 8) (listed' := lbits 14 4707) (fun f w' => ∃ (b0' b1' : Nat) (r6' : Int) (q6' b12' : Nat), Has f [(0, pb rb), (2, pb b1), (3, pb b12'), (4, sb b0' (([0] : List Int).length) 1), (5, sb b1' (([2] : List Int).length) 1), (10, I r6'), (13, pb rb)] ∧ (0 ≤ r6' ∧ (r6' < 4 ∨ r6' = 0)) ∧ (q6' ≤ p + 1) ∧ SH w w' [rb] [.blk rb 78 [.slice Ab bs.length cb, I ((q6' : Nat) : Int)], .blk b1 29 [ns, Str [], Str [], I 0, ns, Str [], I 0], oI b0' ([0] : List Int) 1 3, oI b1' ([2] : List Int) 1 3, .blk b12' 29 [ns, Str [], Str [], I 0, ns, Str [], I 0]]) ?_ (fun D_1_39 => ?_)
   · rintro f w111 ⟨b0', b1', r6', q6', b12', hf, p178, p179, hs111⟩
     obtain ⟨g40, rfl⟩ := has_upd hf
     clear hf
     refine aaL [2, 3, 10] (fa_cons ?_ (fa_cons ?_ (fa_one ?_)))
     · refine one_ rfl ?_
       refine bsk hs111 sl23 [I 0, I 2] [I 0, I 2] trivial rfl (fun b2' w112 hs112 => ?_)
       exact nl (kq ⟨_, hs112, memi 1 rfl, trivial⟩ (alc D_1_20 ⟨b0', b1', b2', r6', q6', b12', ⟨rfl, rfl, rfl, rfl, rfl, rfl, rfl, rfl, trivial⟩, p178, p179, hs112⟩))
     · refine one_ rfl ?_
       refine bsk hs111 sl23 [I 2, I 1] [I 2, I 1] trivial rfl (fun b3' w113 hs113 => ?_)
       exact nl (kq ⟨_, hs113, memi 1 rfl, trivial⟩ (alc D_1_22 ⟨b0', b1', b3', r6', q6', b12', ⟨rfl, rfl, rfl, rfl, rfl, rfl, rfl, rfl, trivial⟩, p178, p179, hs113⟩))
     · refine one_ rfl ?_
       refine cl trivial rfl (l91Address (rb := rb) (Ab := Ab) (cb := cb) (bs := bs) (p := q6') (w := _) (hr := (blk_heap hs111 0 rfl)) (hb := (hb.up hs111 (fun _ h => h) (fun _ h => .inl h))) (hbn := (by first | assumption | (simp; omega))) (hp := (by omega))) ?_
       rintro _ w114 ⟨Aq10', cq10', ak10', aq10', an10', apt10', q10', rfl, p180, p181, p182, hs114'⟩
       have hs114 := hs111.callM 0 rfl hs114' (by intro k hk; simp at hk; exact hk.symm)
       clear hs114'
       exact nl (kq ⟨_, hs114, memi 0 rfl, trivial⟩ (alc D_1_23 ⟨b0', b1', r6', q6', b12', Aq10', cq10', ak10', aq10', an10', apt10', q10', ⟨rfl, rfl, rfl, rfl, rfl, rfl, rfl, trivial⟩, p178, p179, p180, p181, p182, (hs114.pick [4, 0, 1, 2, 5, 3] rfl (by decide))⟩))
   refine dag (fuel' := 8) (listed' := lbits 14 621) (fun f w' => ∃ (b0' b2' b3' : Nat) (r6' : Int) (q6' : Nat), Has f [(0, pb rb), (2, pb b1), (4, sb b0' (([0] : List Int).length) 1), (6, sb b2' (([0, 2] : List Int).length) 2), (7, sb b3' (([2, 1] : List Int).length) 2), (10, I r6'), (13, pb rb)] ∧ (0 ≤ r6' ∧ (r6' < 4 ∨ r6' = 0)) ∧ (q6' ≤ p + 1) ∧ SH w w' [rb] [.blk rb 78 [.slice Ab bs.length cb, I ((q6' : Nat) : Int)], .blk b1 29 [ns, Str [], Str [], I 0, ns, Str [], I 0], oI b0' ([0] : List Int) 1 3, oI b2' ([0, 2] : List Int) 2 3, oI b3' ([2, 1] : List Int) 2 3]) ?_ (fun D_1_40 => ?_)
   · rintro f w115 ⟨b0', b2', b3', r6', q6', hf, p183, p184, hs115⟩
     obtain ⟨g41, rfl⟩ := has_upd hf
     clear hf
     refine aaL [1, 10, 12] (fa_cons ?_ (fa_cons ?_ (fa_one ?_)))
     · refine one_ rfl ?_
       refine bsk hs115 sl23 [I 2] [I 2] trivial rfl (fun b1' w116 hs116 => ?_)
       exact nl (kq ⟨_, hs116, memi 1 rfl, trivial⟩ (alc D_1_17 ⟨b0', b1', b2', b3', r6', q6', ⟨rfl, rfl, rfl, rfl, rfl, rfl, rfl, rfl, trivial⟩, p183, p184, (hs116.pick [0, 1, 2, 5, 3, 4] rfl (by decide))⟩))
     · refine one_ rfl ?_
       refine cl trivial rfl (l91Address (rb := rb) (Ab := Ab) (cb := cb) (bs := bs) (p := q6') (w := _) (hr := (blk_heap hs115 0 rfl)) (hb := (hb.up hs115 (fun _ h => h) (fun _ h => .inl h))) (hbn := (by first | assumption | (simp; omega))) (hp := (by omega))) ?_
       rintro _ w117 ⟨Aq10', cq10', ak10', aq10', an10', apt10', q10', rfl, p185, p186, p187, hs117'⟩
       have hs117 := hs115.callM 0 rfl hs117' (by intro k hk; simp at hk; exact hk.symm)
       clear hs117'
       exact nl (kq ⟨_, hs117, memi 0 rfl, trivial⟩ (alc D_1_24 ⟨b0', b2', b3', r6', q6', Aq10', cq10', ak10', aq10', an10', apt10', q10', ⟨rfl, rfl, rfl, rfl, rfl, rfl, rfl, trivial⟩, p183, p184, p185, p186, p187, (hs117.pick [4, 0, 1, 5, 2, 3] rfl (by decide))⟩))
     · refine one_ rfl ?_
       refine al (v := .agg #[ns, Str [], Str [], I 0, ns, Str [], I 0]) (cs := [ns, Str [], Str [], I 0, ns, Str [], I 0]) hs115 tz29 rfl trivial rfl (fun b12' w118 hs118 => ?_)
       exact nl (kq ⟨_, hs118, memi 1 rfl, trivial⟩ (alc D_1_25 ⟨b0', b2', b3', r6', q6', b12', ⟨rfl, rfl, rfl, rfl, rfl, rfl, rfl, rfl, trivial⟩, p183, p184, (hs118.pick [0, 1, 2, 5, 3, 4] rfl (by decide))⟩))
   refine dag (fuel' := 8) (listed' := lbits 14 4653) (fun f w' => ∃ (b0' b2' b3' b12' : Nat), Has f [(0, pb rb), (2, pb b1), (3, pb b12'), (4, sb b0' (([0] : List Int).length) 1), (6, sb b2' (([0, 2] : List Int).length) 2), (7, sb b3' (([2, 1] : List Int).length) 2), (9, pb rb), (13, pb rb)] ∧ SH w w' [rb] [.blk rb 78 [.slice Ab bs.length cb, I ((p : Nat) : Int)], .blk b1 29 [ns, Str [], Str [], I 0, ns, Str [], I 0], oI b0' ([0] : List Int) 1 3, .blk b12' 29 [ns, Str [], Str [], I 0, ns, Str [], I 0], oI b2' ([0, 2] : List Int) 2 3, oI b3' ([2, 1] : List Int) 2 3]) ?_ (fun D_1_41 => ?_)
   · rintro f w119 ⟨b0', b2', b3', b12', hf, hs119⟩
     obtain ⟨g42, rfl⟩ := has_upd hf
     clear hf
     refine aaL [1, 6] (fa_cons ?_ (fa_one ?_))
     · refine one_ rfl ?_
       refine bsk hs119 sl23 [I 2] [I 2] trivial rfl (fun b1' w120 hs120 => ?_)
       exact nl (kq ⟨_, hs120, memi 1 rfl, trivial⟩ (alc D_1_18 ⟨b0', b1', b2', b3', b12', ⟨rfl, rfl, rfl, rfl, rfl, rfl, rfl, rfl, rfl, trivial⟩, (hs120.pick [0, 1, 2, 6, 3, 4, 5] rfl (by decide))⟩))
     · refine one_ rfl ?_
       refine cl trivial rfl (pick (rb := rb) (Ab := Ab) (cb := cb) (bs := bs) (p := p) (n := 4) (w := _) (hr := (blk_heap hs119 0 rfl)) (hb := (hb.up hs119 (fun _ h => h) (fun _ h => .inl h))) (hbn := (by first | assumption | (simp; omega))) (hp := (by omega))) ?_
       rintro _ w121 ⟨r6', q6', rfl, p188, p189, hs121'⟩
       have hs121 := hs119.callM 0 rfl hs121' (by intro k hk; simp at hk; exact hk.symm)
       clear hs121'
       exact nl (kq ⟨_, hs121, memi 0 rfl, trivial⟩ (alc D_1_25 ⟨b0', b2', b3', r6', q6', b12', ⟨rfl, rfl, rfl, rfl, rfl, rfl, rfl, rfl, trivial⟩, p188, p189, (hs121.pick [5, 0, 1, 2, 3, 4] rfl (by decide))⟩))
   refine dag (fuel' := 8) (listed' := lbits 14 1637) (fun f w' => ∃ (b0' b2' : Nat) (r6' : Int) (q6' : Nat) (Aq10' : Option Addr) (cq10' : Nat) (ak10' : Int) (aq10' : List Int) (an10' : List UInt8) (apt10' : Int) (q10' : Nat), Has f [(0, pb rb), (2, pb b1), (4, sb b0' (([0] : List Int).length) 1), (6, sb b2' (([0, 2] : List Int).length) 2), (10, I r6'), (14, .agg #[I ak10', .slice Aq10' aq10'.length cq10', Str an10', I apt10'])] ∧ (0 ≤ r6' ∧ (r6' < 4 ∨ r6' = 0)) ∧ (q6' ≤ p + 1) ∧ (aq10'.length ≤ 4) ∧ (an10'.length ≤ 21) ∧ (q10' ≤ q6' + 40) ∧ SH w w' [rb] [.blk rb 78 [.slice Ab bs.length cb, I ((q10' : Nat) : Int)], .blk b1 29 [ns, Str [], Str [], I 0, ns, Str [], I 0], oI b0' ([0] : List Int) 1 3, .own Aq10' aq10'.length cq10' 3 1 (aq10'.map I), oI b2' ([0, 2] : List Int) 2 3]) ?_ (fun D_1_42 => ?_)
   · rintro f w122 ⟨b0', b2', r6', q6', Aq10', cq10', ak10', aq10', an10', apt10', q10', hf, p190, p191, p192, p193, p194, hs122⟩
     obtain ⟨g43, rfl⟩ := has_upd hf
     clear hf
     refine aaL [1, 3, 12] (fa_cons ?_ (fa_cons ?_ (fa_one ?_)))
     · refine one_ rfl ?_
       refine bsk hs122 sl23 [I 2] [I 2] trivial rfl (fun b1' w123 hs123 => ?_)
       exact nl (kq ⟨_, hs123, memi 1 rfl, trivial⟩ (alc D_1_19 ⟨b0', b1', b2', r6', q6', Aq10', cq10', ak10', aq10', an10', apt10', q10', ⟨rfl, rfl, rfl, rfl, rfl, rfl, rfl, trivial⟩, p190, p191, p192, p193, p194, (hs123.pick [0, 1, 2, 5, 3, 4] rfl (by decide))⟩))
     · refine one_ rfl ?_
       refine bsk hs122 sl23 [I 2, I 1] [I 2, I 1] trivial rfl (fun b3' w124 hs124 => ?_)
       exact nl (kq ⟨_, hs124, memi 1 rfl, trivial⟩ (alc D_1_24 ⟨b0', b2', b3', r6', q6', Aq10', cq10', ak10', aq10', an10', apt10', q10', ⟨rfl, rfl, rfl, rfl, rfl, rfl, rfl, trivial⟩, p190, p191, p192, p193, p194, hs124⟩))
     · refine one_ rfl ?_
       refine al (v := .agg #[ns, Str [], Str [], I 0, ns, Str [], I 0]) (cs := [ns, Str [], Str [], I 0, ns, Str [], I 0]) hs122 tz29 rfl trivial rfl (fun b12' w125 hs125 => ?_)
       exact nl (kq ⟨_, hs125, memi 1 rfl, trivial⟩ (alc D_1_26 ⟨b0', b2', r6', q6', b12', Aq10', cq10', ak10', aq10', an10', apt10', q10', ⟨rfl, rfl, rfl, rfl, rfl, rfl, rfl, trivial⟩, p190, p191, p192, p193, p194, (hs125.pick [0, 1, 2, 3, 5, 4] rfl (by decide))⟩))
   refine dag (fuel' := 8) (listed' := lbits 14 4709) (fun f w' => ∃ (b0' b2' : Nat) (r6' : Int) (q6' b12' : Nat), Has f [(0, pb rb), (2, pb b1), (3, pb b12'), (4, sb b0' (([0] : List Int).length) 1), (6, sb b2' (([0, 2] : List Int).length) 2), (10, I r6'), (13, pb rb)] ∧ (0 ≤ r6' ∧ (r6' < 4 ∨ r6' = 0)) ∧ (q6' ≤ p + 1) ∧ SH w w' [rb] [.blk rb 78 [.slice Ab bs.length cb, I ((q6' : Nat) : Int)], .blk b1 29 [ns, Str [], Str [], I 0, ns, Str [], I 0], oI b0' ([0] : List Int) 1 3, .blk b12' 29 [ns, Str [], Str [], I 0, ns, Str [], I 0], oI b2' ([0, 2] : List Int) 2 3]) ?_ (fun D_1_43 => ?_)
   · rintro f w126 ⟨b0', b2', r6', q6', b12', hf, p195, p196, hs126⟩
     obtain ⟨g44, rfl⟩ := has_upd hf
     clear hf
     refine aaL [1, 3, 10] (fa_cons ?_ (fa_cons ?_ (fa_one ?_)))
     · refine one_ rfl ?_
       refine bsk hs126 sl23 [I 2] [I 2] trivial rfl (fun b1' w127 hs127 => ?_)
       exact nl (kq ⟨_, hs127, memi 1 rfl, trivial⟩ (alc D_1_20 ⟨b0', b1', b2', r6', q6', b12', ⟨rfl, rfl, rfl, rfl, rfl, rfl, rfl, rfl, trivial⟩, p195, p196, (hs127.pick [0, 1, 2, 5, 3, 4] rfl (by decide))⟩))
     · refine one_ rfl ?_
       refine bsk hs126 sl23 [I 2, I 1] [I 2, I 1] trivial rfl (fun b3' w128 hs128 => ?_)
       exact nl (kq ⟨_, hs128, memi 1 rfl, trivial⟩ (alc D_1_25 ⟨b0', b2', b3', r6', q6', b12', ⟨rfl, rfl, rfl, rfl, rfl, rfl, rfl, rfl, trivial⟩, p195, p196, hs128⟩))
     · refine one_ rfl ?_
       refine cl trivial rfl (l91Address (rb := rb) (Ab := Ab) (cb := cb) (bs := bs) (p := q6') (w := _) (hr := (blk_heap hs126 0 rfl)) (hb := (hb.up hs126 (fun _ h => h) (fun _ h => .inl h))) (hbn := (by first | assumption | (simp; omega))) (hp := (by omega))) ?_
       rintro _ w129 ⟨Aq10', cq10', ak10', aq10', an10', apt10', q10', rfl, p197, p198, p199, hs129'⟩
       have hs129 := hs126.callM 0 rfl hs129' (by intro k hk; simp at hk; exact hk.symm)
       clear hs129'
       exact nl (kq ⟨_, hs129, memi 0 rfl, trivial⟩ (alc D_1_26 ⟨b0', b2', r6', q6', b12', Aq10', cq10', ak10', aq10', an10', apt10', q10', ⟨rfl, rfl, rfl, rfl, rfl, rfl, rfl, trivial⟩, p195, p196, p197, p198, p199, (hs129.pick [4, 0, 1, 5, 2, 3] rfl (by decide))⟩))
   refine dag (fuel' := 8) (listed' := lbits 14 1641) (fun f w' => ∃ (b0' b3' : Nat) (r6' : Int) (q6' : Nat) (Aq10' : Option Addr) (cq10' : Nat) (ak10' : Int) (aq10' : List Int) (an10' : List UInt8) (apt10' : Int) (q10' : Nat), Has f [(0, pb rb), (2, pb b1), (4, sb b0' (([0] : List Int).length) 1), (7, sb b3' (([2, 1] : List Int).length) 2), (10, I r6'), (14, .agg #[I ak10', .slice Aq10' aq10'.length cq10', Str an10', I apt10'])] ∧ (0 ≤ r6' ∧ (r6' < 4 ∨ r6' = 0)) ∧ (q6' ≤ p + 1) ∧ (aq10'.length ≤ 4) ∧ (an10'.length ≤ 21) ∧ (q10' ≤ q6' + 40) ∧ SH w w' [rb] [.blk rb 78 [.slice Ab bs.length cb, I ((q10' : Nat) : Int)], .blk b1 29 [ns, Str [], Str [], I 0, ns, Str [], I 0], oI b0' ([0] : List Int) 1 3, .own Aq10' aq10'.length cq10' 3 1 (aq10'.map I), oI b3' ([2, 1] : List Int) 2 3]) ?_ (fun D_1_44 => ?_)
   · rintro f w130 ⟨b0', b3', r6', q6', Aq10', cq10', ak10', aq10', an10', apt10', q10', hf, p200, p201, p202, p203, p204, hs130⟩
     obtain ⟨g45, rfl⟩ := has_upd hf
     clear hf
     refine aaL [1, 2, 12] (fa_cons ?_ (fa_cons ?_ (fa_one ?_)))
     · refine one_ rfl ?_
       refine bsk hs130 sl23 [I 2] [I 2] trivial rfl (fun b1' w131 hs131 => ?_)
       exact nl (kq ⟨_, hs131, memi 1 rfl, trivial⟩ (alc D_1_21 ⟨b0', b1', b3', r6', q6', Aq10', cq10', ak10', aq10', an10', apt10', q10', ⟨rfl, rfl, rfl, rfl, rfl, rfl, rfl, trivial⟩, p200, p201, p202, p203, p204, (hs131.pick [0, 1, 2, 5, 3, 4] rfl (by decide))⟩))
     · refine one_ rfl ?_
       refine bsk hs130 sl23 [I 0, I 2] [I 0, I 2] trivial rfl (fun b2' w132 hs132 => ?_)
       exact nl (kq ⟨_, hs132, memi 1 rfl, trivial⟩ (alc D_1_24 ⟨b0', b2', b3', r6', q6', Aq10', cq10', ak10', aq10', an10', apt10', q10', ⟨rfl, rfl, rfl, rfl, rfl, rfl, rfl, trivial⟩, p200, p201, p202, p203, p204, (hs132.pick [0, 1, 2, 3, 5, 4] rfl (by decide))⟩))
     · refine one_ rfl ?_
       refine al (v := .agg #[ns, Str [], Str [], I 0, ns, Str [], I 0]) (cs := [ns, Str [], Str [], I 0, ns, Str [], I 0]) hs130 tz29 rfl trivial rfl (fun b12' w133 hs133 => ?_)
       exact nl (kq ⟨_, hs133, memi 1 rfl, trivial⟩ (alc D_1_27 ⟨b0', b3', r6', q6', b12', Aq10', cq10', ak10', aq10', an10', apt10', q10', ⟨rfl, rfl, rfl, rfl, rfl, rfl, rfl, trivial⟩, p200, p201, p202, p203, p204, (hs133.pick [0, 1, 2, 3, 5, 4] rfl (by decide))⟩))
   refine dag (fuel' := 8) (listed' := lbits 14 4713) (fun f w' => ∃ (b0' b3' : Nat) (r6' : Int) (q6' b12' : Nat), Has f [(0, pb rb), (2, pb b1), (3, pb b12'), (4, sb b0' (([0] : List Int).length) 1), (7, sb b3' (([2, 1] : List Int).length) 2), (10, I r6'), (13, pb rb)] ∧ (0 ≤ r6' ∧ (r6' < 4 ∨ r6' = 0)) ∧ (q6' ≤ p + 1) ∧ SH w w' [rb] [.blk rb 78 [.slice Ab bs.length cb, I ((q6' : Nat) : Int)], .blk b1 29 [ns, Str [], Str [], I 0, ns, Str [], I 0], oI b0' ([0] : List Int) 1 3, .blk b12' 29 [ns, Str [], Str [], I 0, ns, Str [], I 0], oI b3' ([2, 1] : List Int) 2 3]) ?_ (fun D_1_45 => ?_)
   · rintro f w134 ⟨b0', b3', r6', q6', b12', hf, p205, p206, hs134⟩
     obtain ⟨g46, rfl⟩ := has_upd hf
     clear hf
     refine aaL [1, 2, 10] (fa_cons ?_ (fa_cons ?_ (fa_one ?_)))
     · refine one_ rfl ?_
       refine bsk hs134 sl23 [I 2] [I 2] trivial rfl (fun b1' w135 hs135 => ?_)
       exact nl (kq ⟨_, hs135, memi 1 rfl, trivial⟩ (alc D_1_22 ⟨b0', b1', b3', r6', q6', b12', ⟨rfl, rfl, rfl, rfl, rfl, rfl, rfl, rfl, trivial⟩, p205, p206, (hs135.pick [0, 1, 2, 5, 3, 4] rfl (by decide))⟩))
     · refine one_ rfl ?_
       refine bsk hs134 sl23 [I 0, I 2] [I 0, I 2] trivial rfl (fun b2' w136 hs136 => ?_)
       exact nl (kq ⟨_, hs136, memi 1 rfl, trivial⟩ (alc D_1_25 ⟨b0', b2', b3', r6', q6', b12', ⟨rfl, rfl, rfl, rfl, rfl, rfl, rfl, rfl, trivial⟩, p205, p206, (hs136.pick [0, 1, 2, 3, 5, 4] rfl (by decide))⟩))
     · refine one_ rfl ?_
       refine cl trivial rfl (l91Address (rb := rb) (Ab := Ab) (cb := cb) (bs := bs) (p := q6') (w := _) (hr := (blk_heap hs134 0 rfl)) (hb := (hb.up hs134 (fun _ h => h) (fun _ h => .inl h))) (hbn := (by first | assumption | (simp; omega))) (hp := (by omega))) ?_
       rintro _ w137 ⟨Aq10', cq10', ak10', aq10', an10', apt10', q10', rfl, p207, p208, p209, hs137'⟩
       have hs137 := hs134.callM 0 rfl hs137' (by intro k hk; simp at hk; exact hk.symm)
       clear hs137'
       exact nl (kq ⟨_, hs137, memi 0 rfl, trivial⟩ (alc D_1_27 ⟨b0', b3', r6', q6', b12', Aq10', cq10', ak10', aq10', an10', apt10', q10', ⟨rfl, rfl, rfl, rfl, rfl, rfl, rfl, trivial⟩, p205, p206, p207, p208, p209, (hs137.pick [4, 0, 1, 5, 2, 3] rfl (by decide))⟩))
   refine dag (fuel' := 8) (listed' := lbits 14 5729) (fun f w' => ∃ (b0' : Nat) (r6' : Int) (q6' b12' : Nat) (Aq10' : Option Addr) (cq10' : Nat) (ak10' : Int) (aq10' : List Int) (an10' : List UInt8) (apt10' : Int) (q10' : Nat), Has f [(0, pb rb), (2, pb b1), (3, pb b12'), (4, sb b0' (([0] : List Int).length) 1), (10, I r6'), (14, .agg #[I ak10', .slice Aq10' aq10'.length cq10', Str an10', I apt10'])] ∧ (0 ≤ r6' ∧ (r6' < 4 ∨ r6' = 0)) ∧ (q6' ≤ p + 1) ∧ (aq10'.length ≤ 4) ∧ (an10'.length ≤ 21) ∧ (q10' ≤ q6' + 40) ∧ SH w w' [rb] [.blk rb 78 [.slice Ab bs.length cb, I ((q10' : Nat) : Int)], .blk b1 29 [ns, Str [], Str [], I 0, ns, Str [], I 0], oI b0' ([0] : List Int) 1 3, .own Aq10' aq10'.length cq10' 3 1 (aq10'.map I), .blk b12' 29 [ns, Str [], Str [], I 0, ns, Str [], I 0]]) ?_ (fun D_1_46 => ?_)
   · rintro f w138 ⟨b0', r6', q6', b12', Aq10', cq10', ak10', aq10', an10', apt10', q10', hf, p210, p211, p212, p213, p214, hs138⟩
     obtain ⟨g47, rfl⟩ := has_upd hf
     clear hf
     refine aaL [1, 2, 3] (fa_cons ?_ (fa_cons ?_ (fa_one ?_)))
     · refine one_ rfl ?_
       refine bsk hs138 sl23 [I 2] [I 2] trivial rfl (fun b1' w139 hs139 => ?_)
       exact nl (kq ⟨_, hs139, memi 1 rfl, trivial⟩ (alc D_1_23 ⟨b0', b1', r6', q6', b12', Aq10', cq10', ak10', aq10', an10', apt10', q10', ⟨rfl, rfl, rfl, rfl, rfl, rfl, rfl, trivial⟩, p210, p211, p212, p213, p214, (hs139.pick [0, 1, 2, 5, 3, 4] rfl (by decide))⟩))
     · refine one_ rfl ?_
       refine bsk hs138 sl23 [I 0, I 2] [I 0, I 2] trivial rfl (fun b2' w140 hs140 => ?_)
       exact nl (kq ⟨_, hs140, memi 1 rfl, trivial⟩ (alc D_1_26 ⟨b0', b2', r6', q6', b12', Aq10', cq10', ak10', aq10', an10', apt10', q10', ⟨rfl, rfl, rfl, rfl, rfl, rfl, rfl, trivial⟩, p210, p211, p212, p213, p214, hs140⟩))
     · refine one_ rfl ?_
       refine bsk hs138 sl23 [I 2, I 1] [I 2, I 1] trivial rfl (fun b3' w141 hs141 => ?_)
       exact nl (kq ⟨_, hs141, memi 1 rfl, trivial⟩ (alc D_1_27 ⟨b0', b3', r6', q6', b12', Aq10', cq10', ak10', aq10', an10', apt10', q10', ⟨rfl, rfl, rfl, rfl, rfl, rfl, rfl, trivial⟩, p210, p211, p212, p213, p214, hs141⟩))
   refine dag (fuel' := 8) (listed' := lbits 14 622) (fun f w' => ∃ (b1' b2' b3' : Nat) (r6' : Int) (q6' : Nat), Has f [(0, pb rb), (2, pb b1), (5, sb b1' (([2] : List Int).length) 1), (6, sb b2' (([0, 2] : List Int).length) 2), (7, sb b3' (([2, 1] : List Int).length) 2), (10, I r6'), (13, pb rb)] ∧ (0 ≤ r6' ∧ (r6' < 4 ∨ r6' = 0)) ∧ (q6' ≤ p + 1) ∧ SH w w' [rb] [.blk rb 78 [.slice Ab bs.length cb, I ((q6' : Nat) : Int)], .blk b1 29 [ns, Str [], Str [], I 0, ns, Str [], I 0], oI b1' ([2] : List Int) 1 3, oI b2' ([0, 2] : List Int) 2 3, oI b3' ([2, 1] : List Int) 2 3]) ?_ (fun D_1_47 => ?_)
   · rintro f w142 ⟨b1', b2', b3', r6', q6', hf, p215, p216, hs142⟩
     obtain ⟨g48, rfl⟩ := has_upd hf
     clear hf
     refine aaL [0, 10, 12] (fa_cons ?_ (fa_cons ?_ (fa_one ?_)))
     · refine one_ rfl ?_
       refine bsk hs142 sl23 [I 0] [I 0] trivial rfl (fun b0' w143 hs143 => ?_)
       exact nl (kq ⟨_, hs143, memi 1 rfl, trivial⟩ (alc D_1_17 ⟨b0', b1', b2', b3', r6', q6', ⟨rfl, rfl, rfl, rfl, rfl, rfl, rfl, rfl, trivial⟩, p215, p216, (hs143.pick [0, 1, 5, 2, 3, 4] rfl (by decide))⟩))
     · refine one_ rfl ?_
       refine cl trivial rfl (l91Address (rb := rb) (Ab := Ab) (cb := cb) (bs := bs) (p := q6') (w := _) (hr := (blk_heap hs142 0 rfl)) (hb := (hb.up hs142 (fun _ h => h) (fun _ h => .inl h))) (hbn := (by first | assumption | (simp; omega))) (hp := (by omega))) ?_
       rintro _ w144 ⟨Aq10', cq10', ak10', aq10', an10', apt10', q10', rfl, p217, p218, p219, hs144'⟩
       have hs144 := hs142.callM 0 rfl hs144' (by intro k hk; simp at hk; exact hk.symm)
       clear hs144'
       exact nl (kq ⟨_, hs144, memi 0 rfl, trivial⟩ (alc D_1_28 ⟨b1', b2', b3', r6', q6', Aq10', cq10', ak10', aq10', an10', apt10', q10', ⟨rfl, rfl, rfl, rfl, rfl, rfl, rfl, trivial⟩, p215, p216, p217, p218, p219, (hs144.pick [4, 0, 1, 5, 2, 3] rfl (by decide))⟩))
     · refine one_ rfl ?_
       refine al (v := .agg #[ns, Str [], Str [], I 0, ns, Str [], I 0]) (cs := [ns, Str [], Str [], I 0, ns, Str [], I 0]) hs142 tz29 rfl trivial rfl (fun b12' w145 hs145 => ?_)
       exact nl (kq ⟨_, hs145, memi 1 rfl, trivial⟩ (alc D_1_29 ⟨b1', b2', b3', r6', q6', b12', ⟨rfl, rfl, rfl, rfl, rfl, rfl, rfl, rfl, trivial⟩, p215, p216, (hs145.pick [0, 1, 2, 5, 3, 4] rfl (by decide))⟩))
   refine dag (fuel' := 8) (listed' := lbits 14 4654) (fun f w' => ∃ (b1' b2' b3' b12' : Nat), Has f [(0, pb rb), (2, pb b1), (3, pb b12'), (5, sb b1' (([2] : List Int).length) 1), (6, sb b2' (([0, 2] : List Int).length) 2), (7, sb b3' (([2, 1] : List Int).length) 2), (9, pb rb), (13, pb rb)] ∧ SH w w' [rb] [.blk rb 78 [.slice Ab bs.length cb, I ((p : Nat) : Int)], .blk b1 29 [ns, Str [], Str [], I 0, ns, Str [], I 0], oI b1' ([2] : List Int) 1 3, .blk b12' 29 [ns, Str [], Str [], I 0, ns, Str [], I 0], oI b2' ([0, 2] : List Int) 2 3, oI b3' ([2, 1] : List Int) 2 3]) ?_ (fun D_1_48 => ?_)
   · rintro f w146 ⟨b1', b2', b3', b12', hf, hs146⟩
     obtain ⟨g49, rfl⟩ := has_upd hf
     clear hf
     refine aaL [0, 6] (fa_cons ?_ (fa_one ?_))
     · refine one_ rfl ?_
       refine bsk hs146 sl23 [I 0] [I 0] trivial rfl (fun b0' w147 hs147 => ?_)
       exact nl (kq ⟨_, hs147, memi 1 rfl, trivial⟩ (alc D_1_18 ⟨b0', b1', b2', b3', b12', ⟨rfl, rfl, rfl, rfl, rfl, rfl, rfl, rfl, rfl, trivial⟩, (hs147.pick [0, 1, 6, 2, 3, 4, 5] rfl (by decide))⟩))
     · refine one_ rfl ?_
       refine cl trivial rfl (pick (rb := rb) (Ab := Ab) (cb := cb) (bs := bs) (p := p) (n := 4) (w := _) (hr := (blk_heap hs146 0 rfl)) (hb := (hb.up hs146 (fun _ h => h) (fun _ h => .inl h))) (hbn := (by first | assumption | (simp; omega))) (hp := (by omega))) ?_
       rintro _ w148 ⟨r6', q6', rfl, p220, p221, hs148'⟩
       have hs148 := hs146.callM 0 rfl hs148' (by intro k hk; simp at hk; exact hk.symm)
       clear hs148'
       exact nl (kq ⟨_, hs148, memi 0 rfl, trivial⟩ (alc D_1_29 ⟨b1', b2', b3', r6', q6', b12', ⟨rfl, rfl, rfl, rfl, rfl, rfl, rfl, rfl, trivial⟩, p220, p221, (hs148.pick [5, 0, 1, 2, 3, 4] rfl (by decide))⟩))
   refine dag (fuel' := 8) (listed' := lbits 14 1638) (fun f w' => ∃ (b1' b2' : Nat) (r6' : Int) (q6' : Nat) (Aq10' : Option Addr) (cq10' : Nat) (ak10' : Int) (aq10' : List Int) (an10' : List UInt8) (apt10' : Int) (q10' : Nat), Has f [(0, pb rb), (2, pb b1), (5, sb b1' (([2] : List Int).length) 1), (6, sb b2' (([0, 2] : List Int).length) 2), (10, I r6'), (14, .agg #[I ak10', .slice Aq10' aq10'.length cq10', Str an10', I apt10'])] ∧ (0 ≤ r6' ∧ (r6' < 4 ∨ r6' = 0)) ∧ (q6' ≤ p + 1) ∧ (aq10'.length ≤ 4) ∧ (an10'.length ≤ 21) ∧ (q10' ≤ q6' + 40) ∧ SH w w' [rb] [.blk rb 78 [.slice Ab bs.length cb, I ((q10' : Nat) : Int)], .blk b1 29 [ns, Str [], Str [], I 0, ns, Str [], I 0], oI b1' ([2] : List Int) 1 3, .own Aq10' aq10'.length cq10' 3 1 (aq10'.map I), oI b2' ([0, 2] : List Int) 2 3]) ?_ (fun D_1_49 => ?_)
   · rintro f w149 ⟨b1', b2', r6', q6', Aq10', cq10', ak10', aq10', an10', apt10', q10', hf, p222, p223, p224, p225, p226, hs149⟩
     obtain ⟨g50, rfl⟩ := has_upd hf
     clear hf
     refine aaL [0, 3, 12] (fa_cons ?_ (fa_cons ?_ (fa_one ?_)))
     · refine one_ rfl ?_
       refine bsk hs149 sl23 [I 0] [I 0] trivial rfl (fun b0' w150 hs150 => ?_)
       exact nl (kq ⟨_, hs150, memi 1 rfl, trivial⟩ (alc D_1_19 ⟨b0', b1', b2', r6', q6', Aq10', cq10', ak10', aq10', an10', apt10', q10', ⟨rfl, rfl, rfl, rfl, rfl, rfl, rfl, trivial⟩, p222, p223, p224, p225, p226, (hs150.pick [0, 1, 5, 2, 3, 4] rfl (by decide))⟩))
     · refine one_ rfl ?_
       refine bsk hs149 sl23 [I 2, I 1] [I 2, I 1] trivial rfl (fun b3' w151 hs151 => ?_)
       exact nl (kq ⟨_, hs151, memi 1 rfl, trivial⟩ (alc D_1_28 ⟨b1', b2', b3', r6', q6', Aq10', cq10', ak10', aq10', an10', apt10', q10', ⟨rfl, rfl, rfl, rfl, rfl, rfl, rfl, trivial⟩, p222, p223, p224, p225, p226, hs151⟩))
     · refine one_ rfl ?_
       refine al (v := .agg #[ns, Str [], Str [], I 0, ns, Str [], I 0]) (cs := [ns, Str [], Str [], I 0, ns, Str [], I 0]) hs149 tz29 rfl trivial rfl (fun b12' w152 hs152 => ?_)
       exact nl (kq ⟨_, hs152, memi 1 rfl, trivial⟩ (alc D_1_30 ⟨b1', b2', r6', q6', b12', Aq10', cq10', ak10', aq10', an10', apt10', q10', ⟨rfl, rfl, rfl, rfl, rfl, rfl, rfl, trivial⟩, p222, p223, p224, p225, p226, (hs152.pick [0, 1, 2, 3, 5, 4] rfl (by decide))⟩))
   refine dag (fuel' := 8) (listed' := lbits 14 4710) (fun f w' => ∃ (b1' b2' : Nat) (r6' : Int) (q6' b12' : Nat), Has f [(0, pb rb), (2, pb b1), (3, pb b12'), (5, sb b1' (([2] : List Int).length) 1), (6, sb b2' (([0, 2] : List Int).length) 2), (10, I r6'), (13, pb rb)] ∧ (0 ≤ r6' ∧ (r6' < 4 ∨ r6' = 0)) ∧ (q6' ≤ p + 1) ∧ SH w w' [rb] [.blk rb 78 [.slice Ab bs.length cb, I ((q6' : Nat) : Int)], .blk b1 29 [ns, Str [], Str [], I 0, ns, Str [], I 0], oI b1' ([2] : List Int) 1 3, .blk b12' 29 [ns, Str [], Str [], I 0, ns, Str [], I 0], oI b2' ([0, 2] : List Int) 2 3]) ?_ (fun D_1_50 => ?_)
   · rintro f w153 ⟨b1', b2', r6', q6', b12', hf, p227, p228, hs153⟩
     obtain ⟨g51, rfl⟩ := has_upd hf
     clear hf
     refine aaL [0, 3, 10] (fa_cons ?_ (fa_cons ?_ (fa_one ?_)))
     · refine one_ rfl ?_
       refine bsk hs153 sl23 [I 0] [I 0] trivial rfl (fun b0' w154 hs154 => ?_)
       exact nl (kq ⟨_, hs154, memi 1 rfl, trivial⟩ (alc D_1_20 ⟨b0', b1', b2', r6', q6', b12', ⟨rfl, rfl, rfl, rfl, rfl, rfl, rfl, rfl, trivial⟩, p227, p228, (hs154.pick [0, 1, 5, 2, 3, 4] rfl (by decide))⟩))
     · refine one_ rfl ?_
       refine bsk hs153 sl23 [I 2, I 1] [I 2, I 1] trivial rfl (fun b3' w155 hs155 => ?_)
       exact nl (kq ⟨_, hs155, memi 1 rfl, trivial⟩ (alc D_1_29 ⟨b1', b2', b3', r6', q6', b12', ⟨rfl, rfl, rfl, rfl, rfl, rfl, rfl, rfl, trivial⟩, p227, p228, hs155⟩))
     · refine one_ rfl ?_
       refine cl trivial rfl (l91Address (rb := rb) (Ab := Ab) (cb := cb) (bs := bs) (p := q6') (w := _) (hr := (blk_heap hs153 0 rfl)) (hb := (hb.up hs153 (fun _ h => h) (fun _ h => .inl h))) (hbn := (by first | assumption | (simp; omega))) (hp := (by omega))) ?_
       rintro _ w156 ⟨Aq10', cq10', ak10', aq10', an10', apt10', q10', rfl, p229, p230, p231, hs156'⟩
       have hs156 := hs153.callM 0 rfl hs156' (by intro k hk; simp at hk; exact hk.symm)
       clear hs156'
       exact nl (kq ⟨_, hs156, memi 0 rfl, trivial⟩ (alc D_1_30 ⟨b1', b2', r6', q6', b12', Aq10', cq10', ak10', aq10', an10', apt10', q10', ⟨rfl, rfl, rfl, rfl, rfl, rfl, rfl, trivial⟩, p227, p228, p229, p230, p231, (hs156.pick [4, 0, 1, 5, 2, 3] rfl (by decide))⟩))
   refine dag (fuel' := 8) (listed' := lbits 14 1642) (fun f w' => ∃ (b1' b3' : Nat) (r6' : Int) (q6' : Nat) (Aq10' : Option Addr) (cq10' : Nat) (ak10' : Int) (aq10' : List Int) (an10' : List UInt8) (apt10' : Int) (q10' : Nat), Has f [(0, pb rb), (2, pb b1), (5, sb b1' (([2] : List Int).length) 1), (7, sb b3' (([2, 1] : List Int).length) 2), (10, I r6'), (14, .agg #[I ak10', .slice Aq10' aq10'.length cq10', Str an10', I apt10'])] ∧ (0 ≤ r6' ∧ (r6' < 4 ∨ r6' = 0)) ∧ (q6' ≤ p + 1) ∧ (aq10'.length ≤ 4) ∧ (an10'.length ≤ 21) ∧ (q10' ≤ q6' + 40) ∧ SH w w' [rb] [.blk rb 78 [.slice Ab bs.length cb, I ((q10' : Nat) : Int)], .blk b1 29 [ns, Str [], Str [], I 0, ns, Str [], I 0], oI b1' ([2] : List Int) 1 3, .own Aq10' aq10'.length cq10' 3 1 (aq10'.map I), oI b3' ([2, 1] : List Int) 2 3]) ?_ (fun D_1_51 => ?_)
   · rintro f w157 ⟨b1', b3', r6', q6', Aq10', cq10', ak10', aq10', an10', apt10', q10', hf, p232, p233, p234, p235, p236, hs157⟩
     obtain ⟨g52, rfl⟩ := has_upd hf
     clear hf
     refine aaL [0, 2, 12] (fa_cons ?_ (fa_cons ?_ (fa_one ?_)))
     · refine one_ rfl ?_
       refine bsk hs157 sl23 [I 0] [I 0] trivial rfl (fun b0' w158 hs158 => ?_)
       exact nl (kq ⟨_, hs158, memi 1 rfl, trivial⟩ (alc D_1_21 ⟨b0', b1', b3', r6', q6', Aq10', cq10', ak10', aq10', an10', apt10', q10', ⟨rfl, rfl, rfl, rfl, rfl, rfl, rfl, trivial⟩, p232, p233, p234, p235, p236, (hs158.pick [0, 1, 5, 2, 3, 4] rfl (by decide))⟩))
     · refine one_ rfl ?_
       refine bsk hs157 sl23 [I 0, I 2] [I 0, I 2] trivial rfl (fun b2' w159 hs159 => ?_)
       exact nl (kq ⟨_, hs159, memi 1 rfl, trivial⟩ (alc D_1_28 ⟨b1', b2', b3', r6', q6', Aq10', cq10', ak10', aq10', an10', apt10', q10', ⟨rfl, rfl, rfl, rfl, rfl, rfl, rfl, trivial⟩, p232, p233, p234, p235, p236, (hs159.pick [0, 1, 2, 3, 5, 4] rfl (by decide))⟩))
     · refine one_ rfl ?_
       refine al (v := .agg #[ns, Str [], Str [], I 0, ns, Str [], I 0]) (cs := [ns, Str [], Str [], I 0, ns, Str [], I 0]) hs157 tz29 rfl trivial rfl (fun b12' w160 hs160 => ?_)
       exact nl (kq ⟨_, hs160, memi 1 rfl, trivial⟩ (alc D_1_31 ⟨b1', b3', r6', q6', b12', Aq10', cq10', ak10', aq10', an10', apt10', q10', ⟨rfl, rfl, rfl, rfl, rfl, rfl, rfl, trivial⟩, p232, p233, p234, p235, p236, (hs160.pick [0, 1, 2, 3, 5, 4] rfl (by decide))⟩))
   refine dag (fuel' := 8) (listed' := lbits 14 4714) (fun f w' => ∃ (b1' b3' : Nat) (r6' : Int) (q6' b12' : Nat), Has f [(0, pb rb), (2, pb b1), (3, pb b12'), (5, sb b1' (([2] : List Int).length) 1), (7, sb b3' (([2, 1] : List Int).length) 2), (10, I r6'), (13, pb rb)] ∧ (0 ≤ r6' ∧ (r6' < 4 ∨ r6' = 0)) ∧ (q6' ≤ p + 1) ∧ SH w w' [rb] [.blk rb 78 [.slice Ab bs.length cb, I ((q6' : Nat) : Int)], .blk b1 29 [ns, Str [], Str [], I 0, ns, Str [], I 0], oI b1' ([2] : List Int) 1 3, .blk b12' 29 [ns, Str [], Str [], I 0, ns, Str [], I 0], oI b3' ([2, 1] : List Int) 2 3]) ?_ (fun D_1_52 => ?_)
   · rintro f w161 ⟨b1', b3', r6', q6', b12', hf, p237, p238, hs161⟩
     obtain ⟨g53, rfl⟩ := has_upd hf
     clear hf
     refine aaL [0, 2, 10] (fa_cons ?_ (fa_cons ?_ (fa_one ?_)))
     · refine one_ rfl ?_
       refine bsk hs161 sl23 [I 0] [I 0] trivial rfl (fun b0' w162 hs162 => ?_)
       exact nl (kq ⟨_, hs162, memi 1 rfl, trivial⟩ (alc D_1_22 ⟨b0', b1', b3', r6', q6', b12', ⟨rfl, rfl, rfl, rfl, rfl, rfl, rfl, rfl, trivial⟩, p237, p238, (hs162.pick [0, 1, 5, 2, 3, 4] rfl (by decide))⟩))
     · refine one_ rfl ?_
       refine bsk hs161 sl23 [I 0, I 2] [I 0, I 2] trivial rfl (fun b2' w163 hs163 => ?_)
       exact nl (kq ⟨_, hs163, memi 1 rfl, trivial⟩ (alc D_1_29 ⟨b1', b2', b3', r6', q6', b12', ⟨rfl, rfl, rfl, rfl, rfl, rfl, rfl, rfl, trivial⟩, p237, p238, (hs163.pick [0, 1, 2, 3, 5, 4] rfl (by decide))⟩))
     · refine one_ rfl ?_
       refine cl trivial rfl (l91Address (rb := rb) (Ab := Ab) (cb := cb) (bs := bs) (p := q6') (w := _) (hr := (blk_heap hs161 0 rfl)) (hb := (hb.up hs161 (fun _ h => h) (fun _ h => .inl h))) (hbn := (by first | assumption | (simp; omega))) (hp := (by omega))) ?_
       rintro _ w164 ⟨Aq10', cq10', ak10', aq10', an10', apt10', q10', rfl, p239, p240, p241, hs164'⟩
       have hs164 := hs161.callM 0 rfl hs164' (by intro k hk; simp at hk; exact hk.symm)
       clear hs164'
       exact nl (kq ⟨_, hs164, memi 0 rfl, trivial⟩ (alc D_1_31 ⟨b1', b3', r6', q6', b12', Aq10', cq10', ak10', aq10', an10', apt10', q10', ⟨rfl, rfl, rfl, rfl, rfl, rfl, rfl, trivial⟩, p237, p238, p239, p240, p241, (hs164.pick [4, 0, 1, 5, 2, 3] rfl (by decide))⟩))
   refine dag (fuel' := 8) (listed' := lbits 14 5730) (fun f w' => ∃ (b1' : Nat) (r6' : Int) (q6' b12' : Nat) (Aq10' : Option Addr) (cq10' : Nat) (ak10' : Int) (aq10' : List Int) (an10' : List UInt8) (apt10' : Int) (q10' : Nat), Has f [(0, pb rb), (2, pb b1), (3, pb b12'), (5, sb b1' (([2] : List Int).length) 1), (10, I r6'), (14, .agg #[I ak10', .slice Aq10' aq10'.length cq10', Str an10', I apt10'])] ∧ (0 ≤ r6' ∧ (r6' < 4 ∨ r6' = 0)) ∧ (q6' ≤ p + 1) ∧ (aq10'.length ≤ 4) ∧ (an10'.length ≤ 21) ∧ (q10' ≤ q6' + 40) ∧ SH w w' [rb] [.blk rb 78 [.slice Ab bs.length cb, I ((q10' : Nat) : Int)], .blk b1 29 [ns, Str [], Str [], I 0, ns, Str [], I 0], oI b1' ([2] : List Int) 1 3, .own Aq10' aq10'.length cq10' 3 1 (aq10'.map I), .blk b12' 29 [ns, Str [], Str [], I 0, ns, Str [], I 0]]) ?_ (fun D_1_53 => ?_)
   · rintro f w165 ⟨b1', r6', q6', b12', Aq10', cq10', ak10', aq10', an10', apt10', q10', hf, p242, p243, p244, p245, p246, hs165⟩
     obtain ⟨g54, rfl⟩ := has_upd hf
     clear hf
     refine aaL [0, 2, 3] (fa_cons ?_ (fa_cons ?_ (fa_one ?_)))
     · refine one_ rfl ?_
       refine bsk hs165 sl23 [I 0] [I 0] trivial rfl (fun b0' w166 hs166 => ?_)
       exact nl (kq ⟨_, hs166, memi 1 rfl, trivial⟩ (alc D_1_23 ⟨b0', b1', r6', q6', b12', Aq10', cq10', ak10', aq10', an10', apt10', q10', ⟨rfl, rfl, rfl, rfl, rfl, rfl, rfl, trivial⟩, p242, p243, p244, p245, p246, (hs166.pick [0, 1, 5, 2, 3, 4] rfl (by decide))⟩))
     · refine one_ rfl ?_
       refine bsk hs165 sl23 [I 0, I 2] [I 0, I 2] trivial rfl (fun b2' w167 hs167 => ?_)
       exact nl (kq ⟨_, hs167, memi 1 rfl, trivial⟩ (alc D_1_30 ⟨b1', b2', r6', q6', b12', Aq10', cq10', ak10', aq10', an10', apt10', q10', ⟨rfl, rfl, rfl, rfl, rfl, rfl, rfl, trivial⟩, p242, p243, p244, p245, p246, hs167⟩))
     · refine one_ rfl ?_
       refine bsk hs165 sl23 [I 2, I 1] [I 2, I 1] trivial rfl (fun b3' w168 hs168 => ?_)
       exact nl (kq ⟨_, hs168, memi 1 rfl, trivial⟩ (alc D_1_31 ⟨b1', b3', r6', q6', b12', Aq10', cq10', ak10', aq10', an10', apt10', q10', ⟨rfl, rfl, rfl, rfl, rfl, rfl, rfl, trivial⟩, p242, p243, p244, p245, p246, hs168⟩))
   refine dag (fuel' := 8) (listed' := lbits 14 1644) (fun f w' => ∃ (b2' b3' : Nat) (r6' : Int) (q6' : Nat) (Aq10' : Option Addr) (cq10' : Nat) (ak10' : Int) (aq10' : List Int) (an10' : List UInt8) (apt10' : Int) (q10' : Nat), Has f [(0, pb rb), (2, pb b1), (6, sb b2' (([0, 2] : List Int).length) 2), (7, sb b3' (([2, 1] : List Int).length) 2), (10, I r6'), (14, .agg #[I ak10', .slice Aq10' aq10'.length cq10', Str an10', I apt10'])] ∧ (0 ≤ r6' ∧ (r6' < 4 ∨ r6' = 0)) ∧ (q6' ≤ p + 1) ∧ (aq10'.length ≤ 4) ∧ (an10'.length ≤ 21) ∧ (q10' ≤ q6' + 40) ∧ SH w w' [rb] [.blk rb 78 [.slice Ab bs.length cb, I ((q10' : Nat) : Int)], .blk b1 29 [ns, Str [], Str [], I 0, ns, Str [], I 0], .own Aq10' aq10'.length cq10' 3 1 (aq10'.map I), oI b2' ([0, 2] : List Int) 2 3, oI b3' ([2, 1] : List Int) 2 3]) ?_ (fun D_1_54 => ?_)
   · rintro f w169 ⟨b2', b3', r6', q6', Aq10', cq10', ak10', aq10', an10', apt10', q10', hf, p247, p248, p249, p250, p251, hs169⟩
     obtain ⟨g55, rfl⟩ := has_upd hf
     clear hf
     refine aaL [0, 1, 12] (fa_cons ?_ (fa_cons ?_ (fa_one ?_)))
     · refine one_ rfl ?_
       refine bsk hs169 sl23 [I 0] [I 0] trivial rfl (fun b0' w170 hs170 => ?_)
       exact nl (kq ⟨_, hs170, memi 1 rfl, trivial⟩ (alc D_1_24 ⟨b0', b2', b3', r6', q6', Aq10', cq10', ak10', aq10', an10', apt10', q10', ⟨rfl, rfl, rfl, rfl, rfl, rfl, rfl, trivial⟩, p247, p248, p249, p250, p251, (hs170.pick [0, 1, 5, 2, 3, 4] rfl (by decide))⟩))
     · refine one_ rfl ?_
       refine bsk hs169 sl23 [I 2] [I 2] trivial rfl (fun b1' w171 hs171 => ?_)
       exact nl (kq ⟨_, hs171, memi 1 rfl, trivial⟩ (alc D_1_28 ⟨b1', b2', b3', r6', q6', Aq10', cq10', ak10', aq10', an10', apt10', q10', ⟨rfl, rfl, rfl, rfl, rfl, rfl, rfl, trivial⟩, p247, p248, p249, p250, p251, (hs171.pick [0, 1, 5, 2, 3, 4] rfl (by decide))⟩))
     · refine one_ rfl ?_
       refine al (v := .agg #[ns, Str [], Str [], I 0, ns, Str [], I 0]) (cs := [ns, Str [], Str [], I 0, ns, Str [], I 0]) hs169 tz29 rfl trivial rfl (fun b12' w172 hs172 => ?_)
       exact nl (kq ⟨_, hs172, memi 1 rfl, trivial⟩ (alc D_1_32 ⟨b2', b3', r6', q6', b12', Aq10', cq10', ak10', aq10', an10', apt10', q10', ⟨rfl, rfl, rfl, rfl, rfl, rfl, rfl, trivial⟩, p247, p248, p249, p250, p251, (hs172.pick [0, 1, 2, 5, 3, 4] rfl (by decide))⟩))
   refine dag (fuel' := 8) (listed' := lbits 14 4716) (fun f w' => ∃ (b2' b3' : Nat) (r6' : Int) (q6' b12' : Nat), Has f [(0, pb rb), (2, pb b1), (3, pb b12'), (6, sb b2' (([0, 2] : List Int).length) 2), (7, sb b3' (([2, 1] : List Int).length) 2), (10, I r6'), (13, pb rb)] ∧ (0 ≤ r6' ∧ (r6' < 4 ∨ r6' = 0)) ∧ (q6' ≤ p + 1) ∧ SH w w' [rb] [.blk rb 78 [.slice Ab bs.length cb, I ((q6' : Nat) : Int)], .blk b1 29 [ns, Str [], Str [], I 0, ns, Str [], I 0], .blk b12' 29 [ns, Str [], Str [], I 0, ns, Str [], I 0], oI b2' ([0, 2] : List Int) 2 3, oI b3' ([2, 1] : List Int) 2 3]) ?_ (fun D_1_55 => ?_)
   · rintro f w173 ⟨b2', b3', r6', q6', b12', hf, p252, p253, hs173⟩
     obtain ⟨g56, rfl⟩ := has_upd hf
     clear hf
     refine aaL [0, 1, 10] (fa_cons ?_ (fa_cons ?_ (fa_one ?_)))
     · refine one_ rfl ?_
       refine bsk hs173 sl23 [I 0] [I 0] trivial rfl (fun b0' w174 hs174 => ?_)
       exact nl (kq ⟨_, hs174, memi 1 rfl, trivial⟩ (alc D_1_25 ⟨b0', b2', b3', r6', q6', b12', ⟨rfl, rfl, rfl, rfl, rfl, rfl, rfl, rfl, trivial⟩, p252, p253, (hs174.pick [0, 1, 5, 2, 3, 4] rfl (by decide))⟩))
     · refine one_ rfl ?_
       refine bsk hs173 sl23 [I 2] [I 2] trivial rfl (fun b1' w175 hs175 => ?_)
       exact nl (kq ⟨_, hs175, memi 1 rfl, trivial⟩ (alc D_1_29 ⟨b1', b2', b3', r6', q6', b12', ⟨rfl, rfl, rfl, rfl, rfl, rfl, rfl, rfl, trivial⟩, p252, p253, (hs175.pick [0, 1, 5, 2, 3, 4] rfl (by decide))⟩))
     · refine one_ rfl ?_
       refine cl trivial rfl (l91Address (rb := rb) (Ab := Ab) (cb := cb) (bs := bs) (p := q6') (w := _) (hr := (blk_heap hs173 0 rfl)) (hb := (hb.up hs173 (fun _ h => h) (fun _ h => .inl h))) (hbn := (by first | assumption | (simp; omega))) (hp := (by omega))) ?_
       rintro _ w176 ⟨Aq10', cq10', ak10', aq10', an10', apt10', q10', rfl, p254, p255, p256, hs176'⟩
       have hs176 := hs173.callM 0 rfl hs176' (by intro k hk; simp at hk; exact hk.symm)
       clear hs176'
       exact nl (kq ⟨_, hs176, memi 0 rfl, trivial⟩ (alc D_1_32 ⟨b2', b3', r6', q6', b12', Aq10', cq10', ak10', aq10', an10', apt10', q10', ⟨rfl, rfl, rfl, rfl, rfl, rfl, rfl, trivial⟩, p252, p253, p254, p255, p256, (hs176.pick [4, 0, 5, 1, 2, 3] rfl (by decide))⟩))
   refine dag (fuel' := 8) (listed' := lbits 14 5732) (fun f w' => ∃ (b2' : Nat) (r6' : Int) (q6' b12' : Nat) (Aq10' : Option Addr) (cq10' : Nat) (ak10' : Int) (aq10' : List Int) (an10' : List UInt8) (apt10' : Int) (q10' : Nat), Has f [(0, pb rb), (2, pb b1), (3, pb b12'), (6, sb b2' (([0, 2] : List Int).length) 2), (10, I r6'), (14, .agg #[I ak10', .slice Aq10' aq10'.length cq10', Str an10', I apt10'])] ∧ (0 ≤ r6' ∧ (r6' < 4 ∨ r6' = 0)) ∧ (q6' ≤ p + 1) ∧ (aq10'.length ≤ 4) ∧ (an10'.length ≤ 21) ∧ (q10' ≤ q6' + 40) ∧ SH w w' [rb] [.blk rb 78 [.slice Ab bs.length cb, I ((q10' : Nat) : Int)], .blk b1 29 [ns, Str [], Str [], I 0, ns, Str [], I 0], .own Aq10' aq10'.length cq10' 3 1 (aq10'.map I), .blk b12' 29 [ns, Str [], Str [], I 0, ns, Str [], I 0], oI b2' ([0, 2] : List Int) 2 3]) ?_ (fun D_1_56 => ?_)
   · rintro f w177 ⟨b2', r6', q6', b12', Aq10', cq10', ak10', aq10', an10', apt10', q10', hf, p257, p258, p259, p260, p261, hs177⟩
     obtain ⟨g57, rfl⟩ := has_upd hf
     clear hf
     refine aaL [0, 1, 3] (fa_cons ?_ (fa_cons ?_ (fa_one ?_)))
     · refine one_ rfl ?_
       refine bsk hs177 sl23 [I 0] [I 0] trivial rfl (fun b0' w178 hs178 => ?_)
       exact nl (kq ⟨_, hs178, memi 1 rfl, trivial⟩ (alc D_1_26 ⟨b0', b2', r6', q6', b12', Aq10', cq10', ak10', aq10', an10', apt10', q10', ⟨rfl, rfl, rfl, rfl, rfl, rfl, rfl, trivial⟩, p257, p258, p259, p260, p261, (hs178.pick [0, 1, 5, 2, 3, 4] rfl (by decide))⟩))
     · refine one_ rfl ?_
       refine bsk hs177 sl23 [I 2] [I 2] trivial rfl (fun b1' w179 hs179 => ?_)
       exact nl (kq ⟨_, hs179, memi 1 rfl, trivial⟩ (alc D_1_30 ⟨b1', b2', r6', q6', b12', Aq10', cq10', ak10', aq10', an10', apt10', q10', ⟨rfl, rfl, rfl, rfl, rfl, rfl, rfl, trivial⟩, p257, p258, p259, p260, p261, (hs179.pick [0, 1, 5, 2, 3, 4] rfl (by decide))⟩))
     · refine one_ rfl ?_
       refine bsk hs177 sl23 [I 2, I 1] [I 2, I 1] trivial rfl (fun b3' w180 hs180 => ?_)
       exact nl (kq ⟨_, hs180, memi 1 rfl, trivial⟩ (alc D_1_32 ⟨b2', b3', r6', q6', b12', Aq10', cq10', ak10', aq10', an10', apt10', q10', ⟨rfl, rfl, rfl, rfl, rfl, rfl, rfl, trivial⟩, p257, p258, p259, p260, p261, hs180⟩))
   refine dag (fuel' := 8) (listed' := lbits 14 5736) (fun f w' => ∃ (b3' : Nat) (r6' : Int) (q6' b12' : Nat) (Aq10' : Option Addr) (cq10' : Nat) (ak10' : Int) (aq10' : List Int) (an10' : List UInt8) (apt10' : Int) (q10' : Nat), Has f [(0, pb rb), (2, pb b1), (3, pb b12'), (7, sb b3' (([2, 1] : List Int).length) 2), (10, I r6'), (14, .agg #[I ak10', .slice Aq10' aq10'.length cq10', Str an10', I apt10'])] ∧ (0 ≤ r6' ∧ (r6' < 4 ∨ r6' = 0)) ∧ (q6' ≤ p + 1) ∧ (aq10'.length ≤ 4) ∧ (an10'.length ≤ 21) ∧ (q10' ≤ q6' + 40) ∧ SH w w' [rb] [.blk rb 78 [.slice Ab bs.length cb, I ((q10' : Nat) : Int)], .blk b1 29 [ns, Str [], Str [], I 0, ns, Str [], I 0], .own Aq10' aq10'.length cq10' 3 1 (aq10'.map I), .blk b12' 29 [ns, Str [], Str [], I 0, ns, Str [], I 0], oI b3' ([2, 1] : List Int) 2 3]) ?_ (fun D_1_57 => ?_)
   · rintro f w181 ⟨b3', r6', q6', b12', Aq10', cq10', ak10', aq10', an10', apt10', q10', hf, p262, p263, p264, p265, p266, hs181⟩
     obtain ⟨g58, rfl⟩ := has_upd hf
     clear hf
     refine aaL [0, 1, 2] (fa_cons ?_ (fa_cons ?_ (fa_one ?_)))
     · refine one_ rfl ?_
       refine bsk hs181 sl23 [I 0] [I 0] trivial rfl (fun b0' w182 hs182 => ?_)
       exact nl (kq ⟨_, hs182, memi 1 rfl, trivial⟩ (alc D_1_27 ⟨b0', b3', r6', q6', b12', Aq10', cq10', ak10', aq10', an10', apt10', q10', ⟨rfl, rfl, rfl, rfl, rfl, rfl, rfl, trivial⟩, p262, p263, p264, p265, p266, (hs182.pick [0, 1, 5, 2, 3, 4] rfl (by decide))⟩))
     · refine one_ rfl ?_
       refine bsk hs181 sl23 [I 2] [I 2] trivial rfl (fun b1' w183 hs183 => ?_)
       exact nl (kq ⟨_, hs183, memi 1 rfl, trivial⟩ (alc D_1_31 ⟨b1', b3', r6', q6', b12', Aq10', cq10', ak10', aq10', an10', apt10', q10', ⟨rfl, rfl, rfl, rfl, rfl, rfl, rfl, trivial⟩, p262, p263, p264, p265, p266, (hs183.pick [0, 1, 5, 2, 3, 4] rfl (by decide))⟩))
     · refine one_ rfl ?_
       refine bsk hs181 sl23 [I 0, I 2] [I 0, I 2] trivial rfl (fun b2' w184 hs184 => ?_)
       exact nl (kq ⟨_, hs184, memi 1 rfl, trivial⟩ (alc D_1_32 ⟨b2', b3', r6', q6', b12', Aq10', cq10', ak10', aq10', an10', apt10', q10', ⟨rfl, rfl, rfl, rfl, rfl, rfl, rfl, trivial⟩, p262, p263, p264, p265, p266, (hs184.pick [0, 1, 2, 3, 5, 4] rfl (by decide))⟩))
   refine dag (fuel' := 9) (listed' := lbits 14 551) (fun f w' => ∃ (b0' b1' b2' : Nat), Has f [(0, pb rb), (2, pb b1), (4, sb b0' (([0] : List Int).length) 1), (5, sb b1' (([2] : List Int).length) 1), (6, sb b2' (([0, 2] : List Int).length) 2), (9, pb rb), (13, pb rb)] ∧ SH w w' [rb] [.blk rb 78 [.slice Ab bs.length cb, I ((p : Nat) : Int)], .blk b1 29 [ns, Str [], Str [], I 0, ns, Str [], I 0], oI b0' ([0] : List Int) 1 3, oI b1' ([2] : List Int) 1 3, oI b2' ([0, 2] : List Int) 2 3]) ?_ (fun D_1_58 => ?_)
   · rintro f w185 ⟨b0', b1', b2', hf, hs185⟩
     obtain ⟨g59, rfl⟩ := has_upd hf
     clear hf
     refine aaL [3, 6, 12] (fa_cons ?_ (fa_cons ?_ (fa_one ?_)))
     · refine one_ rfl ?_
       refine bsk hs185 sl23 [I 2, I 1] [I 2, I 1] trivial rfl (fun b3' w186 hs186 => ?_)
       exact nl (kq ⟨_, hs186, memi 1 rfl, trivial⟩ (alc D_1_33 ⟨b0', b1', b2', b3', ⟨rfl, rfl, rfl, rfl, rfl, rfl, rfl, rfl, trivial⟩, hs186⟩))
     · refine one_ rfl ?_
       refine cl trivial rfl (pick (rb := rb) (Ab := Ab) (cb := cb) (bs := bs) (p := p) (n := 4) (w := _) (hr := (blk_heap hs185 0 rfl)) (hb := (hb.up hs185 (fun _ h => h) (fun _ h => .inl h))) (hbn := (by first | assumption | (simp; omega))) (hp := (by omega))) ?_
       rintro _ w187 ⟨r6', q6', rfl, p267, p268, hs187'⟩
       have hs187 := hs185.callM 0 rfl hs187' (by intro k hk; simp at hk; exact hk.symm)
       clear hs187'
       exact nl (kq ⟨_, hs187, memi 0 rfl, trivial⟩ (alc D_1_34 ⟨b0', b1', b2', r6', q6', ⟨rfl, rfl, rfl, rfl, rfl, rfl, rfl, trivial⟩, p267, p268, (hs187.pick [4, 0, 1, 2, 3] rfl (by decide))⟩))
     · refine one_ rfl ?_
       refine al (v := .agg #[ns, Str [], Str [], I 0, ns, Str [], I 0]) (cs := [ns, Str [], Str [], I 0, ns, Str [], I 0]) hs185 tz29 rfl trivial rfl (fun b12' w188 hs188 => ?_)
       exact nl (kq ⟨_, hs188, memi 1 rfl, trivial⟩ (alc D_1_35 ⟨b0', b1', b2', b12', ⟨rfl, rfl, rfl, rfl, rfl, rfl, rfl, rfl, trivial⟩, (hs188.pick [0, 1, 2, 3, 5, 4] rfl (by decide))⟩))
   refine dag (fuel' := 9) (listed' := lbits 14 555) (fun f w' => ∃ (b0' b1' b3' : Nat), Has f [(0, pb rb), (2, pb b1), (4, sb b0' (([0] : List Int).length) 1), (5, sb b1' (([2] : List Int).length) 1), (7, sb b3' (([2, 1] : List Int).length) 2), (9, pb rb), (13, pb rb)] ∧ SH w w' [rb] [.blk rb 78 [.slice Ab bs.length cb, I ((p : Nat) : Int)], .blk b1 29 [ns, Str [], Str [], I 0, ns, Str [], I 0], oI b0' ([0] : List Int) 1 3, oI b1' ([2] : List Int) 1 3, oI b3' ([2, 1] : List Int) 2 3]) ?_ (fun D_1_59 => ?_)
   · rintro f w189 ⟨b0', b1', b3', hf, hs189⟩
     obtain ⟨g60, rfl⟩ := has_upd hf
     clear hf
     refine aaL [2, 6, 12] (fa_cons ?_ (fa_cons ?_ (fa_one ?_)))
     · refine one_ rfl ?_
       refine bsk hs189 sl23 [I 0, I 2] [I 0, I 2] trivial rfl (fun b2' w190 hs190 => ?_)
       exact nl (kq ⟨_, hs190, memi 1 rfl, trivial⟩ (alc D_1_33 ⟨b0', b1', b2', b3', ⟨rfl, rfl, rfl, rfl, rfl, rfl, rfl, rfl, trivial⟩, (hs190.pick [0, 1, 2, 3, 5, 4] rfl (by decide))⟩))
     · refine one_ rfl ?_
       refine cl trivial rfl (pick (rb := rb) (Ab := Ab) (cb := cb) (bs := bs) (p := p) (n := 4) (w := _) (hr := (blk_heap hs189 0 rfl)) (hb := (hb.up hs189 (fun _ h => h) (fun _ h => .inl h))) (hbn := (by first | assumption | (simp; omega))) (hp := (by omega))) ?_
       rintro _ w191 ⟨r6', q6', rfl, p269, p270, hs191'⟩
       have hs191 := hs189.callM 0 rfl hs191' (by intro k hk; simp at hk; exact hk.symm)
       clear hs191'
       exact nl (kq ⟨_, hs191, memi 0 rfl, trivial⟩ (alc D_1_36 ⟨b0', b1', b3', r6', q6', ⟨rfl, rfl, rfl, rfl, rfl, rfl, rfl, trivial⟩, p269, p270, (hs191.pick [4, 0, 1, 2, 3] rfl (by decide))⟩))
     · refine one_ rfl ?_
       refine al (v := .agg #[ns, Str [], Str [], I 0, ns, Str [], I 0]) (cs := [ns, Str [], Str [], I 0, ns, Str [], I 0]) hs189 tz29 rfl trivial rfl (fun b12' w192 hs192 => ?_)
       exact nl (kq ⟨_, hs192, memi 1 rfl, trivial⟩ (alc D_1_37 ⟨b0', b1', b3', b12', ⟨rfl, rfl, rfl, rfl, rfl, rfl, rfl, rfl, trivial⟩, (hs192.pick [0, 1, 2, 3, 5, 4] rfl (by decide))⟩))
   refine dag (fuel' := 9) (listed' := lbits 14 611) (fun f w' => ∃ (b0' b1' : Nat) (r6' : Int) (q6' : Nat), Has f [(0, pb rb), (2, pb b1), (4, sb b0' (([0] : List Int).length) 1), (5, sb b1' (([2] : List Int).length) 1), (10, I r6'), (13, pb rb)] ∧ (0 ≤ r6' ∧ (r6' < 4 ∨ r6' = 0)) ∧ (q6' ≤ p + 1) ∧ SH w w' [rb] [.blk rb 78 [.slice Ab bs.length cb, I ((q6' : Nat) : Int)], .blk b1 29 [ns, Str [], Str [], I 0, ns, Str [], I 0], oI b0' ([0] : List Int) 1 3, oI b1' ([2] : List Int) 1 3]) ?_ (fun D_1_60 => ?_)
   · rintro f w193 ⟨b0', b1', r6', q6', hf, p271, p272, hs193⟩
     obtain ⟨g61, rfl⟩ := has_upd hf
     clear hf
     refine aaL [2, 3, 10, 12] (fa_cons ?_ (fa_cons ?_ (fa_cons ?_ (fa_one ?_))))
     · refine one_ rfl ?_
       refine bsk hs193 sl23 [I 0, I 2] [I 0, I 2] trivial rfl (fun b2' w194 hs194 => ?_)
       exact nl (kq ⟨_, hs194, memi 1 rfl, trivial⟩ (alc D_1_34 ⟨b0', b1', b2', r6', q6', ⟨rfl, rfl, rfl, rfl, rfl, rfl, rfl, trivial⟩, p271, p272, hs194⟩))
     · refine one_ rfl ?_
       refine bsk hs193 sl23 [I 2, I 1] [I 2, I 1] trivial rfl (fun b3' w195 hs195 => ?_)
       exact nl (kq ⟨_, hs195, memi 1 rfl, trivial⟩ (alc D_1_36 ⟨b0', b1', b3', r6', q6', ⟨rfl, rfl, rfl, rfl, rfl, rfl, rfl, trivial⟩, p271, p272, hs195⟩))
     · refine one_ rfl ?_
       refine cl trivial rfl (l91Address (rb := rb) (Ab := Ab) (cb := cb) (bs := bs) (p := q6') (w := _) (hr := (blk_heap hs193 0 rfl)) (hb := (hb.up hs193 (fun _ h => h) (fun _ h => .inl h))) (hbn := (by first | assumption | (simp; omega))) (hp := (by omega))) ?_
       rintro _ w196 ⟨Aq10', cq10', ak10', aq10', an10', apt10', q10', rfl, p273, p274, p275, hs196'⟩
       have hs196 := hs193.callM 0 rfl hs196' (by intro k hk; simp at hk; exact hk.symm)
       clear hs196'
       exact nl (kq ⟨_, hs196, memi 0 rfl, trivial⟩ (alc D_1_38 ⟨b0', b1', r6', q6', Aq10', cq10', ak10', aq10', an10', apt10', q10', ⟨rfl, rfl, rfl, rfl, rfl, rfl, trivial⟩, p271, p272, p273, p274, p275, (hs196.pick [3, 0, 1, 2, 4] rfl (by decide))⟩))
     · refine one_ rfl ?_
       refine al (v := .agg #[ns, Str [], Str [], I 0, ns, Str [], I 0]) (cs := [ns, Str [], Str [], I 0, ns, Str [], I 0]) hs193 tz29 rfl trivial rfl (fun b12' w197 hs197 => ?_)
       exact nl (kq ⟨_, hs197, memi 1 rfl, trivial⟩ (alc D_1_39 ⟨b0', b1', r6', q6', b12', ⟨rfl, rfl, rfl, rfl, rfl, rfl, rfl, trivial⟩, p271, p272, hs197⟩))
   refine dag (fuel' := 9) (listed' := lbits 14 4643) (fun f w' => ∃ (b0' b1' b12' : Nat), Has f [(0, pb rb), (2, pb b1), (3, pb b12'), (4, sb b0' (([0] : List Int).length) 1), (5, sb b1' (([2] : List Int).length) 1), (9, pb rb), (13, pb rb)] ∧ SH w w' [rb] [.blk rb 78 [.slice Ab bs.length cb, I ((p : Nat) : Int)], .blk b1 29 [ns, Str [], Str [], I 0, ns, Str [], I 0], oI b0' ([0] : List Int) 1 3, oI b1' ([2] : List Int) 1 3, .blk b12' 29 [ns, Str [], Str [], I 0, ns, Str [], I 0]]) ?_ (fun D_1_61 => ?_)
   · rintro f w198 ⟨b0', b1', b12', hf, hs198⟩
     obtain ⟨g62, rfl⟩ := has_upd hf
     clear hf
     refine aaL [2, 3, 6] (fa_cons ?_ (fa_cons ?_ (fa_one ?_)))
     · refine one_ rfl ?_
       refine bsk hs198 sl23 [I 0, I 2] [I 0, I 2] trivial rfl (fun b2' w199 hs199 => ?_)
       exact nl (kq ⟨_, hs199, memi 1 rfl, trivial⟩ (alc D_1_35 ⟨b0', b1', b2', b12', ⟨rfl, rfl, rfl, rfl, rfl, rfl, rfl, rfl, trivial⟩, hs199⟩))
     · refine one_ rfl ?_
       refine bsk hs198 sl23 [I 2, I 1] [I 2, I 1] trivial rfl (fun b3' w200 hs200 => ?_)
       exact nl (kq ⟨_, hs200, memi 1 rfl, trivial⟩ (alc D_1_37 ⟨b0', b1', b3', b12', ⟨rfl, rfl, rfl, rfl, rfl, rfl, rfl, rfl, trivial⟩, hs200⟩))
     · refine one_ rfl ?_
       refine cl trivial rfl (pick (rb := rb) (Ab := Ab) (cb := cb) (bs := bs) (p := p) (n := 4) (w := _) (hr := (blk_heap hs198 0 rfl)) (hb := (hb.up hs198 (fun _ h => h) (fun _ h => .inl h))) (hbn := (by first | assumption | (simp; omega))) (hp := (by omega))) ?_
       rintro _ w201 ⟨r6', q6', rfl, p276, p277, hs201'⟩
       have hs201 := hs198.callM 0 rfl hs201' (by intro k hk; simp at hk; exact hk.symm)
       clear hs201'
       exact nl (kq ⟨_, hs201, memi 0 rfl, trivial⟩ (alc D_1_39 ⟨b0', b1', r6', q6', b12', ⟨rfl, rfl, rfl, rfl, rfl, rfl, rfl, trivial⟩, p276, p277, (hs201.pick [4, 0, 1, 2, 3] rfl (by decide))⟩))
   refine dag (fuel' := 9) (listed' := lbits 14 557) (fun f w' => ∃ (b0' b2' b3' : Nat), Has f [(0, pb rb), (2, pb b1), (4, sb b0' (([0] : List Int).length) 1), (6, sb b2' (([0, 2] : List Int).length) 2), (7, sb b3' (([2, 1] : List Int).length) 2), (9, pb rb), (13, pb rb)] ∧ SH w w' [rb] [.blk rb 78 [.slice Ab bs.length cb, I ((p : Nat) : Int)], .blk b1 29 [ns, Str [], Str [], I 0, ns, Str [], I 0], oI b0' ([0] : List Int) 1 3, oI b2' ([0, 2] : List Int) 2 3, oI b3' ([2, 1] : List Int) 2 3]) ?_ (fun D_1_62 => ?_)
   · rintro f w202 ⟨b0', b2', b3', hf, hs202⟩
     obtain ⟨g63, rfl⟩ := has_upd hf
     clear hf
     refine aaL [1, 6, 12] (fa_cons ?_ (fa_cons ?_ (fa_one ?_)))
     · refine one_ rfl ?_
       refine bsk hs202 sl23 [I 2] [I 2] trivial rfl (fun b1' w203 hs203 => ?_)
       exact nl (kq ⟨_, hs203, memi 1 rfl, trivial⟩ (alc D_1_33 ⟨b0', b1', b2', b3', ⟨rfl, rfl, rfl, rfl, rfl, rfl, rfl, rfl, trivial⟩, (hs203.pick [0, 1, 2, 5, 3, 4] rfl (by decide))⟩))
     · refine one_ rfl ?_
       refine cl trivial rfl (pick (rb := rb) (Ab := Ab) (cb := cb) (bs := bs) (p := p) (n := 4) (w := _) (hr := (blk_heap hs202 0 rfl)) (hb := (hb.up hs202 (fun _ h => h) (fun _ h => .inl h))) (hbn := (by first | assumption | (simp; omega))) (hp := (by omega))) ?_
       rintro _ w204 ⟨r6', q6', rfl, p278, p279, hs204'⟩
       have hs204 := hs202.callM 0 rfl hs204' (by intro k hk; simp at hk; exact hk.symm)
       clear hs204'
       exact nl (kq ⟨_, hs204, memi 0 rfl, trivial⟩ (alc D_1_40 ⟨b0', b2', b3', r6', q6', ⟨rfl, rfl, rfl, rfl, rfl, rfl, rfl, trivial⟩, p278, p279, (hs204.pick [4, 0, 1, 2, 3] rfl (by decide))⟩))
     · refine one_ rfl ?_
       refine al (v := .agg #[ns, Str [], Str [], I 0, ns, Str [], I 0]) (cs := [ns, Str [], Str [], I 0, ns, Str [], I 0]) hs202 tz29 rfl trivial rfl (fun b12' w205 hs205 => ?_)
       exact nl (kq ⟨_, hs205, memi 1 rfl, trivial⟩ (alc D_1_41 ⟨b0', b2', b3', b12', ⟨rfl, rfl, rfl, rfl, rfl, rfl, rfl, rfl, trivial⟩, (hs205.pick [0, 1, 2, 5, 3, 4] rfl (by decide))⟩))
   refine dag (fuel' := 9) (listed' := lbits 14 613) (fun f w' => ∃ (b0' b2' : Nat) (r6' : Int) (q6' : Nat), Has f [(0, pb rb), (2, pb b1), (4, sb b0' (([0] : List Int).length) 1), (6, sb b2' (([0, 2] : List Int).length) 2), (10, I r6'), (13, pb rb)] ∧ (0 ≤ r6' ∧ (r6' < 4 ∨ r6' = 0)) ∧ (q6' ≤ p + 1) ∧ SH w w' [rb] [.blk rb 78 [.slice Ab bs.length cb, I ((q6' : Nat) : Int)], .blk b1 29 [ns, Str [], Str [], I 0, ns, Str [], I 0], oI b0' ([0] : List Int) 1 3, oI b2' ([0, 2] : List Int) 2 3]) ?_ (fun D_1_63 => ?_)
   · rintro f w206 ⟨b0', b2', r6', q6', hf, p280, p281, hs206⟩
     obtain ⟨g64, rfl⟩ := has_upd hf
     clear hf
     refine aaL [1, 3, 10, 12] (fa_cons ?_ (fa_cons ?_ (fa_cons ?_ (fa_one ?_))))
     · refine one_ rfl ?_
       refine bsk hs206 sl23 [I 2] [I 2] trivial rfl (fun b1' w207 hs207 => ?_)
       exact nl (kq ⟨_, hs207, memi 1 rfl, trivial⟩ (alc D_1_34 ⟨b0', b1', b2', r6', q6', ⟨rfl, rfl, rfl, rfl, rfl, rfl, rfl, trivial⟩, p280, p281, (hs207.pick [0, 1, 2, 4, 3] rfl (by decide))⟩))
     · refine one_ rfl ?_
       refine bsk hs206 sl23 [I 2, I 1] [I 2, I 1] trivial rfl (fun b3' w208 hs208 => ?_)
       exact nl (kq ⟨_, hs208, memi 1 rfl, trivial⟩ (alc D_1_40 ⟨b0', b2', b3', r6', q6', ⟨rfl, rfl, rfl, rfl, rfl, rfl, rfl, trivial⟩, p280, p281, hs208⟩))
     · refine one_ rfl ?_
       refine cl trivial rfl (l91Address (rb := rb) (Ab := Ab) (cb := cb) (bs := bs) (p := q6') (w := _) (hr := (blk_heap hs206 0 rfl)) (hb := (hb.up hs206 (fun _ h => h) (fun _ h => .inl h))) (hbn := (by first | assumption | (simp; omega))) (hp := (by omega))) ?_
       rintro _ w209 ⟨Aq10', cq10', ak10', aq10', an10', apt10', q10', rfl, p282, p283, p284, hs209'⟩
       have hs209 := hs206.callM 0 rfl hs209' (by intro k hk; simp at hk; exact hk.symm)
       clear hs209'
       exact nl (kq ⟨_, hs209, memi 0 rfl, trivial⟩ (alc D_1_42 ⟨b0', b2', r6', q6', Aq10', cq10', ak10', aq10', an10', apt10', q10', ⟨rfl, rfl, rfl, rfl, rfl, rfl, trivial⟩, p280, p281, p282, p283, p284, (hs209.pick [3, 0, 1, 4, 2] rfl (by decide))⟩))
     · refine one_ rfl ?_
       refine al (v := .agg #[ns, Str [], Str [], I 0, ns, Str [], I 0]) (cs := [ns, Str [], Str [], I 0, ns, Str [], I 0]) hs206 tz29 rfl trivial rfl (fun b12' w210 hs210 => ?_)
       exact nl (kq ⟨_, hs210, memi 1 rfl, trivial⟩ (alc D_1_43 ⟨b0', b2', r6', q6', b12', ⟨rfl, rfl, rfl, rfl, rfl, rfl, rfl, trivial⟩, p280, p281, (hs210.pick [0, 1, 2, 4, 3] rfl (by decide))⟩))
   refine dag (fuel' := 9) (listed' := lbits 14 4645) (fun f w' => ∃ (b0' b2' b12' : Nat), Has f [(0, pb rb), (2, pb b1), (3, pb b12'), (4, sb b0' (([0] : List Int).length) 1), (6, sb b2' (([0, 2] : List Int).length) 2), (9, pb rb), (13, pb rb)] ∧ SH w w' [rb] [.blk rb 78 [.slice Ab bs.length cb, I ((p : Nat) : Int)], .blk b1 29 [ns, Str [], Str [], I 0, ns, Str [], I 0], oI b0' ([0] : List Int) 1 3, .blk b12' 29 [ns, Str [], Str [], I 0, ns, Str [], I 0], oI b2' ([0, 2] : List Int) 2 3]) ?_ (fun D_1_64 => ?_)
   · rintro f w211 ⟨b0', b2', b12', hf, hs211⟩
     obtain ⟨g65, rfl⟩ := has_upd hf
     clear hf
     refine aaL [1, 3, 6] (fa_cons ?_ (fa_cons ?_ (fa_one ?_)))
     · refine one_ rfl ?_
       refine bsk hs211 sl23 [I 2] [I 2] trivial rfl (fun b1' w212 hs212 => ?_)
       exact nl (kq ⟨_, hs212, memi 1 rfl, trivial⟩ (alc D_1_35 ⟨b0', b1', b2', b12', ⟨rfl, rfl, rfl, rfl, rfl, rfl, rfl, rfl, trivial⟩, (hs212.pick [0, 1, 2, 5, 3, 4] rfl (by decide))⟩))
     · refine one_ rfl ?_
       refine bsk hs211 sl23 [I 2, I 1] [I 2, I 1] trivial rfl (fun b3' w213 hs213 => ?_)
       exact nl (kq ⟨_, hs213, memi 1 rfl, trivial⟩ (alc D_1_41 ⟨b0', b2', b3', b12', ⟨rfl, rfl, rfl, rfl, rfl, rfl, rfl, rfl, trivial⟩, hs213⟩))
     · refine one_ rfl ?_
       refine cl trivial rfl (pick (rb := rb) (Ab := Ab) (cb := cb) (bs := bs) (p := p) (n := 4) (w := _) (hr := (blk_heap hs211 0 rfl)) (hb := (hb.up hs211 (fun _ h => h) (fun _ h => .inl h))) (hbn := (by first | assumption | (simp; omega))) (hp := (by omega))) ?_
       rintro _ w214 ⟨r6', q6', rfl, p285, p286, hs214'⟩
       have hs214 := hs211.callM 0 rfl hs214' (by intro k hk; simp at hk; exact hk.symm)
       clear hs214'
       exact nl (kq ⟨_, hs214, memi 0 rfl, trivial⟩ (alc D_1_43 ⟨b0', b2', r6', q6', b12', ⟨rfl, rfl, rfl, rfl, rfl, rfl, rfl, trivial⟩, p285, p286, (hs214.pick [4, 0, 1, 2, 3] rfl (by decide))⟩))
   refine dag (fuel' := 9) (listed' := lbits 14 617) (fun f w' => ∃ (b0' b3' : Nat) (r6' : Int) (q6' : Nat), Has f [(0, pb rb), (2, pb b1), (4, sb b0' (([0] : List Int).length) 1), (7, sb b3' (([2, 1] : List Int).length) 2), (10, I r6'), (13, pb rb)] ∧ (0 ≤ r6' ∧ (r6' < 4 ∨ r6' = 0)) ∧ (q6' ≤ p + 1) ∧ SH w w' [rb] [.blk rb 78 [.slice Ab bs.length cb, I ((q6' : Nat) : Int)], .blk b1 29 [ns, Str [], Str [], I 0, ns, Str [], I 0], oI b0' ([0] : List Int) 1 3, oI b3' ([2, 1] : List Int) 2 3]) ?_ (fun D_1_65 => ?_)
   · rintro f w215 ⟨b0', b3', r6', q6', hf, p287, p288, hs215⟩
     obtain ⟨g66, rfl⟩ := has_upd hf
     clear hf
     refine aaL [1, 2, 10, 12] (fa_cons ?_ (fa_cons ?_ (fa_cons ?_ (fa_one ?_))))
     · refine one_ rfl ?_
       refine bsk hs215 sl23 [I 2] [I 2] trivial rfl (fun b1' w216 hs216 => ?_)
       exact nl (kq ⟨_, hs216, memi 1 rfl, trivial⟩ (alc D_1_36 ⟨b0', b1', b3', r6', q6', ⟨rfl, rfl, rfl, rfl, rfl, rfl, rfl, trivial⟩, p287, p288, (hs216.pick [0, 1, 2, 4, 3] rfl (by decide))⟩))
     · refine one_ rfl ?_
       refine bsk hs215 sl23 [I 0, I 2] [I 0, I 2] trivial rfl (fun b2' w217 hs217 => ?_)
       exact nl (kq ⟨_, hs217, memi 1 rfl, trivial⟩ (alc D_1_40 ⟨b0', b2', b3', r6', q6', ⟨rfl, rfl, rfl, rfl, rfl, rfl, rfl, trivial⟩, p287, p288, (hs217.pick [0, 1, 2, 4, 3] rfl (by decide))⟩))
     · refine one_ rfl ?_
       refine cl trivial rfl (l91Address (rb := rb) (Ab := Ab) (cb := cb) (bs := bs) (p := q6') (w := _) (hr := (blk_heap hs215 0 rfl)) (hb := (hb.up hs215 (fun _ h => h) (fun _ h => .inl h))) (hbn := (by first | assumption | (simp; omega))) (hp := (by omega))) ?_
       rintro _ w218 ⟨Aq10', cq10', ak10', aq10', an10', apt10', q10', rfl, p289, p290, p291, hs218'⟩
       have hs218 := hs215.callM 0 rfl hs218' (by intro k hk; simp at hk; exact hk.symm)
       clear hs218'
       exact nl (kq ⟨_, hs218, memi 0 rfl, trivial⟩ (alc D_1_44 ⟨b0', b3', r6', q6', Aq10', cq10', ak10', aq10', an10', apt10', q10', ⟨rfl, rfl, rfl, rfl, rfl, rfl, trivial⟩, p287, p288, p289, p290, p291, (hs218.pick [3, 0, 1, 4, 2] rfl (by decide))⟩))
     · refine one_ rfl ?_
       refine al (v := .agg #[ns, Str [], Str [], I 0, ns, Str [], I 0]) (cs := [ns, Str [], Str [], I 0, ns, Str [], I 0]) hs215 tz29 rfl trivial rfl (fun b12' w219 hs219 => ?_)
       exact nl (kq ⟨_, hs219, memi 1 rfl, trivial⟩ (alc D_1_45 ⟨b0', b3', r6', q6', b12', ⟨rfl, rfl, rfl, rfl, rfl, rfl, rfl, trivial⟩, p287, p288, (hs219.pick [0, 1, 2, 4, 3] rfl (by decide))⟩))
   refine dag (fuel' := 9) (listed' := lbits 14 4649) (fun f w' => ∃ (b0' b3' b12' : Nat), Has f [(0, pb rb), (2, pb b1), (3, pb b12'), (4, sb b0' (([0] : List Int).length) 1), (7, sb b3' (([2, 1] : List Int).length) 2), (9, pb rb), (13, pb rb)] ∧ SH w w' [rb] [.blk rb 78 [.slice Ab bs.length cb, I ((p : Nat) : Int)], .blk b1 29 [ns, Str [], Str [], I 0, ns, Str [], I 0], oI b0' ([0] : List Int) 1 3, .blk b12' 29 [ns, Str [], Str [], I 0, ns, Str [], I 0], oI b3' ([2, 1] : List Int) 2 3]) ?_ (fun D_1_66 => ?_)
   · rintro f w220 ⟨b0', b3', b12', hf, hs220⟩
     obtain ⟨g67, rfl⟩ := has_upd hf
     clear hf
     refine aaL [1, 2, 6] (fa_cons ?_ (fa_cons ?_ (fa_one ?_)))
     · refine one_ rfl ?_
       refine bsk hs220 sl23 [I 2] [I 2] trivial rfl (fun b1' w221 hs221 => ?_)
       exact nl (kq ⟨_, hs221, memi 1 rfl, trivial⟩ (alc D_1_37 ⟨b0', b1', b3', b12', ⟨rfl, rfl, rfl, rfl, rfl, rfl, rfl, rfl, trivial⟩, (hs221.pick [0, 1, 2, 5, 3, 4] rfl (by decide))⟩))
     · refine one_ rfl ?_
       refine bsk hs220 sl23 [I 0, I 2] [I 0, I 2] trivial rfl (fun b2' w222 hs222 => ?_)
       exact nl (kq ⟨_, hs222, memi 1 rfl, trivial⟩ (alc D_1_41 ⟨b0', b2', b3', b12', ⟨rfl, rfl, rfl, rfl, rfl, rfl, rfl, rfl, trivial⟩, (hs222.pick [0, 1, 2, 3, 5, 4] rfl (by decide))⟩))
     · refine one_ rfl ?_
       refine cl trivial rfl (pick (rb := rb) (Ab := Ab) (cb := cb) (bs := bs) (p := p) (n := 4) (w := _) (hr := (blk_heap hs220 0 rfl)) (hb := (hb.up hs220 (fun _ h => h) (fun _ h => .inl h))) (hbn := (by first | assumption | (simp; omega))) (hp := (by omega))) ?_
       rintro _ w223 ⟨r6', q6', rfl, p292, p293, hs223'⟩
       have hs223 := hs220.callM 0 rfl hs223' (by intro k hk; simp at hk; exact hk.symm)
       clear hs223'
       exact nl (kq ⟨_, hs223, memi 0 rfl, trivial⟩ (alc D_1_45 ⟨b0', b3', r6', q6', b12', ⟨rfl, rfl, rfl, rfl, rfl, rfl, rfl, trivial⟩, p292, p293, (hs223.pick [4, 0, 1, 2, 3] rfl (by decide))⟩))
   refine dag (fuel' := 9) (listed' := lbits 14 1633) (fun f w' => ∃ (b0' : Nat) (r6' : Int) (q6' : Nat) (Aq10' : Option Addr) (cq10' : Nat) (ak10' : Int) (aq10' : List Int) (an10' : List UInt8) (apt10' : Int) (q10' : Nat), Has f [(0, pb rb), (2, pb b1), (4, sb b0' (([0] : List Int).length) 1), (10, I r6'), (14, .agg #[I ak10', .slice Aq10' aq10'.length cq10', Str an10', I apt10'])] ∧ (0 ≤ r6' ∧ (r6' < 4 ∨ r6' = 0)) ∧ (q6' ≤ p + 1) ∧ (aq10'.length ≤ 4) ∧ (an10'.length ≤ 21) ∧ (q10' ≤ q6' + 40) ∧ SH w w' [rb] [.blk rb 78 [.slice Ab bs.length cb, I ((q10' : Nat) : Int)], .blk b1 29 [ns, Str [], Str [], I 0, ns, Str [], I 0], oI b0' ([0] : List Int) 1 3, .own Aq10' aq10'.length cq10' 3 1 (aq10'.map I)]) ?_ (fun D_1_67 => ?_)
   · rintro f w224 ⟨b0', r6', q6', Aq10', cq10', ak10', aq10', an10', apt10', q10', hf, p294, p295, p296, p297, p298, hs224⟩
     obtain ⟨g68, rfl⟩ := has_upd hf
     clear hf
     refine aaL [1, 2, 3, 12] (fa_cons ?_ (fa_cons ?_ (fa_cons ?_ (fa_one ?_))))
     · refine one_ rfl ?_
       refine bsk hs224 sl23 [I 2] [I 2] trivial rfl (fun b1' w225 hs225 => ?_)
       exact nl (kq ⟨_, hs225, memi 1 rfl, trivial⟩ (alc D_1_38 ⟨b0', b1', r6', q6', Aq10', cq10', ak10', aq10', an10', apt10', q10', ⟨rfl, rfl, rfl, rfl, rfl, rfl, trivial⟩, p294, p295, p296, p297, p298, (hs225.pick [0, 1, 2, 4, 3] rfl (by decide))⟩))
     · refine one_ rfl ?_
       refine bsk hs224 sl23 [I 0, I 2] [I 0, I 2] trivial rfl (fun b2' w226 hs226 => ?_)
       exact nl (kq ⟨_, hs226, memi 1 rfl, trivial⟩ (alc D_1_42 ⟨b0', b2', r6', q6', Aq10', cq10', ak10', aq10', an10', apt10', q10', ⟨rfl, rfl, rfl, rfl, rfl, rfl, trivial⟩, p294, p295, p296, p297, p298, hs226⟩))
     · refine one_ rfl ?_
       refine bsk hs224 sl23 [I 2, I 1] [I 2, I 1] trivial rfl (fun b3' w227 hs227 => ?_)
       exact nl (kq ⟨_, hs227, memi 1 rfl, trivial⟩ (alc D_1_44 ⟨b0', b3', r6', q6', Aq10', cq10', ak10', aq10', an10', apt10', q10', ⟨rfl, rfl, rfl, rfl, rfl, rfl, trivial⟩, p294, p295, p296, p297, p298, hs227⟩))
     · refine one_ rfl ?_
       refine al (v := .agg #[ns, Str [], Str [], I 0, ns, Str [], I 0]) (cs := [ns, Str [], Str [], I 0, ns, Str [], I 0]) hs224 tz29 rfl trivial rfl (fun b12' w228 hs228 => ?_)
       exact nl (kq ⟨_, hs228, memi 1 rfl, trivial⟩ (alc D_1_46 ⟨b0', r6', q6', b12', Aq10', cq10', ak10', aq10', an10', apt10', q10', ⟨rfl, rfl, rfl, rfl, rfl, rfl, trivial⟩, p294, p295, p296, p297, p298, hs228⟩))
   refine dag (fuel' := 9) (listed' := lbits 14 4705) (fun f w' => ∃ (b0' : Nat) (r6' : Int) (q6' b12' : Nat), Has f [(0, pb rb), (2, pb b1), (3, pb b12'), (4, sb b0' (([0] : List Int).length) 1), (10, I r6'), (13, pb rb)] ∧ (0 ≤ r6' ∧ (r6' < 4 ∨ r6' = 0)) ∧ (q6' ≤ p + 1) ∧ SH w w' [rb] [.blk rb 78 [.slice Ab bs.length cb, I ((q6' : Nat) : Int)], .blk b1 29 [ns, Str [], Str [], I 0, ns, Str [], I 0], oI b0' ([0] : List Int) 1 3, .blk b12' 29 [ns, Str [], Str [], I 0, ns, Str [], I 0]]) ?_ (fun D_1_68 => ?_)
   · rintro f w229 ⟨b0', r6', q6', b12', hf, p299, p300, hs229⟩
     obtain ⟨g69, rfl⟩ := has_upd hf
     clear hf
     refine aaL [1, 2, 3, 10] (fa_cons ?_ (fa_cons ?_ (fa_cons ?_ (fa_one ?_))))
     · refine one_ rfl ?_
       refine bsk hs229 sl23 [I 2] [I 2] trivial rfl (fun b1' w230 hs230 => ?_)
       exact nl (kq ⟨_, hs230, memi 1 rfl, trivial⟩ (alc D_1_39 ⟨b0', b1', r6', q6', b12', ⟨rfl, rfl, rfl, rfl, rfl, rfl, rfl, trivial⟩, p299, p300, (hs230.pick [0, 1, 2, 4, 3] rfl (by decide))⟩))
     · refine one_ rfl ?_
       refine bsk hs229 sl23 [I 0, I 2] [I 0, I 2] trivial rfl (fun b2' w231 hs231 => ?_)
       exact nl (kq ⟨_, hs231, memi 1 rfl, trivial⟩ (alc D_1_43 ⟨b0', b2', r6', q6', b12', ⟨rfl, rfl, rfl, rfl, rfl, rfl, rfl, trivial⟩, p299, p300, hs231⟩))
     · refine one_ rfl ?_
       refine bsk hs229 sl23 [I 2, I 1] [I 2, I 1] trivial rfl (fun b3' w232 hs232 => ?_)
       exact nl (kq ⟨_, hs232, memi 1 rfl, trivial⟩ (alc D_1_45 ⟨b0', b3', r6', q6', b12', ⟨rfl, rfl, rfl, rfl, rfl, rfl, rfl, trivial⟩, p299, p300, hs232⟩))
     · refine one_ rfl ?_
       refine cl trivial rfl (l91Address (rb := rb) (Ab := Ab) (cb := cb) (bs := bs) (p := q6') (w := _) (hr := (blk_heap hs229 0 rfl)) (hb := (hb.up hs229 (fun _ h => h) (fun _ h => .inl h))) (hbn := (by first | assumption | (simp; omega))) (hp := (by omega))) ?_
       rintro _ w233 ⟨Aq10', cq10', ak10', aq10', an10', apt10', q10', rfl, p301, p302, p303, hs233'⟩
       have hs233 := hs229.callM 0 rfl hs233' (by intro k hk; simp at hk; exact hk.symm)
       clear hs233'
       exact nl (kq ⟨_, hs233, memi 0 rfl, trivial⟩ (alc D_1_46 ⟨b0', r6', q6', b12', Aq10', cq10', ak10', aq10', an10', apt10', q10', ⟨rfl, rfl, rfl, rfl, rfl, rfl, trivial⟩, p299, p300, p301, p302, p303, (hs233.pick [3, 0, 1, 4, 2] rfl (by decide))⟩))
   refine dag (fuel' := 9) (listed' := lbits 14 558) (fun f w' => ∃ (b1' b2' b3' : Nat), Has f [(0, pb rb), (2, pb b1), (5, sb b1' (([2] : List Int).length) 1), (6, sb b2' (([0, 2] : List Int).length) 2), (7, sb b3' (([2, 1] : List Int).length) 2), (9, pb rb), (13, pb rb)] ∧ SH w w' [rb] [.blk rb 78 [.slice Ab bs.length cb, I ((p : Nat) : Int)], .blk b1 29 [ns, Str [], Str [], I 0, ns, Str [], I 0], oI b1' ([2] : List Int) 1 3, oI b2' ([0, 2] : List Int) 2 3, oI b3' ([2, 1] : List Int) 2 3]) ?_ (fun D_1_69 => ?_)
   · rintro f w234 ⟨b1', b2', b3', hf, hs234⟩
     obtain ⟨g70, rfl⟩ := has_upd hf
     clear hf
     refine aaL [0, 6, 12] (fa_cons ?_ (fa_cons ?_ (fa_one ?_)))
     · refine one_ rfl ?_
       refine bsk hs234 sl23 [I 0] [I 0] trivial rfl (fun b0' w235 hs235 => ?_)
       exact nl (kq ⟨_, hs235, memi 1 rfl, trivial⟩ (alc D_1_33 ⟨b0', b1', b2', b3', ⟨rfl, rfl, rfl, rfl, rfl, rfl, rfl, rfl, trivial⟩, (hs235.pick [0, 1, 5, 2, 3, 4] rfl (by decide))⟩))
     · refine one_ rfl ?_
       refine cl trivial rfl (pick (rb := rb) (Ab := Ab) (cb := cb) (bs := bs) (p := p) (n := 4) (w := _) (hr := (blk_heap hs234 0 rfl)) (hb := (hb.up hs234 (fun _ h => h) (fun _ h => .inl h))) (hbn := (by first | assumption | (simp; omega))) (hp := (by omega))) ?_
       rintro _ w236 ⟨r6', q6', rfl, p304, p305, hs236'⟩
       have hs236 := hs234.callM 0 rfl hs236' (by intro k hk; simp at hk; exact hk.symm)
       clear hs236'
       exact nl (kq ⟨_, hs236, memi 0 rfl, trivial⟩ (alc D_1_47 ⟨b1', b2', b3', r6', q6', ⟨rfl, rfl, rfl, rfl, rfl, rfl, rfl, trivial⟩, p304, p305, (hs236.pick [4, 0, 1, 2, 3] rfl (by decide))⟩))
     · refine one_ rfl ?_
       refine al (v := .agg #[ns, Str [], Str [], I 0, ns, Str [], I 0]) (cs := [ns, Str [], Str [], I 0, ns, Str [], I 0]) hs234 tz29 rfl trivial rfl (fun b12' w237 hs237 => ?_)
       exact nl (kq ⟨_, hs237, memi 1 rfl, trivial⟩ (alc D_1_48 ⟨b1', b2', b3', b12', ⟨rfl, rfl, rfl, rfl, rfl, rfl, rfl, rfl, trivial⟩, (hs237.pick [0, 1, 2, 5, 3, 4] rfl (by decide))⟩))
   refine dag (fuel' := 9) (listed' := lbits 14 614) (fun f w' => ∃ (b1' b2' : Nat) (r6' : Int) (q6' : Nat), Has f [(0, pb rb), (2, pb b1), (5, sb b1' (([2] : List Int).length) 1), (6, sb b2' (([0, 2] : List Int).length) 2), (10, I r6'), (13, pb rb)] ∧ (0 ≤ r6' ∧ (r6' < 4 ∨ r6' = 0)) ∧ (q6' ≤ p + 1) ∧ SH w w' [rb] [.blk rb 78 [.slice Ab bs.length cb, I ((q6' : Nat) : Int)], .blk b1 29 [ns, Str [], Str [], I 0, ns, Str [], I 0], oI b1' ([2] : List Int) 1 3, oI b2' ([0, 2] : List Int) 2 3]) ?_ (fun D_1_70 => ?_)
   · rintro f w238 ⟨b1', b2', r6', q6', hf, p306, p307, hs238⟩
     obtain ⟨g71, rfl⟩ := has_upd hf
     clear hf
     refine aaL [0, 3, 10, 12] (fa_cons ?_ (fa_cons ?_ (fa_cons ?_ (fa_one ?_))))
     · refine one_ rfl ?_
       refine bsk hs238 sl23 [I 0] [I 0] trivial rfl (fun b0' w239 hs239 => ?_)
       exact nl (kq ⟨_, hs239, memi 1 rfl, trivial⟩ (alc D_1_34 ⟨b0', b1', b2', r6', q6', ⟨rfl, rfl, rfl, rfl, rfl, rfl, rfl, trivial⟩, p306, p307, (hs239.pick [0, 1, 4, 2, 3] rfl (by decide))⟩))
     · refine one_ rfl ?_
       refine bsk hs238 sl23 [I 2, I 1] [I 2, I 1] trivial rfl (fun b3' w240 hs240 => ?_)
       exact nl (kq ⟨_, hs240, memi 1 rfl, trivial⟩ (alc D_1_47 ⟨b1', b2', b3', r6', q6', ⟨rfl, rfl, rfl, rfl, rfl, rfl, rfl, trivial⟩, p306, p307, hs240⟩))
     · refine one_ rfl ?_
       refine cl trivial rfl (l91Address (rb := rb) (Ab := Ab) (cb := cb) (bs := bs) (p := q6') (w := _) (hr := (blk_heap hs238 0 rfl)) (hb := (hb.up hs238 (fun _ h => h) (fun _ h => .inl h))) (hbn := (by first | assumption | (simp; omega))) (hp := (by omega))) ?_
       rintro _ w241 ⟨Aq10', cq10', ak10', aq10', an10', apt10', q10', rfl, p308, p309, p310, hs241'⟩
       have hs241 := hs238.callM 0 rfl hs241' (by intro k hk; simp at hk; exact hk.symm)
       clear hs241'
       exact nl (kq ⟨_, hs241, memi 0 rfl, trivial⟩ (alc D_1_49 ⟨b1', b2', r6', q6', Aq10', cq10', ak10', aq10', an10', apt10', q10', ⟨rfl, rfl, rfl, rfl, rfl, rfl, trivial⟩, p306, p307, p308, p309, p310, (hs241.pick [3, 0, 1, 4, 2] rfl (by decide))⟩))
     · refine one_ rfl ?_
       refine al (v := .agg #[ns, Str [], Str [], I 0, ns, Str [], I 0]) (cs := [ns, Str [], Str [], I 0, ns, Str [], I 0]) hs238 tz29 rfl trivial rfl (fun b12' w242 hs242 => ?_)
       exact nl (kq ⟨_, hs242, memi 1 rfl, trivial⟩ (alc D_1_50 ⟨b1', b2', r6', q6', b12', ⟨rfl, rfl, rfl, rfl, rfl, rfl, rfl, trivial⟩, p306, p307, (hs242.pick [0, 1, 2, 4, 3] rfl (by decide))⟩))
   refine dag (fuel' := 9) (listed' := lbits 14 4646) (fun f w' => ∃ (b1' b2' b12' : Nat), Has f [(0, pb rb), (2, pb b1), (3, pb b12'), (5, sb b1' (([2] : List Int).length) 1), (6, sb b2' (([0, 2] : List Int).length) 2), (9, pb rb), (13, pb rb)] ∧ SH w w' [rb] [.blk rb 78 [.slice Ab bs.length cb, I ((p : Nat) : Int)], .blk b1 29 [ns, Str [], Str [], I 0, ns, Str [], I 0], oI b1' ([2] : List Int) 1 3, .blk b12' 29 [ns, Str [], Str [], I 0, ns, Str [], I 0], oI b2' ([0, 2] : List Int) 2 3]) ?_ (fun D_1_71 => ?_)
   · rintro f w243 ⟨b1', b2', b12', hf, hs243⟩
     obtain ⟨g72, rfl⟩ := has_upd hf
     clear hf
     refine aaL [0, 3, 6] (fa_cons ?_ (fa_cons ?_ (fa_one ?_)))
     · refine one_ rfl ?_
       refine bsk hs243 sl23 [I 0] [I 0] trivial rfl (fun b0' w244 hs244 => ?_)
       exact nl (kq ⟨_, hs244, memi 1 rfl, trivial⟩ (alc D_1_35 ⟨b0', b1', b2', b12', ⟨rfl, rfl, rfl, rfl, rfl, rfl, rfl, rfl, trivial⟩, (hs244.pick [0, 1, 5, 2, 3, 4] rfl (by decide))⟩))
     · refine one_ rfl ?_
       refine bsk hs243 sl23 [I 2, I 1] [I 2, I 1] trivial rfl (fun b3' w245 hs245 => ?_)
       exact nl (kq ⟨_, hs245, memi 1 rfl, trivial⟩ (alc D_1_48 ⟨b1', b2', b3', b12', ⟨rfl, rfl, rfl, rfl, rfl, rfl, rfl, rfl, trivial⟩, hs245⟩))
     · refine one_ rfl ?_
       refine cl trivial rfl (pick (rb := rb) (Ab := Ab) (cb := cb) (bs := bs) (p := p) (n := 4) (w := _) (hr := (blk_heap hs243 0 rfl)) (hb := (hb.up hs243 (fun _ h => h) (fun _ h => .inl h))) (hbn := (by first | assumption | (simp; omega))) (hp := (by omega))) ?_
       rintro _ w246 ⟨r6', q6', rfl, p311, p312, hs246'⟩
       have hs246 := hs243.callM 0 rfl hs246' (by intro k hk; simp at hk; exact hk.symm)
       clear hs246'
       exact nl (kq ⟨_, hs246, memi 0 rfl, trivial⟩ (alc D_1_50 ⟨b1', b2', r6', q6', b12', ⟨rfl, rfl, rfl, rfl, rfl, rfl, rfl, trivial⟩, p311, p312, (hs246.pick [4, 0, 1, 2, 3] rfl (by decide))⟩))
   refine dag (fuel' := 9) (listed' := lbits 14 618) (fun f w' => ∃ (b1' b3' : Nat) (r6' : Int) (q6' : Nat), Has f [(0, pb rb), (2, pb b1), (5, sb b1' (([2] : List Int).length) 1), (7, sb b3' (([2, 1] : List Int).length) 2), (10, I r6'), (13, pb rb)] ∧ (0 ≤ r6' ∧ (r6' < 4 ∨ r6' = 0)) ∧ (q6' ≤ p + 1) ∧ SH w w' [rb] [.blk rb 78 [.slice Ab bs.length cb, I ((q6' : Nat) : Int)], .blk b1 29 [ns, Str [], Str [], I 0, ns, Str [], I 0], oI b1' ([2] : List Int) 1 3, oI b3' ([2, 1] : List Int) 2 3]) ?_ (fun D_1_72 => ?_)
   · rintro f w247 ⟨b1', b3', r6', q6', hf, p313, p314, hs247⟩
     obtain ⟨g73, rfl⟩ := has_upd hf
     clear hf
     refine aaL [0, 2, 10, 12] (fa_cons ?_ (fa_cons ?_ (fa_cons ?_ (fa_one ?_))))
     · refine one_ rfl ?_
       refine bsk hs247 sl23 [I 0] [I 0] trivial rfl (fun b0' w248 hs248 => ?_)
       exact nl (kq ⟨_, hs248, memi 1 rfl, trivial⟩ (alc D_1_36 ⟨b0', b1', b3', r6', q6', ⟨rfl, rfl, rfl, rfl, rfl, rfl, rfl, trivial⟩, p313, p314, (hs248.pick [0, 1, 4, 2, 3] rfl (by decide))⟩))
     · refine one_ rfl ?_
       refine bsk hs247 sl23 [I 0, I 2] [I 0, I 2] trivial rfl (fun b2' w249 hs249 => ?_)
       exact nl (kq ⟨_, hs249, memi 1 rfl, trivial⟩ (alc D_1_47 ⟨b1', b2', b3', r6', q6', ⟨rfl, rfl, rfl, rfl, rfl, rfl, rfl, trivial⟩, p313, p314, (hs249.pick [0, 1, 2, 4, 3] rfl (by decide))⟩))
     · refine one_ rfl ?_
       refine cl trivial rfl (l91Address (rb := rb) (Ab := Ab) (cb := cb) (bs := bs) (p := q6') (w := _) (hr := (blk_heap hs247 0 rfl)) (hb := (hb.up hs247 (fun _ h => h) (fun _ h => .inl h))) (hbn := (by first | assumption | (simp; omega))) (hp := (by omega))) ?_
       rintro _ w250 ⟨Aq10', cq10', ak10', aq10', an10', apt10', q10', rfl, p315, p316, p317, hs250'⟩
       have hs250 := hs247.callM 0 rfl hs250' (by intro k hk; simp at hk; exact hk.symm)
       clear hs250'
       exact nl (kq ⟨_, hs250, memi 0 rfl, trivial⟩ (alc D_1_51 ⟨b1', b3', r6', q6', Aq10', cq10', ak10', aq10', an10', apt10', q10', ⟨rfl, rfl, rfl, rfl, rfl, rfl, trivial⟩, p313, p314, p315, p316, p317, (hs250.pick [3, 0, 1, 4, 2] rfl (by decide))⟩))
     · refine one_ rfl ?_
       refine al (v := .agg #[ns, Str [], Str [], I 0, ns, Str [], I 0]) (cs := [ns, Str [], Str [], I 0, ns, Str [], I 0]) hs247 tz29 rfl trivial rfl (fun b12' w251 hs251 => ?_)
       exact nl (kq ⟨_, hs251, memi 1 rfl, trivial⟩ (alc D_1_52 ⟨b1', b3', r6', q6', b12', ⟨rfl, rfl, rfl, rfl, rfl, rfl, rfl, trivial⟩, p313, p314, (hs251.pick [0, 1, 2, 4, 3] rfl (by decide))⟩))
   refine dag (fuel' := 9) (listed' := lbits 14 4650) (fun f w' => ∃ (b1' b3' b12' : Nat), Has f [(0, pb rb), (2, pb b1), (3, pb b12'), (5, sb b1' (([2] : List Int).length) 1), (7, sb b3' (([2, 1] : List Int).length) 2), (9, pb rb), (13, pb rb)] ∧ SH w w' [rb] [.blk rb 78 [.slice Ab bs.length cb, I ((p : Nat) : Int)], .blk b1 29 [ns, Str [], Str [], I 0, ns, Str [], I 0], oI b1' ([2] : List Int) 1 3, .blk b12' 29 [ns, Str [], Str [], I 0, ns, Str [], I 0], oI b3' ([2, 1] : List Int) 2 3]) ?_ (fun D_1_73 => ?_)
   · rintro f w252 ⟨b1', b3', b12', hf, hs252⟩
     obtain ⟨g74, rfl⟩ := has_upd hf
     clear hf
     refine aaL [0, 2, 6] (fa_cons ?_ (fa_cons ?_ (fa_one ?_)))
     · refine one_ rfl ?_
       refine bsk hs252 sl23 [I 0] [I 0] trivial rfl (fun b0' w253 hs253 => ?_)
       exact nl (kq ⟨_, hs253, memi 1 rfl, trivial⟩ (alc D_1_37 ⟨b0', b1', b3', b12', ⟨rfl, rfl, rfl, rfl, rfl, rfl, rfl, rfl, trivial⟩, (hs253.pick [0, 1, 5, 2, 3, 4] rfl (by decide))⟩))
     · refine one_ rfl ?_
       refine bsk hs252 sl23 [I 0, I 2] [I 0, I 2] trivial rfl (fun b2' w254 hs254 => ?_)
       exact nl (kq ⟨_, hs254, memi 1 rfl, trivial⟩ (alc D_1_48 ⟨b1', b2', b3', b12', ⟨rfl, rfl, rfl, rfl, rfl, rfl, rfl, rfl, trivial⟩, (hs254.pick [0, 1, 2, 3, 5, 4] rfl (by decide))⟩))
     · refine one_ rfl ?_
       refine cl trivial rfl (pick (rb := rb) (Ab := Ab) (cb := cb) (bs := bs) (p := p) (n := 4) (w := _) (hr := (blk_heap hs252 0 rfl)) (hb := (hb.up hs252 (fun _ h => h) (fun _ h => .inl h))) (hbn := (by first | assumption | (simp; omega))) (hp := (by omega))) ?_
       rintro _ w255 ⟨r6', q6', rfl, p318, p319, hs255'⟩
       have hs255 := hs252.callM 0 rfl hs255' (by intro k hk; simp at hk; exact hk.symm)
       clear hs255'
       exact nl (kq ⟨_, hs255, memi 0 rfl, trivial⟩ (alc D_1_52 ⟨b1', b3', r6', q6', b12', ⟨rfl, rfl, rfl, rfl, rfl, rfl, rfl, trivial⟩, p318, p319, (hs255.pick [4, 0, 1, 2, 3] rfl (by decide))⟩))
   refine dag (fuel' := 9) (listed' := lbits 14 1634) (fun f w' => ∃ (b1' : Nat) (r6' : Int) (q6' : Nat) (Aq10' : Option Addr) (cq10' : Nat) (ak10' : Int) (aq10' : List Int) (an10' : List UInt8) (apt10' : Int) (q10' : Nat), Has f [(0, pb rb), (2, pb b1), (5, sb b1' (([2] : List Int).length) 1), (10, I r6'), (14, .agg #[I ak10', .slice Aq10' aq10'.length cq10', Str an10', I apt10'])] ∧ (0 ≤ r6' ∧ (r6' < 4 ∨ r6' = 0)) ∧ (q6' ≤ p + 1) ∧ (aq10'.length ≤ 4) ∧ (an10'.length ≤ 21) ∧ (q10' ≤ q6' + 40) ∧ SH w w' [rb] [.blk rb 78 [.slice Ab bs.length cb, I ((q10' : Nat) : Int)], .blk b1 29 [ns, Str [], Str [], I 0, ns, Str [], I 0], oI b1' ([2] : List Int) 1 3, .own Aq10' aq10'.length cq10' 3 1 (aq10'.map I)]) ?_ (fun D_1_74 => ?_)
   · rintro f w256 ⟨b1', r6', q6', Aq10', cq10', ak10', aq10', an10', apt10', q10', hf, p320, p321, p322, p323, p324, hs256⟩
     obtain ⟨g75, rfl⟩ := has_upd hf
     clear hf
     refine aaL [0, 2, 3, 12] (fa_cons ?_ (fa_cons ?_ (fa_cons ?_ (fa_one ?_))))
     · refine one_ rfl ?_
       refine bsk hs256 sl23 [I 0] [I 0] trivial rfl (fun b0' w257 hs257 => ?_)
       exact nl (kq ⟨_, hs257, memi 1 rfl, trivial⟩ (alc D_1_38 ⟨b0', b1', r6', q6', Aq10', cq10', ak10', aq10', an10', apt10', q10', ⟨rfl, rfl, rfl, rfl, rfl, rfl, trivial⟩, p320, p321, p322, p323, p324, (hs257.pick [0, 1, 4, 2, 3] rfl (by decide))⟩))
     · refine one_ rfl ?_
       refine bsk hs256 sl23 [I 0, I 2] [I 0, I 2] trivial rfl (fun b2' w258 hs258 => ?_)
       exact nl (kq ⟨_, hs258, memi 1 rfl, trivial⟩ (alc D_1_49 ⟨b1', b2', r6', q6', Aq10', cq10', ak10', aq10', an10', apt10', q10', ⟨rfl, rfl, rfl, rfl, rfl, rfl, trivial⟩, p320, p321, p322, p323, p324, hs258⟩))
     · refine one_ rfl ?_
       refine bsk hs256 sl23 [I 2, I 1] [I 2, I 1] trivial rfl (fun b3' w259 hs259 => ?_)
       exact nl (kq ⟨_, hs259, memi 1 rfl, trivial⟩ (alc D_1_51 ⟨b1', b3', r6', q6', Aq10', cq10', ak10', aq10', an10', apt10', q10', ⟨rfl, rfl, rfl, rfl, rfl, rfl, trivial⟩, p320, p321, p322, p323, p324, hs259⟩))
     · refine one_ rfl ?_
       refine al (v := .agg #[ns, Str [], Str [], I 0, ns, Str [], I 0]) (cs := [ns, Str [], Str [], I 0, ns, Str [], I 0]) hs256 tz29 rfl trivial rfl (fun b12' w260 hs260 => ?_)
       exact nl (kq ⟨_, hs260, memi 1 rfl, trivial⟩ (alc D_1_53 ⟨b1', r6', q6', b12', Aq10', cq10', ak10', aq10', an10', apt10', q10', ⟨rfl, rfl, rfl, rfl, rfl, rfl, trivial⟩, p320, p321, p322, p323, p324, hs260⟩))
   refine dag (fuel' := 9) (listed' := lbits 14 4706) (fun f w' => ∃ (b1' : Nat) (r6' : Int) (q6' b12' : Nat), Has f [(0, pb rb), (2, pb b1), (3, pb b12'), (5, sb b1' (([2] : List Int).length) 1), (10, I r6'), (13, pb rb)] ∧ (0 ≤ r6' ∧ (r6' < 4 ∨ r6' = 0)) ∧ (q6' ≤ p + 1) ∧ SH w w' [rb] [.blk rb 78 [.slice Ab bs.length cb, I ((q6' : Nat) : Int)], .blk b1 29 [ns, Str [], Str [], I 0, ns, Str [], I 0], oI b1' ([2] : List Int) 1 3, .blk b12' 29 [ns, Str [], Str [], I 0, ns, Str [], I 0]]) ?_ (fun D_1_75 => ?_)
   · rintro f w261 ⟨b1', r6', q6', b12', hf, p325, p326, hs261⟩
     obtain ⟨g76, rfl⟩ := has_upd hf
     clear hf
     refine aaL [0, 2, 3, 10] (fa_cons ?_ (fa_cons ?_ (fa_cons ?_ (fa_one ?_))))
     · refine one_ rfl ?_
       refine bsk hs261 sl23 [I 0] [I 0] trivial rfl (fun b0' w262 hs262 => ?_)
       exact nl (kq ⟨_, hs262, memi 1 rfl, trivial⟩ (alc D_1_39 ⟨b0', b1', r6', q6', b12', ⟨rfl, rfl, rfl, rfl, rfl, rfl, rfl, trivial⟩, p325, p326, (hs262.pick [0, 1, 4, 2, 3] rfl (by decide))⟩))
     · refine one_ rfl ?_
       refine bsk hs261 sl23 [I 0, I 2] [I 0, I 2] trivial rfl (fun b2' w263 hs263 => ?_)
       exact nl (kq ⟨_, hs263, memi 1 rfl, trivial⟩ (alc D_1_50 ⟨b1', b2', r6', q6', b12', ⟨rfl, rfl, rfl, rfl, rfl, rfl, rfl, trivial⟩, p325, p326, hs263⟩))
     · refine one_ rfl ?_
       refine bsk hs261 sl23 [I 2, I 1] [I 2, I 1] trivial rfl (fun b3' w264 hs264 => ?_)
       exact nl (kq ⟨_, hs264, memi 1 rfl, trivial⟩ (alc D_1_52 ⟨b1', b3', r6', q6', b12', ⟨rfl, rfl, rfl, rfl, rfl, rfl, rfl, trivial⟩, p325, p326, hs264⟩))
     · refine one_ rfl ?_
       refine cl trivial rfl (l91Address (rb := rb) (Ab := Ab) (cb := cb) (bs := bs) (p := q6') (w := _) (hr := (blk_heap hs261 0 rfl)) (hb := (hb.up hs261 (fun _ h => h) (fun _ h => .inl h))) (hbn := (by first | assumption | (simp; omega))) (hp := (by omega))) ?_
       rintro _ w265 ⟨Aq10', cq10', ak10', aq10', an10', apt10', q10', rfl, p327, p328, p329, hs265'⟩
       have hs265 := hs261.callM 0 rfl hs265' (by intro k hk; simp at hk; exact hk.symm)
       clear hs265'
       exact nl (kq ⟨_, hs265, memi 0 rfl, trivial⟩ (alc D_1_53 ⟨b1', r6', q6', b12', Aq10', cq10', ak10', aq10', an10', apt10', q10', ⟨rfl, rfl, rfl, rfl, rfl, rfl, trivial⟩, p325, p326, p327, p328, p329, (hs265.pick [3, 0, 1, 4, 2] rfl (by decide))⟩))
   refine dag (fuel' := 9) (listed' := lbits 14 620) (fun f w' => ∃ (b2' b3' : Nat) (r6' : Int) (q6' : Nat), Has f [(0, pb rb), (2, pb b1), (6, sb b2' (([0, 2] : List Int).length) 2), (7, sb b3' (([2, 1] : List Int).length) 2), (10, I r6'), (13, pb rb)] ∧ (0 ≤ r6' ∧ (r6' < 4 ∨ r6' = 0)) ∧ (q6' ≤ p + 1) ∧ SH w w' [rb] [.blk rb 78 [.slice Ab bs.length cb, I ((q6' : Nat) : Int)], .blk b1 29 [ns, Str [], Str [], I 0, ns, Str [], I 0], oI b2' ([0, 2] : List Int) 2 3, oI b3' ([2, 1] : List Int) 2 3]) ?_ (fun D_1_76 => ?_)
   · rintro f w266 ⟨b2', b3', r6', q6', hf, p330, p331, hs266⟩
     obtain ⟨g77, rfl⟩ := has_upd hf
     clear hf
     refine aaL [0, 1, 10, 12] (fa_cons ?_ (fa_cons ?_ (fa_cons ?_ (fa_one ?_))))
     · refine one_ rfl ?_
       refine bsk hs266 sl23 [I 0] [I 0] trivial rfl (fun b0' w267 hs267 => ?_)
       exact nl (kq ⟨_, hs267, memi 1 rfl, trivial⟩ (alc D_1_40 ⟨b0', b2', b3', r6', q6', ⟨rfl, rfl, rfl, rfl, rfl, rfl, rfl, trivial⟩, p330, p331, (hs267.pick [0, 1, 4, 2, 3] rfl (by decide))⟩))
     · refine one_ rfl ?_
       refine bsk hs266 sl23 [I 2] [I 2] trivial rfl (fun b1' w268 hs268 => ?_)
       exact nl (kq ⟨_, hs268, memi 1 rfl, trivial⟩ (alc D_1_47 ⟨b1', b2', b3', r6', q6', ⟨rfl, rfl, rfl, rfl, rfl, rfl, rfl, trivial⟩, p330, p331, (hs268.pick [0, 1, 4, 2, 3] rfl (by decide))⟩))
     · refine one_ rfl ?_
       refine cl trivial rfl (l91Address (rb := rb) (Ab := Ab) (cb := cb) (bs := bs) (p := q6') (w := _) (hr := (blk_heap hs266 0 rfl)) (hb := (hb.up hs266 (fun _ h => h) (fun _ h => .inl h))) (hbn := (by first | assumption | (simp; omega))) (hp := (by omega))) ?_
       rintro _ w269 ⟨Aq10', cq10', ak10', aq10', an10', apt10', q10', rfl, p332, p333, p334, hs269'⟩
       have hs269 := hs266.callM 0 rfl hs269' (by intro k hk; simp at hk; exact hk.symm)
       clear hs269'
       exact nl (kq ⟨_, hs269, memi 0 rfl, trivial⟩ (alc D_1_54 ⟨b2', b3', r6', q6', Aq10', cq10', ak10', aq10', an10', apt10', q10', ⟨rfl, rfl, rfl, rfl, rfl, rfl, trivial⟩, p330, p331, p332, p333, p334, (hs269.pick [3, 0, 4, 1, 2] rfl (by decide))⟩))
     · refine one_ rfl ?_
       refine al (v := .agg #[ns, Str [], Str [], I 0, ns, Str [], I 0]) (cs := [ns, Str [], Str [], I 0, ns, Str [], I 0]) hs266 tz29 rfl trivial rfl (fun b12' w270 hs270 => ?_)
       exact nl (kq ⟨_, hs270, memi 1 rfl, trivial⟩ (alc D_1_55 ⟨b2', b3', r6', q6', b12', ⟨rfl, rfl, rfl, rfl, rfl, rfl, rfl, trivial⟩, p330, p331, (hs270.pick [0, 1, 4, 2, 3] rfl (by decide))⟩))
   refine dag (fuel' := 9) (listed' := lbits 14 4652) (fun f w' => ∃ (b2' b3' b12' : Nat), Has f [(0, pb rb), (2, pb b1), (3, pb b12'), (6, sb b2' (([0, 2] : List Int).length) 2), (7, sb b3' (([2, 1] : List Int).length) 2), (9, pb rb), (13, pb rb)] ∧ SH w w' [rb] [.blk rb 78 [.slice Ab bs.length cb, I ((p : Nat) : Int)], .blk b1 29 [ns, Str [], Str [], I 0, ns, Str [], I 0], .blk b12' 29 [ns, Str [], Str [], I 0, ns, Str [], I 0], oI b2' ([0, 2] : List Int) 2 3, oI b3' ([2, 1] : List Int) 2 3]) ?_ (fun D_1_77 => ?_)
   · rintro f w271 ⟨b2', b3', b12', hf, hs271⟩
     obtain ⟨g78, rfl⟩ := has_upd hf
     clear hf
     refine aaL [0, 1, 6] (fa_cons ?_ (fa_cons ?_ (fa_one ?_)))
     · refine one_ rfl ?_
       refine bsk hs271 sl23 [I 0] [I 0] trivial rfl (fun b0' w272 hs272 => ?_)
       exact nl (kq ⟨_, hs272, memi 1 rfl, trivial⟩ (alc D_1_41 ⟨b0', b2', b3', b12', ⟨rfl, rfl, rfl, rfl, rfl, rfl, rfl, rfl, trivial⟩, (hs272.pick [0, 1, 5, 2, 3, 4] rfl (by decide))⟩))
     · refine one_ rfl ?_
       refine bsk hs271 sl23 [I 2] [I 2] trivial rfl (fun b1' w273 hs273 => ?_)
       exact nl (kq ⟨_, hs273, memi 1 rfl, trivial⟩ (alc D_1_48 ⟨b1', b2', b3', b12', ⟨rfl, rfl, rfl, rfl, rfl, rfl, rfl, rfl, trivial⟩, (hs273.pick [0, 1, 5, 2, 3, 4] rfl (by decide))⟩))
     · refine one_ rfl ?_
       refine cl trivial rfl (pick (rb := rb) (Ab := Ab) (cb := cb) (bs := bs) (p := p) (n := 4) (w := _) (hr := (blk_heap hs271 0 rfl)) (hb := (hb.up hs271 (fun _ h => h) (fun _ h => .inl h))) (hbn := (by first | assumption | (simp; omega))) (hp := (by omega))) ?_
       rintro _ w274 ⟨r6', q6', rfl, p335, p336, hs274'⟩
       have hs274 := hs271.callM 0 rfl hs274' (by intro k hk; simp at hk; exact hk.symm)
       clear hs274'
       exact nl (kq ⟨_, hs274, memi 0 rfl, trivial⟩ (alc D_1_55 ⟨b2', b3', r6', q6', b12', ⟨rfl, rfl, rfl, rfl, rfl, rfl, rfl, trivial⟩, p335, p336, (hs274.pick [4, 0, 1, 2, 3] rfl (by decide))⟩))
   refine dag (fuel' := 9) (listed' := lbits 14 1636) (fun f w' => ∃ (b2' : Nat) (r6' : Int) (q6' : Nat) (Aq10' : Option Addr) (cq10' : Nat) (ak10' : Int) (aq10' : List Int) (an10' : List UInt8) (apt10' : Int) (q10' : Nat), Has f [(0, pb rb), (2, pb b1), (6, sb b2' (([0, 2] : List Int).length) 2), (10, I r6'), (14, .agg #[I ak10', .slice Aq10' aq10'.length cq10', Str an10', I apt10'])] ∧ (0 ≤ r6' ∧ (r6' < 4 ∨ r6' = 0)) ∧ (q6' ≤ p + 1) ∧ (aq10'.length ≤ 4) ∧ (an10'.length ≤ 21) ∧ (q10' ≤ q6' + 40) ∧ SH w w' [rb] [.blk rb 78 [.slice Ab bs.length cb, I ((q10' : Nat) : Int)], .blk b1 29 [ns, Str [], Str [], I 0, ns, Str [], I 0], .own Aq10' aq10'.length cq10' 3 1 (aq10'.map I), oI b2' ([0, 2] : List Int) 2 3]) ?_ (fun D_1_78 => ?_)
   · rintro f w275 ⟨b2', r6', q6', Aq10', cq10', ak10', aq10', an10', apt10', q10', hf, p337, p338, p339, p340, p341, hs275⟩
     obtain ⟨g79, rfl⟩ := has_upd hf
     clear hf
     refine aaL [0, 1, 3, 12] (fa_cons ?_ (fa_cons ?_ (fa_cons ?_ (fa_one ?_))))
     · refine one_ rfl ?_
       refine bsk hs275 sl23 [I 0] [I 0] trivial rfl (fun b0' w276 hs276 => ?_)
       exact nl (kq ⟨_, hs276, memi 1 rfl, trivial⟩ (alc D_1_42 ⟨b0', b2', r6', q6', Aq10', cq10', ak10', aq10', an10', apt10', q10', ⟨rfl, rfl, rfl, rfl, rfl, rfl, trivial⟩, p337, p338, p339, p340, p341, (hs276.pick [0, 1, 4, 2, 3] rfl (by decide))⟩))
     · refine one_ rfl ?_
       refine bsk hs275 sl23 [I 2] [I 2] trivial rfl (fun b1' w277 hs277 => ?_)
       exact nl (kq ⟨_, hs277, memi 1 rfl, trivial⟩ (alc D_1_49 ⟨b1', b2', r6', q6', Aq10', cq10', ak10', aq10', an10', apt10', q10', ⟨rfl, rfl, rfl, rfl, rfl, rfl, trivial⟩, p337, p338, p339, p340, p341, (hs277.pick [0, 1, 4, 2, 3] rfl (by decide))⟩))
     · refine one_ rfl ?_
       refine bsk hs275 sl23 [I 2, I 1] [I 2, I 1] trivial rfl (fun b3' w278 hs278 => ?_)
       exact nl (kq ⟨_, hs278, memi 1 rfl, trivial⟩ (alc D_1_54 ⟨b2', b3', r6', q6', Aq10', cq10', ak10', aq10', an10', apt10', q10', ⟨rfl, rfl, rfl, rfl, rfl, rfl, trivial⟩, p337, p338, p339, p340, p341, hs278⟩))
     · refine one_ rfl ?_
       refine al (v := .agg #[ns, Str [], Str [], I 0, ns, Str [], I 0]) (cs := [ns, Str [], Str [], I 0, ns, Str [], I 0]) hs275 tz29 rfl trivial rfl (fun b12' w279 hs279 => ?_)
       exact nl (kq ⟨_, hs279, memi 1 rfl, trivial⟩ (alc D_1_56 ⟨b2', r6', q6', b12', Aq10', cq10', ak10', aq10', an10', apt10', q10', ⟨rfl, rfl, rfl, rfl, rfl, rfl, trivial⟩, p337, p338, p339, p340, p341, (hs279.pick [0, 1, 2, 4, 3] rfl (by decide))⟩))
   refine dag (fuel' := 9) (listed' := lbits 14 4708) (fun f w' => ∃ (b2' : Nat) (r6' : Int) (q6' b12' : Nat), Has f [(0, pb rb), (2, pb b1), (3, pb b12'), (6, sb b2' (([0, 2] : List Int).length) 2), (10, I r6'), (13, pb rb)] ∧ (0 ≤ r6' ∧ (r6' < 4 ∨ r6' = 0)) ∧ (q6' ≤ p + 1) ∧ SH w w' [rb] [.blk rb 78 [.slice Ab bs.length cb, I ((q6' : Nat) : Int)], .blk b1 29 [ns, Str [], Str [], I 0, ns, Str [], I 0], .blk b12' 29 [ns, Str [], Str [], I 0, ns, Str [], I 0], oI b2' ([0, 2] : List Int) 2 3]) ?_ (fun D_1_79 => ?_)
   · rintro f w280 ⟨b2', r6', q6', b12', hf, p342, p343, hs280⟩
     obtain ⟨g80, rfl⟩ := has_upd hf
     clear hf
     refine aaL [0, 1, 3, 10] (fa_cons ?_ (fa_cons ?_ (fa_cons ?_ (fa_one ?_))))
     · refine one_ rfl ?_
       refine bsk hs280 sl23 [I 0] [I 0] trivial rfl (fun b0' w281 hs281 => ?_)
       exact nl (kq ⟨_, hs281, memi 1 rfl, trivial⟩ (alc D_1_43 ⟨b0', b2', r6', q6', b12', ⟨rfl, rfl, rfl, rfl, rfl, rfl, rfl, trivial⟩, p342, p343, (hs281.pick [0, 1, 4, 2, 3] rfl (by decide))⟩))
     · refine one_ rfl ?_
       refine bsk hs280 sl23 [I 2] [I 2] trivial rfl (fun b1' w282 hs282 => ?_)
       exact nl (kq ⟨_, hs282, memi 1 rfl, trivial⟩ (alc D_1_50 ⟨b1', b2', r6', q6', b12', ⟨rfl, rfl, rfl, rfl, rfl, rfl, rfl, trivial⟩, p342, p343, (hs282.pick [0, 1, 4, 2, 3] rfl (by decide))⟩))
     · refine one_ rfl ?_
       refine bsk hs280 sl23 [I 2, I 1] [I 2, I 1] trivial rfl (fun b3' w283 hs283 => ?_)
       exact nl (kq ⟨_, hs283, memi 1 rfl, trivial⟩ (alc D_1_55 ⟨b2', b3', r6', q6', b12', ⟨rfl, rfl, rfl, rfl, rfl, rfl, rfl, trivial⟩, p342, p343, hs283⟩))
     · refine one_ rfl ?_
       refine cl trivial rfl (l91Address (rb := rb) (Ab := Ab) (cb := cb) (bs := bs) (p := q6') (w := _) (hr := (blk_heap hs280 0 rfl)) (hb := (hb.up hs280 (fun _ h => h) (fun _ h => .inl h))) (hbn := (by first | assumption | (simp; omega))) (hp := (by omega))) ?_
       rintro _ w284 ⟨Aq10', cq10', ak10', aq10', an10', apt10', q10', rfl, p344, p345, p346, hs284'⟩
       have hs284 := hs280.callM 0 rfl hs284' (by intro k hk; simp at hk; exact hk.symm)
       clear hs284'
       exact nl (kq ⟨_, hs284, memi 0 rfl, trivial⟩ (alc D_1_56 ⟨b2', r6', q6', b12', Aq10', cq10', ak10', aq10', an10', apt10', q10', ⟨rfl, rfl, rfl, rfl, rfl, rfl, trivial⟩, p342, p343, p344, p345, p346, (hs284.pick [3, 0, 4, 1, 2] rfl (by decide))⟩))
   refine dag (fuel' := 9) (listed' := lbits 14 1640) (fun f w' => ∃ (b3' : Nat) (r6' : Int) (q6' : Nat) (Aq10' : Option Addr) (cq10' : Nat) (ak10' : Int) (aq10' : List Int) (an10' : List UInt8) (apt10' : Int) (q10' : Nat), Has f [(0, pb rb), (2, pb b1), (7, sb b3' (([2, 1] : List Int).length) 2), (10, I r6'), (14, .agg #[I ak10', .slice Aq10' aq10'.length cq10', Str an10', I apt10'])] ∧ (0 ≤ r6' ∧ (r6' < 4 ∨ r6' = 0)) ∧ (q6' ≤ p + 1) ∧ (aq10'.length ≤ 4) ∧ (an10'.length ≤ 21) ∧ (q10' ≤ q6' + 40) ∧ SH w w' [rb] [.blk rb 78 [.slice Ab bs.length cb, I ((q10' : Nat) : Int)], .blk b1 29 [ns, Str [], Str [], I 0, ns, Str [], I 0], .own Aq10' aq10'.length cq10' 3 1 (aq10'.map I), oI b3' ([2, 1] : List Int) 2 3]) ?_ (fun D_1_80 => ?_)
   · rintro f w285 ⟨b3', r6', q6', Aq10', cq10', ak10', aq10', an10', apt10', q10', hf, p347, p348, p349, p350, p351, hs285⟩
     obtain ⟨g81, rfl⟩ := has_upd hf
     clear hf
     refine aaL [0, 1, 2, 12] (fa_cons ?_ (fa_cons ?_ (fa_cons ?_ (fa_one ?_))))
     · refine one_ rfl ?_
       refine bsk hs285 sl23 [I 0] [I 0] trivial rfl (fun b0' w286 hs286 => ?_)
       exact nl (kq ⟨_, hs286, memi 1 rfl, trivial⟩ (alc D_1_44 ⟨b0', b3', r6', q6', Aq10', cq10', ak10', aq10', an10', apt10', q10', ⟨rfl, rfl, rfl, rfl, rfl, rfl, trivial⟩, p347, p348, p349, p350, p351, (hs286.pick [0, 1, 4, 2, 3] rfl (by decide))⟩))
     · refine one_ rfl ?_
       refine bsk hs285 sl23 [I 2] [I 2] trivial rfl (fun b1' w287 hs287 => ?_)
       exact nl (kq ⟨_, hs287, memi 1 rfl, trivial⟩ (alc D_1_51 ⟨b1', b3', r6', q6', Aq10', cq10', ak10', aq10', an10', apt10', q10', ⟨rfl, rfl, rfl, rfl, rfl, rfl, trivial⟩, p347, p348, p349, p350, p351, (hs287.pick [0, 1, 4, 2, 3] rfl (by decide))⟩))
     · refine one_ rfl ?_
       refine bsk hs285 sl23 [I 0, I 2] [I 0, I 2] trivial rfl (fun b2' w288 hs288 => ?_)
       exact nl (kq ⟨_, hs288, memi 1 rfl, trivial⟩ (alc D_1_54 ⟨b2', b3', r6', q6', Aq10', cq10', ak10', aq10', an10', apt10', q10', ⟨rfl, rfl, rfl, rfl, rfl, rfl, trivial⟩, p347, p348, p349, p350, p351, (hs288.pick [0, 1, 2, 4, 3] rfl (by decide))⟩))
     · refine one_ rfl ?_
       refine al (v := .agg #[ns, Str [], Str [], I 0, ns, Str [], I 0]) (cs := [ns, Str [], Str [], I 0, ns, Str [], I 0]) hs285 tz29 rfl trivial rfl (fun b12' w289 hs289 => ?_)
       exact nl (kq ⟨_, hs289, memi 1 rfl, trivial⟩ (alc D_1_57 ⟨b3', r6', q6', b12', Aq10', cq10', ak10', aq10', an10', apt10', q10', ⟨rfl, rfl, rfl, rfl, rfl, rfl, trivial⟩, p347, p348, p349, p350, p351, (hs289.pick [0, 1, 2, 4, 3] rfl (by decide))⟩))
   refine dag (fuel' := 9) (listed' := lbits 14 4712) (fun f w' => ∃ (b3' : Nat) (r6' : Int) (q6' b12' : Nat), Has f [(0, pb rb), (2, pb b1), (3, pb b12'), (7, sb b3' (([2, 1] : List Int).length) 2), (10, I r6'), (13, pb rb)] ∧ (0 ≤ r6' ∧ (r6' < 4 ∨ r6' = 0)) ∧ (q6' ≤ p + 1) ∧ SH w w' [rb] [.blk rb 78 [.slice Ab bs.length cb, I ((q6' : Nat) : Int)], .blk b1 29 [ns, Str [], Str [], I 0, ns, Str [], I 0], .blk b12' 29 [ns, Str [], Str [], I 0, ns, Str [], I 0], oI b3' ([2, 1] : List Int) 2 3]) ?_ (fun D_1_81 => ?_)
   · rintro f w290 ⟨b3', r6', q6', b12', hf, p352, p353, hs290⟩
     obtain ⟨g82, rfl⟩ := has_upd hf
     clear hf
     refine aaL [0, 1, 2, 10] (fa_cons ?_ (fa_cons ?_ (fa_cons ?_ (fa_one ?_))))
     · refine one_ rfl ?_
       refine bsk hs290 sl23 [I 0] [I 0] trivial rfl (fun b0' w291 hs291 => ?_)
       exact nl (kq ⟨_, hs291, memi 1 rfl, trivial⟩ (alc D_1_45 ⟨b0', b3', r6', q6', b12', ⟨rfl, rfl, rfl, rfl, rfl, rfl, rfl, trivial⟩, p352, p353, (hs291.pick [0, 1, 4, 2, 3] rfl (by decide))⟩))
     · refine one_ rfl ?_
       refine bsk hs290 sl23 [I 2] [I 2] trivial rfl (fun b1' w292 hs292 => ?_)
       exact nl (kq ⟨_, hs292, memi 1 rfl, trivial⟩ (alc D_1_52 ⟨b1', b3', r6', q6', b12', ⟨rfl, rfl, rfl, rfl, rfl, rfl, rfl, trivial⟩, p352, p353, (hs292.pick [0, 1, 4, 2, 3] rfl (by decide))⟩))
     · refine one_ rfl ?_
       refine bsk hs290 sl23 [I 0, I 2] [I 0, I 2] trivial rfl (fun b2' w293 hs293 => ?_)
       exact nl (kq ⟨_, hs293, memi 1 rfl, trivial⟩ (alc D_1_55 ⟨b2', b3', r6', q6', b12', ⟨rfl, rfl, rfl, rfl, rfl, rfl, rfl, trivial⟩, p352, p353, (hs293.pick [0, 1, 2, 4, 3] rfl (by decide))⟩))
     · refine one_ rfl ?_
       refine cl trivial rfl (l91Address (rb := rb) (Ab := Ab) (cb := cb) (bs := bs) (p := q6') (w := _) (hr := (blk_heap hs290 0 rfl)) (hb := (hb.up hs290 (fun _ h => h) (fun _ h => .inl h))) (hbn := (by first | assumption | (simp; omega))) (hp := (by omega))) ?_
       rintro _ w294 ⟨Aq10', cq10', ak10', aq10', an10', apt10', q10', rfl, p354, p355, p356, hs294'⟩
       have hs294 := hs290.callM 0 rfl hs294' (by intro k hk; simp at hk; exact hk.symm)
       clear hs294'
       exact nl (kq ⟨_, hs294, memi 0 rfl, trivial⟩ (alc D_1_57 ⟨b3', r6', q6', b12', Aq10', cq10', ak10', aq10', an10', apt10', q10', ⟨rfl, rfl, rfl, rfl, rfl, rfl, trivial⟩, p352, p353, p354, p355, p356, (hs294.pick [3, 0, 4, 1, 2] rfl (by decide))⟩))
   refine dag (fuel' := 9) (listed' := lbits 14 5728) (fun f w' => ∃ (r6' : Int) (q6' b12' : Nat) (Aq10' : Option Addr) (cq10' : Nat) (ak10' : Int) (aq10' : List Int) (an10' : List UInt8) (apt10' : Int) (q10' : Nat), Has f [(0, pb rb), (2, pb b1), (3, pb b12'), (10, I r6'), (14, .agg #[I ak10', .slice Aq10' aq10'.length cq10', Str an10', I apt10'])] ∧ (0 ≤ r6' ∧ (r6' < 4 ∨ r6' = 0)) ∧ (q6' ≤ p + 1) ∧ (aq10'.length ≤ 4) ∧ (an10'.length ≤ 21) ∧ (q10' ≤ q6' + 40) ∧ SH w w' [rb] [.blk rb 78 [.slice Ab bs.length cb, I ((q10' : Nat) : Int)], .blk b1 29 [ns, Str [], Str [], I 0, ns, Str [], I 0], .own Aq10' aq10'.length cq10' 3 1 (aq10'.map I), .blk b12' 29 [ns, Str [], Str [], I 0, ns, Str [], I 0]]) ?_ (fun D_1_82 => ?_)
   · rintro f w295 ⟨r6', q6', b12', Aq10', cq10', ak10', aq10', an10', apt10', q10', hf, p357, p358, p359, p360, p361, hs295⟩
     obtain ⟨g83, rfl⟩ := has_upd hf
     clear hf
     refine aaL [0, 1, 2, 3] (fa_cons ?_ (fa_cons ?_ (fa_cons ?_ (fa_one ?_))))
     · refine one_ rfl ?_
       refine bsk hs295 sl23 [I 0] [I 0] trivial rfl (fun b0' w296 hs296 => ?_)
       exact nl (kq ⟨_, hs296, memi 1 rfl, trivial⟩ (alc D_1_46 ⟨b0', r6', q6', b12', Aq10', cq10', ak10', aq10', an10', apt10', q10', ⟨rfl, rfl, rfl, rfl, rfl, rfl, trivial⟩, p357, p358, p359, p360, p361, (hs296.pick [0, 1, 4, 2, 3] rfl (by decide))⟩))
     · refine one_ rfl ?_
       refine bsk hs295 sl23 [I 2] [I 2] trivial rfl (fun b1' w297 hs297 => ?_)
       exact nl (kq ⟨_, hs297, memi 1 rfl, trivial⟩ (alc D_1_53 ⟨b1', r6', q6', b12', Aq10', cq10', ak10', aq10', an10', apt10', q10', ⟨rfl, rfl, rfl, rfl, rfl, rfl, trivial⟩, p357, p358, p359, p360, p361, (hs297.pick [0, 1, 4, 2, 3] rfl (by decide))⟩))
     · refine one_ rfl ?_
       refine bsk hs295 sl23 [I 0, I 2] [I 0, I 2] trivial rfl (fun b2' w298 hs298 => ?_)
       exact nl (kq ⟨_, hs298, memi 1 rfl, trivial⟩ (alc D_1_56 ⟨b2', r6', q6', b12', Aq10', cq10', ak10', aq10', an10', apt10', q10', ⟨rfl, rfl, rfl, rfl, rfl, rfl, trivial⟩, p357, p358, p359, p360, p361, hs298⟩))
     · refine one_ rfl ?_
       refine bsk hs295 sl23 [I 2, I 1] [I 2, I 1] trivial rfl (fun b3' w299 hs299 => ?_)
       exact nl (kq ⟨_, hs299, memi 1 rfl, trivial⟩ (alc D_1_57 ⟨b3', r6', q6', b12', Aq10', cq10', ak10', aq10', an10', apt10', q10', ⟨rfl, rfl, rfl, rfl, rfl, rfl, trivial⟩, p357, p358, p359, p360, p361, hs299⟩))
   refine dag (fuel' := 10) (listed' := lbits 14 547) (fun f w' => ∃ (b0' b1' : Nat), Has f [(0, pb rb), (2, pb b1), (4, sb b0' (([0] : List Int).length) 1), (5, sb b1' (([2] : List Int).length) 1), (9, pb rb), (13, pb rb)] ∧ SH w w' [rb] [.blk rb 78 [.slice Ab bs.length cb, I ((p : Nat) : Int)], .blk b1 29 [ns, Str [], Str [], I 0, ns, Str [], I 0], oI b0' ([0] : List Int) 1 3, oI b1' ([2] : List Int) 1 3]) ?_ (fun D_1_83 => ?_)
   · rintro f w300 ⟨b0', b1', hf, hs300⟩
     obtain ⟨g84, rfl⟩ := has_upd hf
     clear hf
     refine aaL [2, 3, 6, 12] (fa_cons ?_ (fa_cons ?_ (fa_cons ?_ (fa_one ?_))))
     · refine one_ rfl ?_
       refine bsk hs300 sl23 [I 0, I 2] [I 0, I 2] trivial rfl (fun b2' w301 hs301 => ?_)
       exact nl (kq ⟨_, hs301, memi 1 rfl, trivial⟩ (alc D_1_58 ⟨b0', b1', b2', ⟨rfl, rfl, rfl, rfl, rfl, rfl, rfl, trivial⟩, hs301⟩))
     · refine one_ rfl ?_
       refine bsk hs300 sl23 [I 2, I 1] [I 2, I 1] trivial rfl (fun b3' w302 hs302 => ?_)
       exact nl (kq ⟨_, hs302, memi 1 rfl, trivial⟩ (alc D_1_59 ⟨b0', b1', b3', ⟨rfl, rfl, rfl, rfl, rfl, rfl, rfl, trivial⟩, hs302⟩))
     · refine one_ rfl ?_
       refine cl trivial rfl (pick (rb := rb) (Ab := Ab) (cb := cb) (bs := bs) (p := p) (n := 4) (w := _) (hr := (blk_heap hs300 0 rfl)) (hb := (hb.up hs300 (fun _ h => h) (fun _ h => .inl h))) (hbn := (by first | assumption | (simp; omega))) (hp := (by omega))) ?_
       rintro _ w303 ⟨r6', q6', rfl, p362, p363, hs303'⟩
       have hs303 := hs300.callM 0 rfl hs303' (by intro k hk; simp at hk; exact hk.symm)
       clear hs303'
       exact nl (kq ⟨_, hs303, memi 0 rfl, trivial⟩ (alc D_1_60 ⟨b0', b1', r6', q6', ⟨rfl, rfl, rfl, rfl, rfl, rfl, trivial⟩, p362, p363, (hs303.pick [3, 0, 1, 2] rfl (by decide))⟩))
     · refine one_ rfl ?_
       refine al (v := .agg #[ns, Str [], Str [], I 0, ns, Str [], I 0]) (cs := [ns, Str [], Str [], I 0, ns, Str [], I 0]) hs300 tz29 rfl trivial rfl (fun b12' w304 hs304 => ?_)
       exact nl (kq ⟨_, hs304, memi 1 rfl, trivial⟩ (alc D_1_61 ⟨b0', b1', b12', ⟨rfl, rfl, rfl, rfl, rfl, rfl, rfl, trivial⟩, hs304⟩))
   refine dag (fuel' := 10) (listed' := lbits 14 549) (fun f w' => ∃ (b0' b2' : Nat), Has f [(0, pb rb), (2, pb b1), (4, sb b0' (([0] : List Int).length) 1), (6, sb b2' (([0, 2] : List Int).length) 2), (9, pb rb), (13, pb rb)] ∧ SH w w' [rb] [.blk rb 78 [.slice Ab bs.length cb, I ((p : Nat) : Int)], .blk b1 29 [ns, Str [], Str [], I 0, ns, Str [], I 0], oI b0' ([0] : List Int) 1 3, oI b2' ([0, 2] : List Int) 2 3]) ?_ (fun D_1_84 => ?_)
   · rintro f w305 ⟨b0', b2', hf, hs305⟩
     obtain ⟨g85, rfl⟩ := has_upd hf
     clear hf
     refine aaL [1, 3, 6, 12] (fa_cons ?_ (fa_cons ?_ (fa_cons ?_ (fa_one ?_))))
     · refine one_ rfl ?_
       refine bsk hs305 sl23 [I 2] [I 2] trivial rfl (fun b1' w306 hs306 => ?_)
       exact nl (kq ⟨_, hs306, memi 1 rfl, trivial⟩ (alc D_1_58 ⟨b0', b1', b2', ⟨rfl, rfl, rfl, rfl, rfl, rfl, rfl, trivial⟩, (hs306.pick [0, 1, 2, 4, 3] rfl (by decide))⟩))
     · refine one_ rfl ?_
       refine bsk hs305 sl23 [I 2, I 1] [I 2, I 1] trivial rfl (fun b3' w307 hs307 => ?_)
       exact nl (kq ⟨_, hs307, memi 1 rfl, trivial⟩ (alc D_1_62 ⟨b0', b2', b3', ⟨rfl, rfl, rfl, rfl, rfl, rfl, rfl, trivial⟩, hs307⟩))
     · refine one_ rfl ?_
       refine cl trivial rfl (pick (rb := rb) (Ab := Ab) (cb := cb) (bs := bs) (p := p) (n := 4) (w := _) (hr := (blk_heap hs305 0 rfl)) (hb := (hb.up hs305 (fun _ h => h) (fun _ h => .inl h))) (hbn := (by first | assumption | (simp; omega))) (hp := (by omega))) ?_
       rintro _ w308 ⟨r6', q6', rfl, p364, p365, hs308'⟩
       have hs308 := hs305.callM 0 rfl hs308' (by intro k hk; simp at hk; exact hk.symm)
       clear hs308'
       exact nl (kq ⟨_, hs308, memi 0 rfl, trivial⟩ (alc D_1_63 ⟨b0', b2', r6', q6', ⟨rfl, rfl, rfl, rfl, rfl, rfl, trivial⟩, p364, p365, (hs308.pick [3, 0, 1, 2] rfl (by decide))⟩))
     · refine one_ rfl ?_
       refine al (v := .agg #[ns, Str [], Str [], I 0, ns, Str [], I 0]) (cs := [ns, Str [], Str [], I 0, ns, Str [], I 0]) hs305 tz29 rfl trivial rfl (fun b12' w309 hs309 => ?_)
       exact nl (kq ⟨_, hs309, memi 1 rfl, trivial⟩ (alc D_1_64 ⟨b0', b2', b12', ⟨rfl, rfl, rfl, rfl, rfl, rfl, rfl, trivial⟩, (hs309.pick [0, 1, 2, 4, 3] rfl (by decide))⟩))
   refine dag (fuel' := 10) (listed' := lbits 14 553) (fun f w' => ∃ (b0' b3' : Nat), Has f [(0, pb rb), (2, pb b1), (4, sb b0' (([0] : List Int).length) 1), (7, sb b3' (([2, 1] : List Int).length) 2), (9, pb rb), (13, pb rb)] ∧ SH w w' [rb] [.blk rb 78 [.slice Ab bs.length cb, I ((p : Nat) : Int)], .blk b1 29 [ns, Str [], Str [], I 0, ns, Str [], I 0], oI b0' ([0] : List Int) 1 3, oI b3' ([2, 1] : List Int) 2 3]) ?_ (fun D_1_85 => ?_)
   · rintro f w310 ⟨b0', b3', hf, hs310⟩
     obtain ⟨g86, rfl⟩ := has_upd hf
     clear hf
     refine aaL [1, 2, 6, 12] (fa_cons ?_ (fa_cons ?_ (fa_cons ?_ (fa_one ?_))))
     · refine one_ rfl ?_
       refine bsk hs310 sl23 [I 2] [I 2] trivial rfl (fun b1' w311 hs311 => ?_)
       exact nl (kq ⟨_, hs311, memi 1 rfl, trivial⟩ (alc D_1_59 ⟨b0', b1', b3', ⟨rfl, rfl, rfl, rfl, rfl, rfl, rfl, trivial⟩, (hs311.pick [0, 1, 2, 4, 3] rfl (by decide))⟩))
     · refine one_ rfl ?_
       refine bsk hs310 sl23 [I 0, I 2] [I 0, I 2] trivial rfl (fun b2' w312 hs312 => ?_)
       exact nl (kq ⟨_, hs312, memi 1 rfl, trivial⟩ (alc D_1_62 ⟨b0', b2', b3', ⟨rfl, rfl, rfl, rfl, rfl, rfl, rfl, trivial⟩, (hs312.pick [0, 1, 2, 4, 3] rfl (by decide))⟩))
     · refine one_ rfl ?_
       refine cl trivial rfl (pick (rb := rb) (Ab := Ab) (cb := cb) (bs := bs) (p := p) (n := 4) (w := _) (hr := (blk_heap hs310 0 rfl)) (hb := (hb.up hs310 (fun _ h => h) (fun _ h => .inl h))) (hbn := (by first | assumption | (simp; omega))) (hp := (by omega))) ?_
       rintro _ w313 ⟨r6', q6', rfl, p366, p367, hs313'⟩
       have hs313 := hs310.callM 0 rfl hs313' (by intro k hk; simp at hk; exact hk.symm)
       clear hs313'
       exact nl (kq ⟨_, hs313, memi 0 rfl, trivial⟩ (alc D_1_65 ⟨b0', b3', r6', q6', ⟨rfl, rfl, rfl, rfl, rfl, rfl, trivial⟩, p366, p367, (hs313.pick [3, 0, 1, 2] rfl (by decide))⟩))
     · refine one_ rfl ?_
       refine al (v := .agg #[ns, Str [], Str [], I 0, ns, Str [], I 0]) (cs := [ns, Str [], Str [], I 0, ns, Str [], I 0]) hs310 tz29 rfl trivial rfl (fun b12' w314 hs314 => ?_)
       exact nl (kq ⟨_, hs314, memi 1 rfl, trivial⟩ (alc D_1_66 ⟨b0', b3', b12', ⟨rfl, rfl, rfl, rfl, rfl, rfl, rfl, trivial⟩, (hs314.pick [0, 1, 2, 4, 3] rfl (by decide))⟩))
   refine dag (fuel' := 10) (listed' := lbits 14 609) (fun f w' => ∃ (b0' : Nat) (r6' : Int) (q6' : Nat), Has f [(0, pb rb), (2, pb b1), (4, sb b0' (([0] : List Int).length) 1), (10, I r6'), (13, pb rb)] ∧ (0 ≤ r6' ∧ (r6' < 4 ∨ r6' = 0)) ∧ (q6' ≤ p + 1) ∧ SH w w' [rb] [.blk rb 78 [.slice Ab bs.length cb, I ((q6' : Nat) : Int)], .blk b1 29 [ns, Str [], Str [], I 0, ns, Str [], I 0], oI b0' ([0] : List Int) 1 3]) ?_ (fun D_1_86 => ?_)
   · rintro f w315 ⟨b0', r6', q6', hf, p368, p369, hs315⟩
     obtain ⟨g87, rfl⟩ := has_upd hf
     clear hf
     refine aaL [1, 2, 3, 10, 12] (fa_cons ?_ (fa_cons ?_ (fa_cons ?_ (fa_cons ?_ (fa_one ?_)))))
     · refine one_ rfl ?_
       refine bsk hs315 sl23 [I 2] [I 2] trivial rfl (fun b1' w316 hs316 => ?_)
       exact nl (kq ⟨_, hs316, memi 1 rfl, trivial⟩ (alc D_1_60 ⟨b0', b1', r6', q6', ⟨rfl, rfl, rfl, rfl, rfl, rfl, trivial⟩, p368, p369, hs316⟩))
     · refine one_ rfl ?_
       refine bsk hs315 sl23 [I 0, I 2] [I 0, I 2] trivial rfl (fun b2' w317 hs317 => ?_)
       exact nl (kq ⟨_, hs317, memi 1 rfl, trivial⟩ (alc D_1_63 ⟨b0', b2', r6', q6', ⟨rfl, rfl, rfl, rfl, rfl, rfl, trivial⟩, p368, p369, hs317⟩))
     · refine one_ rfl ?_
       refine bsk hs315 sl23 [I 2, I 1] [I 2, I 1] trivial rfl (fun b3' w318 hs318 => ?_)
       exact nl (kq ⟨_, hs318, memi 1 rfl, trivial⟩ (alc D_1_65 ⟨b0', b3', r6', q6', ⟨rfl, rfl, rfl, rfl, rfl, rfl, trivial⟩, p368, p369, hs318⟩))
     · refine one_ rfl ?_
       refine cl trivial rfl (l91Address (rb := rb) (Ab := Ab) (cb := cb) (bs := bs) (p := q6') (w := _) (hr := (blk_heap hs315 0 rfl)) (hb := (hb.up hs315 (fun _ h => h) (fun _ h => .inl h))) (hbn := (by first | assumption | (simp; omega))) (hp := (by omega))) ?_
       rintro _ w319 ⟨Aq10', cq10', ak10', aq10', an10', apt10', q10', rfl, p370, p371, p372, hs319'⟩
       have hs319 := hs315.callM 0 rfl hs319' (by intro k hk; simp at hk; exact hk.symm)
       clear hs319'
       exact nl (kq ⟨_, hs319, memi 0 rfl, trivial⟩ (alc D_1_67 ⟨b0', r6', q6', Aq10', cq10', ak10', aq10', an10', apt10', q10', ⟨rfl, rfl, rfl, rfl, rfl, trivial⟩, p368, p369, p370, p371, p372, (hs319.pick [2, 0, 1, 3] rfl (by decide))⟩))
     · refine one_ rfl ?_
       refine al (v := .agg #[ns, Str [], Str [], I 0, ns, Str [], I 0]) (cs := [ns, Str [], Str [], I 0, ns, Str [], I 0]) hs315 tz29 rfl trivial rfl (fun b12' w320 hs320 => ?_)
       exact nl (kq ⟨_, hs320, memi 1 rfl, trivial⟩ (alc D_1_68 ⟨b0', r6', q6', b12', ⟨rfl, rfl, rfl, rfl, rfl, rfl, trivial⟩, p368, p369, hs320⟩))
   refine dag (fuel' := 10) (listed' := lbits 14 4641) (fun f w' => ∃ (b0' b12' : Nat), Has f [(0, pb rb), (2, pb b1), (3, pb b12'), (4, sb b0' (([0] : List Int).length) 1), (9, pb rb), (13, pb rb)] ∧ SH w w' [rb] [.blk rb 78 [.slice Ab bs.length cb, I ((p : Nat) : Int)], .blk b1 29 [ns, Str [], Str [], I 0, ns, Str [], I 0], oI b0' ([0] : List Int) 1 3, .blk b12' 29 [ns, Str [], Str [], I 0, ns, Str [], I 0]]) ?_ (fun D_1_87 => ?_)
   · rintro f w321 ⟨b0', b12', hf, hs321⟩
     obtain ⟨g88, rfl⟩ := has_upd hf
     clear hf
     refine aaL [1, 2, 3, 6] (fa_cons ?_ (fa_cons ?_ (fa_cons ?_ (fa_one ?_))))
     · refine one_ rfl ?_
       refine bsk hs321 sl23 [I 2] [I 2] trivial rfl (fun b1' w322 hs322 => ?_)
       exact nl (kq ⟨_, hs322, memi 1 rfl, trivial⟩ (alc D_1_61 ⟨b0', b1', b12', ⟨rfl, rfl, rfl, rfl, rfl, rfl, rfl, trivial⟩, (hs322.pick [0, 1, 2, 4, 3] rfl (by decide))⟩))
     · refine one_ rfl ?_
       refine bsk hs321 sl23 [I 0, I 2] [I 0, I 2] trivial rfl (fun b2' w323 hs323 => ?_)
       exact nl (kq ⟨_, hs323, memi 1 rfl, trivial⟩ (alc D_1_64 ⟨b0', b2', b12', ⟨rfl, rfl, rfl, rfl, rfl, rfl, rfl, trivial⟩, hs323⟩))
     · refine one_ rfl ?_
       refine bsk hs321 sl23 [I 2, I 1] [I 2, I 1] trivial rfl (fun b3' w324 hs324 => ?_)
       exact nl (kq ⟨_, hs324, memi 1 rfl, trivial⟩ (alc D_1_66 ⟨b0', b3', b12', ⟨rfl, rfl, rfl, rfl, rfl, rfl, rfl, trivial⟩, hs324⟩))
     · refine one_ rfl ?_
       refine cl trivial rfl (pick (rb := rb) (Ab := Ab) (cb := cb) (bs := bs) (p := p) (n := 4) (w := _) (hr := (blk_heap hs321 0 rfl)) (hb := (hb.up hs321 (fun _ h => h) (fun _ h => .inl h))) (hbn := (by first | assumption | (simp; omega))) (hp := (by omega))) ?_
       rintro _ w325 ⟨r6', q6', rfl, p373, p374, hs325'⟩
       have hs325 := hs321.callM 0 rfl hs325' (by intro k hk; simp at hk; exact hk.symm)
       clear hs325'
       exact nl (kq ⟨_, hs325, memi 0 rfl, trivial⟩ (alc D_1_68 ⟨b0', r6', q6', b12', ⟨rfl, rfl, rfl, rfl, rfl, rfl, trivial⟩, p373, p374, (hs325.pick [3, 0, 1, 2] rfl (by decide))⟩))
   refine dag (fuel' := 10) (listed' := lbits 14 550) (fun f w' => ∃ (b1' b2' : Nat), Has f [(0, pb rb), (2, pb b1), (5, sb b1' (([2] : List Int).length) 1), (6, sb b2' (([0, 2] : List Int).length) 2), (9, pb rb), (13, pb rb)] ∧ SH w w' [rb] [.blk rb 78 [.slice Ab bs.length cb, I ((p : Nat) : Int)], .blk b1 29 [ns, Str [], Str [], I 0, ns, Str [], I 0], oI b1' ([2] : List Int) 1 3, oI b2' ([0, 2] : List Int) 2 3]) ?_ (fun D_1_88 => ?_)
   · rintro f w326 ⟨b1', b2', hf, hs326⟩
     obtain ⟨g89, rfl⟩ := has_upd hf
     clear hf
     refine aaL [0, 3, 6, 12] (fa_cons ?_ (fa_cons ?_ (fa_cons ?_ (fa_one ?_))))
     · refine one_ rfl ?_
       refine bsk hs326 sl23 [I 0] [I 0] trivial rfl (fun b0' w327 hs327 => ?_)
       exact nl (kq ⟨_, hs327, memi 1 rfl, trivial⟩ (alc D_1_58 ⟨b0', b1', b2', ⟨rfl, rfl, rfl, rfl, rfl, rfl, rfl, trivial⟩, (hs327.pick [0, 1, 4, 2, 3] rfl (by decide))⟩))
     · refine one_ rfl ?_
       refine bsk hs326 sl23 [I 2, I 1] [I 2, I 1] trivial rfl (fun b3' w328 hs328 => ?_)
       exact nl (kq ⟨_, hs328, memi 1 rfl, trivial⟩ (alc D_1_69 ⟨b1', b2', b3', ⟨rfl, rfl, rfl, rfl, rfl, rfl, rfl, trivial⟩, hs328⟩))
     · refine one_ rfl ?_
       refine cl trivial rfl (pick (rb := rb) (Ab := Ab) (cb := cb) (bs := bs) (p := p) (n := 4) (w := _) (hr := (blk_heap hs326 0 rfl)) (hb := (hb.up hs326 (fun _ h => h) (fun _ h => .inl h))) (hbn := (by first | assumption | (simp; omega))) (hp := (by omega))) ?_
       rintro _ w329 ⟨r6', q6', rfl, p375, p376, hs329'⟩
       have hs329 := hs326.callM 0 rfl hs329' (by intro k hk; simp at hk; exact hk.symm)
       clear hs329'
       exact nl (kq ⟨_, hs329, memi 0 rfl, trivial⟩ (alc D_1_70 ⟨b1', b2', r6', q6', ⟨rfl, rfl, rfl, rfl, rfl, rfl, trivial⟩, p375, p376, (hs329.pick [3, 0, 1, 2] rfl (by decide))⟩))
     · refine one_ rfl ?_
       refine al (v := .agg #[ns, Str [], Str [], I 0, ns, Str [], I 0]) (cs := [ns, Str [], Str [], I 0, ns, Str [], I 0]) hs326 tz29 rfl trivial rfl (fun b12' w330 hs330 => ?_)
       exact nl (kq ⟨_, hs330, memi 1 rfl, trivial⟩ (alc D_1_71 ⟨b1', b2', b12', ⟨rfl, rfl, rfl, rfl, rfl, rfl, rfl, trivial⟩, (hs330.pick [0, 1, 2, 4, 3] rfl (by decide))⟩))
   refine dag (fuel' := 10) (listed' := lbits 14 554) (fun f w' => ∃ (b1' b3' : Nat), Has f [(0, pb rb), (2, pb b1), (5, sb b1' (([2] : List Int).length) 1), (7, sb b3' (([2, 1] : List Int).length) 2), (9, pb rb), (13, pb rb)] ∧ SH w w' [rb] [.blk rb 78 [.slice Ab bs.length cb, I ((p : Nat) : Int)], .blk b1 29 [ns, Str [], Str [], I 0, ns, Str [], I 0], oI b1' ([2] : List Int) 1 3, oI b3' ([2, 1] : List Int) 2 3]) ?_ (fun D_1_89 => ?_)
   · rintro f w331 ⟨b1', b3', hf, hs331⟩
     obtain ⟨g90, rfl⟩ := has_upd hf
     clear hf
     refine aaL [0, 2, 6, 12] (fa_cons ?_ (fa_cons ?_ (fa_cons ?_ (fa_one ?_))))
     · refine one_ rfl ?_
       refine bsk hs331 sl23 [I 0] [I 0] trivial rfl (fun b0' w332 hs332 => ?_)
       exact nl (kq ⟨_, hs332, memi 1 rfl, trivial⟩ (alc D_1_59 ⟨b0', b1', b3', ⟨rfl, rfl, rfl, rfl, rfl, rfl, rfl, trivial⟩, (hs332.pick [0, 1, 4, 2, 3] rfl (by decide))⟩))
     · refine one_ rfl ?_
       refine bsk hs331 sl23 [I 0, I 2] [I 0, I 2] trivial rfl (fun b2' w333 hs333 => ?_)
       exact nl (kq ⟨_, hs333, memi 1 rfl, trivial⟩ (alc D_1_69 ⟨b1', b2', b3', ⟨rfl, rfl, rfl, rfl, rfl, rfl, rfl, trivial⟩, (hs333.pick [0, 1, 2, 4, 3] rfl (by decide))⟩))
     · refine one_ rfl ?_
       refine cl trivial rfl (pick (rb := rb) (Ab := Ab) (cb := cb) (bs := bs) (p := p) (n := 4) (w := _) (hr := (blk_heap hs331 0 rfl)) (hb := (hb.up hs331 (fun _ h => h) (fun _ h => .inl h))) (hbn := (by first | assumption | (simp; omega))) (hp := (by omega))) ?_
       rintro _ w334 ⟨r6', q6', rfl, p377, p378, hs334'⟩
       have hs334 := hs331.callM 0 rfl hs334' (by intro k hk; simp at hk; exact hk.symm)
       clear hs334'
       exact nl (kq ⟨_, hs334, memi 0 rfl, trivial⟩ (alc D_1_72 ⟨b1', b3', r6', q6', ⟨rfl, rfl, rfl, rfl, rfl, rfl, trivial⟩, p377, p378, (hs334.pick [3, 0, 1, 2] rfl (by decide))⟩))
     · refine one_ rfl ?_
       refine al (v := .agg #[ns, Str [], Str [], I 0, ns, Str [], I 0]) (cs := [ns, Str [], Str [], I 0, ns, Str [], I 0]) hs331 tz29 rfl trivial rfl (fun b12' w335 hs335 => ?_)
       exact nl (kq ⟨_, hs335, memi 1 rfl, trivial⟩ (alc D_1_73 ⟨b1', b3', b12', ⟨rfl, rfl, rfl, rfl, rfl, rfl, rfl, trivial⟩, (hs335.pick [0, 1, 2, 4, 3] rfl (by decide))⟩))
   refine dag (fuel' := 10) (listed' := lbits 14 610) (fun f w' => ∃ (b1' : Nat) (r6' : Int) (q6' : Nat), Has f [(0, pb rb), (2, pb b1), (5, sb b1' (([2] : List Int).length) 1), (10, I r6'), (13, pb rb)] ∧ (0 ≤ r6' ∧ (r6' < 4 ∨ r6' = 0)) ∧ (q6' ≤ p + 1) ∧ SH w w' [rb] [.blk rb 78 [.slice Ab bs.length cb, I ((q6' : Nat) : Int)], .blk b1 29 [ns, Str [], Str [], I 0, ns, Str [], I 0], oI b1' ([2] : List Int) 1 3]) ?_ (fun D_1_90 => ?_)
   · rintro f w336 ⟨b1', r6', q6', hf, p379, p380, hs336⟩
     obtain ⟨g91, rfl⟩ := has_upd hf
     clear hf
     refine aaL [0, 2, 3, 10, 12] (fa_cons ?_ (fa_cons ?_ (fa_cons ?_ (fa_cons ?_ (fa_one ?_)))))
     · refine one_ rfl ?_
       refine bsk hs336 sl23 [I 0] [I 0] trivial rfl (fun b0' w337 hs337 => ?_)
       exact nl (kq ⟨_, hs337, memi 1 rfl, trivial⟩ (alc D_1_60 ⟨b0', b1', r6', q6', ⟨rfl, rfl, rfl, rfl, rfl, rfl, trivial⟩, p379, p380, (hs337.pick [0, 1, 3, 2] rfl (by decide))⟩))
     · refine one_ rfl ?_
       refine bsk hs336 sl23 [I 0, I 2] [I 0, I 2] trivial rfl (fun b2' w338 hs338 => ?_)
       exact nl (kq ⟨_, hs338, memi 1 rfl, trivial⟩ (alc D_1_70 ⟨b1', b2', r6', q6', ⟨rfl, rfl, rfl, rfl, rfl, rfl, trivial⟩, p379, p380, hs338⟩))
     · refine one_ rfl ?_
       refine bsk hs336 sl23 [I 2, I 1] [I 2, I 1] trivial rfl (fun b3' w339 hs339 => ?_)
       exact nl (kq ⟨_, hs339, memi 1 rfl, trivial⟩ (alc D_1_72 ⟨b1', b3', r6', q6', ⟨rfl, rfl, rfl, rfl, rfl, rfl, trivial⟩, p379, p380, hs339⟩))
     · refine one_ rfl ?_
       refine cl trivial rfl (l91Address (rb := rb) (Ab := Ab) (cb := cb) (bs := bs) (p := q6') (w := _) (hr := (blk_heap hs336 0 rfl)) (hb := (hb.up hs336 (fun _ h => h) (fun _ h => .inl h))) (hbn := (by first | assumption | (simp; omega))) (hp := (by omega))) ?_
       rintro _ w340 ⟨Aq10', cq10', ak10', aq10', an10', apt10', q10', rfl, p381, p382, p383, hs340'⟩
       have hs340 := hs336.callM 0 rfl hs340' (by intro k hk; simp at hk; exact hk.symm)
       clear hs340'
       exact nl (kq ⟨_, hs340, memi 0 rfl, trivial⟩ (alc D_1_74 ⟨b1', r6', q6', Aq10', cq10', ak10', aq10', an10', apt10', q10', ⟨rfl, rfl, rfl, rfl, rfl, trivial⟩, p379, p380, p381, p382, p383, (hs340.pick [2, 0, 1, 3] rfl (by decide))⟩))
     · refine one_ rfl ?_
       refine al (v := .agg #[ns, Str [], Str [], I 0, ns, Str [], I 0]) (cs := [ns, Str [], Str [], I 0, ns, Str [], I 0]) hs336 tz29 rfl trivial rfl (fun b12' w341 hs341 => ?_)
       exact nl (kq ⟨_, hs341, memi 1 rfl, trivial⟩ (alc D_1_75 ⟨b1', r6', q6', b12', ⟨rfl, rfl, rfl, rfl, rfl, rfl, trivial⟩, p379, p380, hs341⟩))
   refine dag (fuel' := 10) (listed' := lbits 14 4642) (fun f w' => ∃ (b1' b12' : Nat), Has f [(0, pb rb), (2, pb b1), (3, pb b12'), (5, sb b1' (([2] : List Int).length) 1), (9, pb rb), (13, pb rb)] ∧ SH w w' [rb] [.blk rb 78 [.slice Ab bs.length cb, I ((p : Nat) : Int)], .blk b1 29 [ns, Str [], Str [], I 0, ns, Str [], I 0], oI b1' ([2] : List Int) 1 3, .blk b12' 29 [ns, Str [], Str [], I 0, ns, Str [], I 0]]) ?_ (fun D_1_91 => ?_)
   · rintro f w342 ⟨b1', b12', hf, hs342⟩
     obtain ⟨g92, rfl⟩ := has_upd hf
     clear hf
     refine aaL [0, 2, 3, 6] (fa_cons ?_ (fa_cons ?_ (fa_cons ?_ (fa_one ?_))))
     · refine one_ rfl ?_
       refine bsk hs342 sl23 [I 0] [I 0] trivial rfl (fun b0' w343 hs343 => ?_)
       exact nl (kq ⟨_, hs343, memi 1 rfl, trivial⟩ (alc D_1_61 ⟨b0', b1', b12', ⟨rfl, rfl, rfl, rfl, rfl, rfl, rfl, trivial⟩, (hs343.pick [0, 1, 4, 2, 3] rfl (by decide))⟩))
     · refine one_ rfl ?_
       refine bsk hs342 sl23 [I 0, I 2] [I 0, I 2] trivial rfl (fun b2' w344 hs344 => ?_)
       exact nl (kq ⟨_, hs344, memi 1 rfl, trivial⟩ (alc D_1_71 ⟨b1', b2', b12', ⟨rfl, rfl, rfl, rfl, rfl, rfl, rfl, trivial⟩, hs344⟩))
     · refine one_ rfl ?_
       refine bsk hs342 sl23 [I 2, I 1] [I 2, I 1] trivial rfl (fun b3' w345 hs345 => ?_)
       exact nl (kq ⟨_, hs345, memi 1 rfl, trivial⟩ (alc D_1_73 ⟨b1', b3', b12', ⟨rfl, rfl, rfl, rfl, rfl, rfl, rfl, trivial⟩, hs345⟩))
     · refine one_ rfl ?_
       refine cl trivial rfl (pick (rb := rb) (Ab := Ab) (cb := cb) (bs := bs) (p := p) (n := 4) (w := _) (hr := (blk_heap hs342 0 rfl)) (hb := (hb.up hs342 (fun _ h => h) (fun _ h => .inl h))) (hbn := (by first | assumption | (simp; omega))) (hp := (by omega))) ?_
       rintro _ w346 ⟨r6', q6', rfl, p384, p385, hs346'⟩
       have hs346 := hs342.callM 0 rfl hs346' (by intro k hk; simp at hk; exact hk.symm)
       clear hs346'
       exact nl (kq ⟨_, hs346, memi 0 rfl, trivial⟩ (alc D_1_75 ⟨b1', r6', q6', b12', ⟨rfl, rfl, rfl, rfl, rfl, rfl, trivial⟩, p384, p385, (hs346.pick [3, 0, 1, 2] rfl (by decide))⟩))
   refine dag (fuel' := 10) (listed' := lbits 14 556) (fun f w' => ∃ (b2' b3' : Nat), Has f [(0, pb rb), (2, pb b1), (6, sb b2' (([0, 2] : List Int).length) 2), (7, sb b3' (([2, 1] : List Int).length) 2), (9, pb rb), (13, pb rb)] ∧ SH w w' [rb] [.blk rb 78 [.slice Ab bs.length cb, I ((p : Nat) : Int)], .blk b1 29 [ns, Str [], Str [], I 0, ns, Str [], I 0], oI b2' ([0, 2] : List Int) 2 3, oI b3' ([2, 1] : List Int) 2 3]) ?_ (fun D_1_92 => ?_)
   · rintro f w347 ⟨b2', b3', hf, hs347⟩
     obtain ⟨g93, rfl⟩ := has_upd hf
     clear hf
     refine aaL [0, 1, 6, 12] (fa_cons ?_ (fa_cons ?_ (fa_cons ?_ (fa_one ?_))))
     · refine one_ rfl ?_
       refine bsk hs347 sl23 [I 0] [I 0] trivial rfl (fun b0' w348 hs348 => ?_)
       exact nl (kq ⟨_, hs348, memi 1 rfl, trivial⟩ (alc D_1_62 ⟨b0', b2', b3', ⟨rfl, rfl, rfl, rfl, rfl, rfl, rfl, trivial⟩, (hs348.pick [0, 1, 4, 2, 3] rfl (by decide))⟩))
     · refine one_ rfl ?_
       refine bsk hs347 sl23 [I 2] [I 2] trivial rfl (fun b1' w349 hs349 => ?_)
       exact nl (kq ⟨_, hs349, memi 1 rfl, trivial⟩ (alc D_1_69 ⟨b1', b2', b3', ⟨rfl, rfl, rfl, rfl, rfl, rfl, rfl, trivial⟩, (hs349.pick [0, 1, 4, 2, 3] rfl (by decide))⟩))
     · refine one_ rfl ?_
       refine cl trivial rfl (pick (rb := rb) (Ab := Ab) (cb := cb) (bs := bs) (p := p) (n := 4) (w := _) (hr := (blk_heap hs347 0 rfl)) (hb := (hb.up hs347 (fun _ h => h) (fun _ h => .inl h))) (hbn := (by first | assumption | (simp; omega))) (hp := (by omega))) ?_
       rintro _ w350 ⟨r6', q6', rfl, p386, p387, hs350'⟩
       have hs350 := hs347.callM 0 rfl hs350' (by intro k hk; simp at hk; exact hk.symm)
       clear hs350'
       exact nl (kq ⟨_, hs350, memi 0 rfl, trivial⟩ (alc D_1_76 ⟨b2', b3', r6', q6', ⟨rfl, rfl, rfl, rfl, rfl, rfl, trivial⟩, p386, p387, (hs350.pick [3, 0, 1, 2] rfl (by decide))⟩))
     · refine one_ rfl ?_
       refine al (v := .agg #[ns, Str [], Str [], I 0, ns, Str [], I 0]) (cs := [ns, Str [], Str [], I 0, ns, Str [], I 0]) hs347 tz29 rfl trivial rfl (fun b12' w351 hs351 => ?_)
       exact nl (kq ⟨_, hs351, memi 1 rfl, trivial⟩ (alc D_1_77 ⟨b2', b3', b12', ⟨rfl, rfl, rfl, rfl, rfl, rfl, rfl, trivial⟩, (hs351.pick [0, 1, 4, 2, 3] rfl (by decide))⟩))
   refine dag (fuel' := 10) (listed' := lbits 14 612) (fun f w' => ∃ (b2' : Nat) (r6' : Int) (q6' : Nat), Has f [(0, pb rb), (2, pb b1), (6, sb b2' (([0, 2] : List Int).length) 2), (10, I r6'), (13, pb rb)] ∧ (0 ≤ r6' ∧ (r6' < 4 ∨ r6' = 0)) ∧ (q6' ≤ p + 1) ∧ SH w w' [rb] [.blk rb 78 [.slice Ab bs.length cb, I ((q6' : Nat) : Int)], .blk b1 29 [ns, Str [], Str [], I 0, ns, Str [], I 0], oI b2' ([0, 2] : List Int) 2 3]) ?_ (fun D_1_93 => ?_)
   · rintro f w352 ⟨b2', r6', q6', hf, p388, p389, hs352⟩
     obtain ⟨g94, rfl⟩ := has_upd hf
     clear hf
     refine aaL [0, 1, 3, 10, 12] (fa_cons ?_ (fa_cons ?_ (fa_cons ?_ (fa_cons ?_ (fa_one ?_)))))
     · refine one_ rfl ?_
       refine bsk hs352 sl23 [I 0] [I 0] trivial rfl (fun b0' w353 hs353 => ?_)
       exact nl (kq ⟨_, hs353, memi 1 rfl, trivial⟩ (alc D_1_63 ⟨b0', b2', r6', q6', ⟨rfl, rfl, rfl, rfl, rfl, rfl, trivial⟩, p388, p389, (hs353.pick [0, 1, 3, 2] rfl (by decide))⟩))
     · refine one_ rfl ?_
       refine bsk hs352 sl23 [I 2] [I 2] trivial rfl (fun b1' w354 hs354 => ?_)
       exact nl (kq ⟨_, hs354, memi 1 rfl, trivial⟩ (alc D_1_70 ⟨b1', b2', r6', q6', ⟨rfl, rfl, rfl, rfl, rfl, rfl, trivial⟩, p388, p389, (hs354.pick [0, 1, 3, 2] rfl (by decide))⟩))
     · refine one_ rfl ?_
       refine bsk hs352 sl23 [I 2, I 1] [I 2, I 1] trivial rfl (fun b3' w355 hs355 => ?_)
       exact nl (kq ⟨_, hs355, memi 1 rfl, trivial⟩ (alc D_1_76 ⟨b2', b3', r6', q6', ⟨rfl, rfl, rfl, rfl, rfl, rfl, trivial⟩, p388, p389, hs355⟩))
     · refine one_ rfl ?_
       refine cl trivial rfl (l91Address (rb := rb) (Ab := Ab) (cb := cb) (bs := bs) (p := q6') (w := _) (hr := (blk_heap hs352 0 rfl)) (hb := (hb.up hs352 (fun _ h => h) (fun _ h => .inl h))) (hbn := (by first | assumption | (simp; omega))) (hp := (by omega))) ?_
       rintro _ w356 ⟨Aq10', cq10', ak10', aq10', an10', apt10', q10', rfl, p390, p391, p392, hs356'⟩
       have hs356 := hs352.callM 0 rfl hs356' (by intro k hk; simp at hk; exact hk.symm)
       clear hs356'
       exact nl (kq ⟨_, hs356, memi 0 rfl, trivial⟩ (alc D_1_78 ⟨b2', r6', q6', Aq10', cq10', ak10', aq10', an10', apt10', q10', ⟨rfl, rfl, rfl, rfl, rfl, trivial⟩, p388, p389, p390, p391, p392, (hs356.pick [2, 0, 3, 1] rfl (by decide))⟩))
     · refine one_ rfl ?_
       refine al (v := .agg #[ns, Str [], Str [], I 0, ns, Str [], I 0]) (cs := [ns, Str [], Str [], I 0, ns, Str [], I 0]) hs352 tz29 rfl trivial rfl (fun b12' w357 hs357 => ?_)
       exact nl (kq ⟨_, hs357, memi 1 rfl, trivial⟩ (alc D_1_79 ⟨b2', r6', q6', b12', ⟨rfl, rfl, rfl, rfl, rfl, rfl, trivial⟩, p388, p389, (hs357.pick [0, 1, 3, 2] rfl (by decide))⟩))
   refine dag (fuel' := 10) (listed' := lbits 14 4644) (fun f w' => ∃ (b2' b12' : Nat), Has f [(0, pb rb), (2, pb b1), (3, pb b12'), (6, sb b2' (([0, 2] : List Int).length) 2), (9, pb rb), (13, pb rb)] ∧ SH w w' [rb] [.blk rb 78 [.slice Ab bs.length cb, I ((p : Nat) : Int)], .blk b1 29 [ns, Str [], Str [], I 0, ns, Str [], I 0], .blk b12' 29 [ns, Str [], Str [], I 0, ns, Str [], I 0], oI b2' ([0, 2] : List Int) 2 3]) ?_ (fun D_1_94 => ?_)
   · rintro f w358 ⟨b2', b12', hf, hs358⟩
     obtain ⟨g95, rfl⟩ := has_upd hf
     clear hf
     refine aaL [0, 1, 3, 6] (fa_cons ?_ (fa_cons ?_ (fa_cons ?_ (fa_one ?_))))
     · refine one_ rfl ?_
       refine bsk hs358 sl23 [I 0] [I 0] trivial rfl (fun b0' w359 hs359 => ?_)
       exact nl (kq ⟨_, hs359, memi 1 rfl, trivial⟩ (alc D_1_64 ⟨b0', b2', b12', ⟨rfl, rfl, rfl, rfl, rfl, rfl, rfl, trivial⟩, (hs359.pick [0, 1, 4, 2, 3] rfl (by decide))⟩))
     · refine one_ rfl ?_
       refine bsk hs358 sl23 [I 2] [I 2] trivial rfl (fun b1' w360 hs360 => ?_)
       exact nl (kq ⟨_, hs360, memi 1 rfl, trivial⟩ (alc D_1_71 ⟨b1', b2', b12', ⟨rfl, rfl, rfl, rfl, rfl, rfl, rfl, trivial⟩, (hs360.pick [0, 1, 4, 2, 3] rfl (by decide))⟩))
     · refine one_ rfl ?_
       refine bsk hs358 sl23 [I 2, I 1] [I 2, I 1] trivial rfl (fun b3' w361 hs361 => ?_)
       exact nl (kq ⟨_, hs361, memi 1 rfl, trivial⟩ (alc D_1_77 ⟨b2', b3', b12', ⟨rfl, rfl, rfl, rfl, rfl, rfl, rfl, trivial⟩, hs361⟩))
     · refine one_ rfl ?_
       refine cl trivial rfl (pick (rb := rb) (Ab := Ab) (cb := cb) (bs := bs) (p := p) (n := 4) (w := _) (hr := (blk_heap hs358 0 rfl)) (hb := (hb.up hs358 (fun _ h => h) (fun _ h => .inl h))) (hbn := (by first | assumption | (simp; omega))) (hp := (by omega))) ?_
       rintro _ w362 ⟨r6', q6', rfl, p393, p394, hs362'⟩
       have hs362 := hs358.callM 0 rfl hs362' (by intro k hk; simp at hk; exact hk.symm)
       clear hs362'
       exact nl (kq ⟨_, hs362, memi 0 rfl, trivial⟩ (alc D_1_79 ⟨b2', r6', q6', b12', ⟨rfl, rfl, rfl, rfl, rfl, rfl, trivial⟩, p393, p394, (hs362.pick [3, 0, 1, 2] rfl (by decide))⟩))
   refine dag (fuel' := 10) (listed' := lbits 14 616) (fun f w' => ∃ (b3' : Nat) (r6' : Int) (q6' : Nat), Has f [(0, pb rb), (2, pb b1), (7, sb b3' (([2, 1] : List Int).length) 2), (10, I r6'), (13, pb rb)] ∧ (0 ≤ r6' ∧ (r6' < 4 ∨ r6' = 0)) ∧ (q6' ≤ p + 1) ∧ SH w w' [rb] [.blk rb 78 [.slice Ab bs.length cb, I ((q6' : Nat) : Int)], .blk b1 29 [ns, Str [], Str [], I 0, ns, Str [], I 0], oI b3' ([2, 1] : List Int) 2 3]) ?_ (fun D_1_95 => ?_)
   · rintro f w363 ⟨b3', r6', q6', hf, p395, p396, hs363⟩
     obtain ⟨g96, rfl⟩ := has_upd hf
     clear hf
     refine aaL [0, 1, 2, 10, 12] (fa_cons ?_ (fa_cons ?_ (fa_cons ?_ (fa_cons ?_ (fa_one ?_)))))
     · refine one_ rfl ?_
       refine bsk hs363 sl23 [I 0] [I 0] trivial rfl (fun b0' w364 hs364 => ?_)
       exact nl (kq ⟨_, hs364, memi 1 rfl, trivial⟩ (alc D_1_65 ⟨b0', b3', r6', q6', ⟨rfl, rfl, rfl, rfl, rfl, rfl, trivial⟩, p395, p396, (hs364.pick [0, 1, 3, 2] rfl (by decide))⟩))
     · refine one_ rfl ?_
       refine bsk hs363 sl23 [I 2] [I 2] trivial rfl (fun b1' w365 hs365 => ?_)
       exact nl (kq ⟨_, hs365, memi 1 rfl, trivial⟩ (alc D_1_72 ⟨b1', b3', r6', q6', ⟨rfl, rfl, rfl, rfl, rfl, rfl, trivial⟩, p395, p396, (hs365.pick [0, 1, 3, 2] rfl (by decide))⟩))
     · refine one_ rfl ?_
       refine bsk hs363 sl23 [I 0, I 2] [I 0, I 2] trivial rfl (fun b2' w366 hs366 => ?_)
       exact nl (kq ⟨_, hs366, memi 1 rfl, trivial⟩ (alc D_1_76 ⟨b2', b3', r6', q6', ⟨rfl, rfl, rfl, rfl, rfl, rfl, trivial⟩, p395, p396, (hs366.pick [0, 1, 3, 2] rfl (by decide))⟩))
     · refine one_ rfl ?_
       refine cl trivial rfl (l91Address (rb := rb) (Ab := Ab) (cb := cb) (bs := bs) (p := q6') (w := _) (hr := (blk_heap hs363 0 rfl)) (hb := (hb.up hs363 (fun _ h => h) (fun _ h => .inl h))) (hbn := (by first | assumption | (simp; omega))) (hp := (by omega))) ?_
       rintro _ w367 ⟨Aq10', cq10', ak10', aq10', an10', apt10', q10', rfl, p397, p398, p399, hs367'⟩
       have hs367 := hs363.callM 0 rfl hs367' (by intro k hk; simp at hk; exact hk.symm)
       clear hs367'
       exact nl (kq ⟨_, hs367, memi 0 rfl, trivial⟩ (alc D_1_80 ⟨b3', r6', q6', Aq10', cq10', ak10', aq10', an10', apt10', q10', ⟨rfl, rfl, rfl, rfl, rfl, trivial⟩, p395, p396, p397, p398, p399, (hs367.pick [2, 0, 3, 1] rfl (by decide))⟩))
     · refine one_ rfl ?_
       refine al (v := .agg #[ns, Str [], Str [], I 0, ns, Str [], I 0]) (cs := [ns, Str [], Str [], I 0, ns, Str [], I 0]) hs363 tz29 rfl trivial rfl (fun b12' w368 hs368 => ?_)
       exact nl (kq ⟨_, hs368, memi 1 rfl, trivial⟩ (alc D_1_81 ⟨b3', r6', q6', b12', ⟨rfl, rfl, rfl, rfl, rfl, rfl, trivial⟩, p395, p396, (hs368.pick [0, 1, 3, 2] rfl (by decide))⟩))
   refine dag (fuel' := 10) (listed' := lbits 14 4648) (fun f w' => ∃ (b3' b12' : Nat), Has f [(0, pb rb), (2, pb b1), (3, pb b12'), (7, sb b3' (([2, 1] : List Int).length) 2), (9, pb rb), (13, pb rb)] ∧ SH w w' [rb] [.blk rb 78 [.slice Ab bs.length cb, I ((p : Nat) : Int)], .blk b1 29 [ns, Str [], Str [], I 0, ns, Str [], I 0], .blk b12' 29 [ns, Str [], Str [], I 0, ns, Str [], I 0], oI b3' ([2, 1] : List Int) 2 3]) ?_ (fun D_1_96 => ?_)
   · rintro f w369 ⟨b3', b12', hf, hs369⟩
     obtain ⟨g97, rfl⟩ := has_upd hf
     clear hf
     refine aaL [0, 1, 2, 6] (fa_cons ?_ (fa_cons ?_ (fa_cons ?_ (fa_one ?_))))
     · refine one_ rfl ?_
       refine bsk hs369 sl23 [I 0] [I 0] trivial rfl (fun b0' w370 hs370 => ?_)
       exact nl (kq ⟨_, hs370, memi 1 rfl, trivial⟩ (alc D_1_66 ⟨b0', b3', b12', ⟨rfl, rfl, rfl, rfl, rfl, rfl, rfl, trivial⟩, (hs370.pick [0, 1, 4, 2, 3] rfl (by decide))⟩))
     · refine one_ rfl ?_
       refine bsk hs369 sl23 [I 2] [I 2] trivial rfl (fun b1' w371 hs371 => ?_)
       exact nl (kq ⟨_, hs371, memi 1 rfl, trivial⟩ (alc D_1_73 ⟨b1', b3', b12', ⟨rfl, rfl, rfl, rfl, rfl, rfl, rfl, trivial⟩, (hs371.pick [0, 1, 4, 2, 3] rfl (by decide))⟩))
     · refine one_ rfl ?_
       refine bsk hs369 sl23 [I 0, I 2] [I 0, I 2] trivial rfl (fun b2' w372 hs372 => ?_)
       exact nl (kq ⟨_, hs372, memi 1 rfl, trivial⟩ (alc D_1_77 ⟨b2', b3', b12', ⟨rfl, rfl, rfl, rfl, rfl, rfl, rfl, trivial⟩, (hs372.pick [0, 1, 2, 4, 3] rfl (by decide))⟩))
     · refine one_ rfl ?_
       refine cl trivial rfl (pick (rb := rb) (Ab := Ab) (cb := cb) (bs := bs) (p := p) (n := 4) (w := _) (hr := (blk_heap hs369 0 rfl)) (hb := (hb.up hs369 (fun _ h => h) (fun _ h => .inl h))) (hbn := (by first | assumption | (simp; omega))) (hp := (by omega))) ?_
       rintro _ w373 ⟨r6', q6', rfl, p400, p401, hs373'⟩
       have hs373 := hs369.callM 0 rfl hs373' (by intro k hk; simp at hk; exact hk.symm)
       clear hs373'
       exact nl (kq ⟨_, hs373, memi 0 rfl, trivial⟩ (alc D_1_81 ⟨b3', r6', q6', b12', ⟨rfl, rfl, rfl, rfl, rfl, rfl, trivial⟩, p400, p401, (hs373.pick [3, 0, 1, 2] rfl (by decide))⟩))
   refine dag (fuel' := 10) (listed' := lbits 14 1632) (fun f w' => ∃ (r6' : Int) (q6' : Nat) (Aq10' : Option Addr) (cq10' : Nat) (ak10' : Int) (aq10' : List Int) (an10' : List UInt8) (apt10' : Int) (q10' : Nat), Has f [(0, pb rb), (2, pb b1), (10, I r6'), (14, .agg #[I ak10', .slice Aq10' aq10'.length cq10', Str an10', I apt10'])] ∧ (0 ≤ r6' ∧ (r6' < 4 ∨ r6' = 0)) ∧ (q6' ≤ p + 1) ∧ (aq10'.length ≤ 4) ∧ (an10'.length ≤ 21) ∧ (q10' ≤ q6' + 40) ∧ SH w w' [rb] [.blk rb 78 [.slice Ab bs.length cb, I ((q10' : Nat) : Int)], .blk b1 29 [ns, Str [], Str [], I 0, ns, Str [], I 0], .own Aq10' aq10'.length cq10' 3 1 (aq10'.map I)]) ?_ (fun D_1_97 => ?_)
   · rintro f w374 ⟨r6', q6', Aq10', cq10', ak10', aq10', an10', apt10', q10', hf, p402, p403, p404, p405, p406, hs374⟩
     obtain ⟨g98, rfl⟩ := has_upd hf
     clear hf
     refine aaL [0, 1, 2, 3, 12] (fa_cons ?_ (fa_cons ?_ (fa_cons ?_ (fa_cons ?_ (fa_one ?_)))))
     · refine one_ rfl ?_
       refine bsk hs374 sl23 [I 0] [I 0] trivial rfl (fun b0' w375 hs375 => ?_)
       exact nl (kq ⟨_, hs375, memi 1 rfl, trivial⟩ (alc D_1_67 ⟨b0', r6', q6', Aq10', cq10', ak10', aq10', an10', apt10', q10', ⟨rfl, rfl, rfl, rfl, rfl, trivial⟩, p402, p403, p404, p405, p406, (hs375.pick [0, 1, 3, 2] rfl (by decide))⟩))
     · refine one_ rfl ?_
       refine bsk hs374 sl23 [I 2] [I 2] trivial rfl (fun b1' w376 hs376 => ?_)
       exact nl (kq ⟨_, hs376, memi 1 rfl, trivial⟩ (alc D_1_74 ⟨b1', r6', q6', Aq10', cq10', ak10', aq10', an10', apt10', q10', ⟨rfl, rfl, rfl, rfl, rfl, trivial⟩, p402, p403, p404, p405, p406, (hs376.pick [0, 1, 3, 2] rfl (by decide))⟩))
     · refine one_ rfl ?_
       refine bsk hs374 sl23 [I 0, I 2] [I 0, I 2] trivial rfl (fun b2' w377 hs377 => ?_)
       exact nl (kq ⟨_, hs377, memi 1 rfl, trivial⟩ (alc D_1_78 ⟨b2', r6', q6', Aq10', cq10', ak10', aq10', an10', apt10', q10', ⟨rfl, rfl, rfl, rfl, rfl, trivial⟩, p402, p403, p404, p405, p406, hs377⟩))
     · refine one_ rfl ?_
       refine bsk hs374 sl23 [I 2, I 1] [I 2, I 1] trivial rfl (fun b3' w378 hs378 => ?_)
       exact nl (kq ⟨_, hs378, memi 1 rfl, trivial⟩ (alc D_1_80 ⟨b3', r6', q6', Aq10', cq10', ak10', aq10', an10', apt10', q10', ⟨rfl, rfl, rfl, rfl, rfl, trivial⟩, p402, p403, p404, p405, p406, hs378⟩))
     · refine one_ rfl ?_
       refine al (v := .agg #[ns, Str [], Str [], I 0, ns, Str [], I 0]) (cs := [ns, Str [], Str [], I 0, ns, Str [], I 0]) hs374 tz29 rfl trivial rfl (fun b12' w379 hs379 => ?_)
       exact nl (kq ⟨_, hs379, memi 1 rfl, trivial⟩ (alc D_1_82 ⟨r6', q6', b12', Aq10', cq10', ak10', aq10', an10', apt10', q10', ⟨rfl, rfl, rfl, rfl, rfl, trivial⟩, p402, p403, p404, p405, p406, hs379⟩))
   refine dag (fuel' := 10) (listed' := lbits 14 4704) (fun f w' => ∃ (r6' : Int) (q6' b12' : Nat), Has f [(0, pb rb), (2, pb b1), (3, pb b12'), (10, I r6'), (13, pb rb)] ∧ (0 ≤ r6' ∧ (r6' < 4 ∨ r6' = 0)) ∧ (q6' ≤ p + 1) ∧ SH w w' [rb] [.blk rb 78 [.slice Ab bs.length cb, I ((q6' : Nat) : Int)], .blk b1 29 [ns, Str [], Str [], I 0, ns, Str [], I 0], .blk b12' 29 [ns, Str [], Str [], I 0, ns, Str [], I 0]]) ?_ (fun D_1_98 => ?_)
   · rintro f w380 ⟨r6', q6', b12', hf, p407, p408, hs380⟩
     obtain ⟨g99, rfl⟩ := has_upd hf
     clear hf
     refine aaL [0, 1, 2, 3, 10] (fa_cons ?_ (fa_cons ?_ (fa_cons ?_ (fa_cons ?_ (fa_one ?_)))))
     · refine one_ rfl ?_
       refine bsk hs380 sl23 [I 0] [I 0] trivial rfl (fun b0' w381 hs381 => ?_)
       exact nl (kq ⟨_, hs381, memi 1 rfl, trivial⟩ (alc D_1_68 ⟨b0', r6', q6', b12', ⟨rfl, rfl, rfl, rfl, rfl, rfl, trivial⟩, p407, p408, (hs381.pick [0, 1, 3, 2] rfl (by decide))⟩))
     · refine one_ rfl ?_
       refine bsk hs380 sl23 [I 2] [I 2] trivial rfl (fun b1' w382 hs382 => ?_)
       exact nl (kq ⟨_, hs382, memi 1 rfl, trivial⟩ (alc D_1_75 ⟨b1', r6', q6', b12', ⟨rfl, rfl, rfl, rfl, rfl, rfl, trivial⟩, p407, p408, (hs382.pick [0, 1, 3, 2] rfl (by decide))⟩))
     · refine one_ rfl ?_
       refine bsk hs380 sl23 [I 0, I 2] [I 0, I 2] trivial rfl (fun b2' w383 hs383 => ?_)
       exact nl (kq ⟨_, hs383, memi 1 rfl, trivial⟩ (alc D_1_79 ⟨b2', r6', q6', b12', ⟨rfl, rfl, rfl, rfl, rfl, rfl, trivial⟩, p407, p408, hs383⟩))
     · refine one_ rfl ?_
       refine bsk hs380 sl23 [I 2, I 1] [I 2, I 1] trivial rfl (fun b3' w384 hs384 => ?_)
       exact nl (kq ⟨_, hs384, memi 1 rfl, trivial⟩ (alc D_1_81 ⟨b3', r6', q6', b12', ⟨rfl, rfl, rfl, rfl, rfl, rfl, trivial⟩, p407, p408, hs384⟩))
     · refine one_ rfl ?_
       refine cl trivial rfl (l91Address (rb := rb) (Ab := Ab) (cb := cb) (bs := bs) (p := q6') (w := _) (hr := (blk_heap hs380 0 rfl)) (hb := (hb.up hs380 (fun _ h => h) (fun _ h => .inl h))) (hbn := (by first | assumption | (simp; omega))) (hp := (by omega))) ?_
       rintro _ w385 ⟨Aq10', cq10', ak10', aq10', an10', apt10', q10', rfl, p409, p410, p411, hs385'⟩
       have hs385 := hs380.callM 0 rfl hs385' (by intro k hk; simp at hk; exact hk.symm)
       clear hs385'
       exact nl (kq ⟨_, hs385, memi 0 rfl, trivial⟩ (alc D_1_82 ⟨r6', q6', b12', Aq10', cq10', ak10', aq10', an10', apt10', q10', ⟨rfl, rfl, rfl, rfl, rfl, trivial⟩, p407, p408, p409, p410, p411, (hs385.pick [2, 0, 3, 1] rfl (by decide))⟩))
   refine dag (fuel' := 11) (listed' := lbits 14 545) (fun f w' => ∃ (b0' : Nat), Has f [(0, pb rb), (2, pb b1), (4, sb b0' (([0] : List Int).length) 1), (9, pb rb), (13, pb rb)] ∧ SH w w' [rb] [.blk rb 78 [.slice Ab bs.length cb, I ((p : Nat) : Int)], .blk b1 29 [ns, Str [], Str [], I 0, ns, Str [], I 0], oI b0' ([0] : List Int) 1 3]) ?_ (fun D_1_99 => ?_)
   · rintro f w386 ⟨b0', hf, hs386⟩
     obtain ⟨g100, rfl⟩ := has_upd hf
     clear hf
     refine aaL [1, 2, 3, 6, 12] (fa_cons ?_ (fa_cons ?_ (fa_cons ?_ (fa_cons ?_ (fa_one ?_)))))
     · refine one_ rfl ?_
       refine bsk hs386 sl23 [I 2] [I 2] trivial rfl (fun b1' w387 hs387 => ?_)
       exact nl (kq ⟨_, hs387, memi 1 rfl, trivial⟩ (alc D_1_83 ⟨b0', b1', ⟨rfl, rfl, rfl, rfl, rfl, rfl, trivial⟩, hs387⟩))
     · refine one_ rfl ?_
       refine bsk hs386 sl23 [I 0, I 2] [I 0, I 2] trivial rfl (fun b2' w388 hs388 => ?_)
       exact nl (kq ⟨_, hs388, memi 1 rfl, trivial⟩ (alc D_1_84 ⟨b0', b2', ⟨rfl, rfl, rfl, rfl, rfl, rfl, trivial⟩, hs388⟩))
     · refine one_ rfl ?_
       refine bsk hs386 sl23 [I 2, I 1] [I 2, I 1] trivial rfl (fun b3' w389 hs389 => ?_)
       exact nl (kq ⟨_, hs389, memi 1 rfl, trivial⟩ (alc D_1_85 ⟨b0', b3', ⟨rfl, rfl, rfl, rfl, rfl, rfl, trivial⟩, hs389⟩))
     · refine one_ rfl ?_
       refine cl trivial rfl (pick (rb := rb) (Ab := Ab) (cb := cb) (bs := bs) (p := p) (n := 4) (w := _) (hr := (blk_heap hs386 0 rfl)) (hb := (hb.up hs386 (fun _ h => h) (fun _ h => .inl h))) (hbn := (by first | assumption | (simp; omega))) (hp := (by omega))) ?_
       rintro _ w390 ⟨r6', q6', rfl, p412, p413, hs390'⟩
       have hs390 := hs386.callM 0 rfl hs390' (by intro k hk; simp at hk; exact hk.symm)
       clear hs390'
       exact nl (kq ⟨_, hs390, memi 0 rfl, trivial⟩ (alc D_1_86 ⟨b0', r6', q6', ⟨rfl, rfl, rfl, rfl, rfl, trivial⟩, p412, p413, (hs390.pick [2, 0, 1] rfl (by decide))⟩))
     · refine one_ rfl ?_
       refine al (v := .agg #[ns, Str [], Str [], I 0, ns, Str [], I 0]) (cs := [ns, Str [], Str [], I 0, ns, Str [], I 0]) hs386 tz29 rfl trivial rfl (fun b12' w391 hs391 => ?_)
       exact nl (kq ⟨_, hs391, memi 1 rfl, trivial⟩ (alc D_1_87 ⟨b0', b12', ⟨rfl, rfl, rfl, rfl, rfl, rfl, trivial⟩, hs391⟩))
   refine dag (fuel' := 11) (listed' := lbits 14 546) (fun f w' => ∃ (b1' : Nat), Has f [(0, pb rb), (2, pb b1), (5, sb b1' (([2] : List Int).length) 1), (9, pb rb), (13, pb rb)] ∧ SH w w' [rb] [.blk rb 78 [.slice Ab bs.length cb, I ((p : Nat) : Int)], .blk b1 29 [ns, Str [], Str [], I 0, ns, Str [], I 0], oI b1' ([2] : List Int) 1 3]) ?_ (fun D_1_100 => ?_)
   · rintro f w392 ⟨b1', hf, hs392⟩
     obtain ⟨g101, rfl⟩ := has_upd hf
     clear hf
     refine aaL [0, 2, 3, 6, 12] (fa_cons ?_ (fa_cons ?_ (fa_cons ?_ (fa_cons ?_ (fa_one ?_)))))
     · refine one_ rfl ?_
       refine bsk hs392 sl23 [I 0] [I 0] trivial rfl (fun b0' w393 hs393 => ?_)
       exact nl (kq ⟨_, hs393, memi 1 rfl, trivial⟩ (alc D_1_83 ⟨b0', b1', ⟨rfl, rfl, rfl, rfl, rfl, rfl, trivial⟩, (hs393.pick [0, 1, 3, 2] rfl (by decide))⟩))
     · refine one_ rfl ?_
       refine bsk hs392 sl23 [I 0, I 2] [I 0, I 2] trivial rfl (fun b2' w394 hs394 => ?_)
       exact nl (kq ⟨_, hs394, memi 1 rfl, trivial⟩ (alc D_1_88 ⟨b1', b2', ⟨rfl, rfl, rfl, rfl, rfl, rfl, trivial⟩, hs394⟩))
     · refine one_ rfl ?_
       refine bsk hs392 sl23 [I 2, I 1] [I 2, I 1] trivial rfl (fun b3' w395 hs395 => ?_)
       exact nl (kq ⟨_, hs395, memi 1 rfl, trivial⟩ (alc D_1_89 ⟨b1', b3', ⟨rfl, rfl, rfl, rfl, rfl, rfl, trivial⟩, hs395⟩))
     · refine one_ rfl ?_
       refine cl trivial rfl (pick (rb := rb) (Ab := Ab) (cb := cb) (bs := bs) (p := p) (n := 4) (w := _) (hr := (blk_heap hs392 0 rfl)) (hb := (hb.up hs392 (fun _ h => h) (fun _ h => .inl h))) (hbn := (by first | assumption | (simp; omega))) (hp := (by omega))) ?_
       rintro _ w396 ⟨r6', q6', rfl, p414, p415, hs396'⟩
       have hs396 := hs392.callM 0 rfl hs396' (by intro k hk; simp at hk; exact hk.symm)
       clear hs396'
       exact nl (kq ⟨_, hs396, memi 0 rfl, trivial⟩ (alc D_1_90 ⟨b1', r6', q6', ⟨rfl, rfl, rfl, rfl, rfl, trivial⟩, p414, p415, (hs396.pick [2, 0, 1] rfl (by decide))⟩))
     · refine one_ rfl ?_
       refine al (v := .agg #[ns, Str [], Str [], I 0, ns, Str [], I 0]) (cs := [ns, Str [], Str [], I 0, ns, Str [], I 0]) hs392 tz29 rfl trivial rfl (fun b12' w397 hs397 => ?_)
       exact nl (kq ⟨_, hs397, memi 1 rfl, trivial⟩ (alc D_1_91 ⟨b1', b12', ⟨rfl, rfl, rfl, rfl, rfl, rfl, trivial⟩, hs397⟩))
   refine dag (fuel' := 11) (listed' := lbits 14 548) (fun f w' => ∃ (b2' : Nat), Has f [(0, pb rb), (2, pb b1), (6, sb b2' (([0, 2] : List Int).length) 2), (9, pb rb), (13, pb rb)] ∧ SH w w' [rb] [.blk rb 78 [.slice Ab bs.length cb, I ((p : Nat) : Int)], .blk b1 29 [ns, Str [], Str [], I 0, ns, Str [], I 0], oI b2' ([0, 2] : List Int) 2 3]) ?_ (fun D_1_101 => ?_)
   · rintro f w398 ⟨b2', hf, hs398⟩
     obtain ⟨g102, rfl⟩ := has_upd hf
     clear hf
     refine aaL [0, 1, 3, 6, 12] (fa_cons ?_ (fa_cons ?_ (fa_cons ?_ (fa_cons ?_ (fa_one ?_)))))
     · refine one_ rfl ?_
       refine bsk hs398 sl23 [I 0] [I 0] trivial rfl (fun b0' w399 hs399 => ?_)
       exact nl (kq ⟨_, hs399, memi 1 rfl, trivial⟩ (alc D_1_84 ⟨b0', b2', ⟨rfl, rfl, rfl, rfl, rfl, rfl, trivial⟩, (hs399.pick [0, 1, 3, 2] rfl (by decide))⟩))
     · refine one_ rfl ?_
       refine bsk hs398 sl23 [I 2] [I 2] trivial rfl (fun b1' w400 hs400 => ?_)
       exact nl (kq ⟨_, hs400, memi 1 rfl, trivial⟩ (alc D_1_88 ⟨b1', b2', ⟨rfl, rfl, rfl, rfl, rfl, rfl, trivial⟩, (hs400.pick [0, 1, 3, 2] rfl (by decide))⟩))
     · refine one_ rfl ?_
       refine bsk hs398 sl23 [I 2, I 1] [I 2, I 1] trivial rfl (fun b3' w401 hs401 => ?_)
       exact nl (kq ⟨_, hs401, memi 1 rfl, trivial⟩ (alc D_1_92 ⟨b2', b3', ⟨rfl, rfl, rfl, rfl, rfl, rfl, trivial⟩, hs401⟩))
     · refine one_ rfl ?_
       refine cl trivial rfl (pick (rb := rb) (Ab := Ab) (cb := cb) (bs := bs) (p := p) (n := 4) (w := _) (hr := (blk_heap hs398 0 rfl)) (hb := (hb.up hs398 (fun _ h => h) (fun _ h => .inl h))) (hbn := (by first | assumption | (simp; omega))) (hp := (by omega))) ?_
       rintro _ w402 ⟨r6', q6', rfl, p416, p417, hs402'⟩
       have hs402 := hs398.callM 0 rfl hs402' (by intro k hk; simp at hk; exact hk.symm)
       clear hs402'
       exact nl (kq ⟨_, hs402, memi 0 rfl, trivial⟩ (alc D_1_93 ⟨b2', r6', q6', ⟨rfl, rfl, rfl, rfl, rfl, trivial⟩, p416, p417, (hs402.pick [2, 0, 1] rfl (by decide))⟩))
     · refine one_ rfl ?_
       refine al (v := .agg #[ns, Str [], Str [], I 0, ns, Str [], I 0]) (cs := [ns, Str [], Str [], I 0, ns, Str [], I 0]) hs398 tz29 rfl trivial rfl (fun b12' w403 hs403 => ?_)
       exact nl (kq ⟨_, hs403, memi 1 rfl, trivial⟩ (alc D_1_94 ⟨b2', b12', ⟨rfl, rfl, rfl, rfl, rfl, rfl, trivial⟩, (hs403.pick [0, 1, 3, 2] rfl (by decide))⟩))
   refine dag (fuel' := 11) (listed' := lbits 14 552) (fun f w' => ∃ (b3' : Nat), Has f [(0, pb rb), (2, pb b1), (7, sb b3' (([2, 1] : List Int).length) 2), (9, pb rb), (13, pb rb)] ∧ SH w w' [rb] [.blk rb 78 [.slice Ab bs.length cb, I ((p : Nat) : Int)], .blk b1 29 [ns, Str [], Str [], I 0, ns, Str [], I 0], oI b3' ([2, 1] : List Int) 2 3]) ?_ (fun D_1_102 => ?_)
   · rintro f w404 ⟨b3', hf, hs404⟩
     obtain ⟨g103, rfl⟩ := has_upd hf
     clear hf
     refine aaL [0, 1, 2, 6, 12] (fa_cons ?_ (fa_cons ?_ (fa_cons ?_ (fa_cons ?_ (fa_one ?_)))))
     · refine one_ rfl ?_
       refine bsk hs404 sl23 [I 0] [I 0] trivial rfl (fun b0' w405 hs405 => ?_)
       exact nl (kq ⟨_, hs405, memi 1 rfl, trivial⟩ (alc D_1_85 ⟨b0', b3', ⟨rfl, rfl, rfl, rfl, rfl, rfl, trivial⟩, (hs405.pick [0, 1, 3, 2] rfl (by decide))⟩))
     · refine one_ rfl ?_
       refine bsk hs404 sl23 [I 2] [I 2] trivial rfl (fun b1' w406 hs406 => ?_)
       exact nl (kq ⟨_, hs406, memi 1 rfl, trivial⟩ (alc D_1_89 ⟨b1', b3', ⟨rfl, rfl, rfl, rfl, rfl, rfl, trivial⟩, (hs406.pick [0, 1, 3, 2] rfl (by decide))⟩))
     · refine one_ rfl ?_
       refine bsk hs404 sl23 [I 0, I 2] [I 0, I 2] trivial rfl (fun b2' w407 hs407 => ?_)
       exact nl (kq ⟨_, hs407, memi 1 rfl, trivial⟩ (alc D_1_92 ⟨b2', b3', ⟨rfl, rfl, rfl, rfl, rfl, rfl, trivial⟩, (hs407.pick [0, 1, 3, 2] rfl (by decide))⟩))
     · refine one_ rfl ?_
       refine cl trivial rfl (pick (rb := rb) (Ab := Ab) (cb := cb) (bs := bs) (p := p) (n := 4) (w := _) (hr := (blk_heap hs404 0 rfl)) (hb := (hb.up hs404 (fun _ h => h) (fun _ h => .inl h))) (hbn := (by first | assumption | (simp; omega))) (hp := (by omega))) ?_
       rintro _ w408 ⟨r6', q6', rfl, p418, p419, hs408'⟩
       have hs408 := hs404.callM 0 rfl hs408' (by intro k hk; simp at hk; exact hk.symm)
       clear hs408'
       exact nl (kq ⟨_, hs408, memi 0 rfl, trivial⟩ (alc D_1_95 ⟨b3', r6', q6', ⟨rfl, rfl, rfl, rfl, rfl, trivial⟩, p418, p419, (hs408.pick [2, 0, 1] rfl (by decide))⟩))
     · refine one_ rfl ?_
       refine al (v := .agg #[ns, Str [], Str [], I 0, ns, Str [], I 0]) (cs := [ns, Str [], Str [], I 0, ns, Str [], I 0]) hs404 tz29 rfl trivial rfl (fun b12' w409 hs409 => ?_)
       exact nl (kq ⟨_, hs409, memi 1 rfl, trivial⟩ (alc D_1_96 ⟨b3', b12', ⟨rfl, rfl, rfl, rfl, rfl, rfl, trivial⟩, (hs409.pick [0, 1, 3, 2] rfl (by decide))⟩))
   refine dag (fuel' := 11) (listed' := lbits 14 608) (fun f w' => ∃ (r6' : Int) (q6' : Nat), Has f [(0, pb rb), (2, pb b1), (10, I r6'), (13, pb rb)] ∧ (0 ≤ r6' ∧ (r6' < 4 ∨ r6' = 0)) ∧ (q6' ≤ p + 1) ∧ SH w w' [rb] [.blk rb 78 [.slice Ab bs.length cb, I ((q6' : Nat) : Int)], .blk b1 29 [ns, Str [], Str [], I 0, ns, Str [], I 0]]) ?_ (fun D_1_103 => ?_)
   · rintro f w410 ⟨r6', q6', hf, p420, p421, hs410⟩
     obtain ⟨g104, rfl⟩ := has_upd hf
     clear hf
     refine aaL [0, 1, 2, 3, 10, 12] (fa_cons ?_ (fa_cons ?_ (fa_cons ?_ (fa_cons ?_ (fa_cons ?_ (fa_one ?_))))))
     · refine one_ rfl ?_
       refine bsk hs410 sl23 [I 0] [I 0] trivial rfl (fun b0' w411 hs411 => ?_)
       exact nl (kq ⟨_, hs411, memi 1 rfl, trivial⟩ (alc D_1_86 ⟨b0', r6', q6', ⟨rfl, rfl, rfl, rfl, rfl, trivial⟩, p420, p421, hs411⟩))
     · refine one_ rfl ?_
       refine bsk hs410 sl23 [I 2] [I 2] trivial rfl (fun b1' w412 hs412 => ?_)
       exact nl (kq ⟨_, hs412, memi 1 rfl, trivial⟩ (alc D_1_90 ⟨b1', r6', q6', ⟨rfl, rfl, rfl, rfl, rfl, trivial⟩, p420, p421, hs412⟩))
     · refine one_ rfl ?_
       refine bsk hs410 sl23 [I 0, I 2] [I 0, I 2] trivial rfl (fun b2' w413 hs413 => ?_)
       exact nl (kq ⟨_, hs413, memi 1 rfl, trivial⟩ (alc D_1_93 ⟨b2', r6', q6', ⟨rfl, rfl, rfl, rfl, rfl, trivial⟩, p420, p421, hs413⟩))
     · refine one_ rfl ?_
       refine bsk hs410 sl23 [I 2, I 1] [I 2, I 1] trivial rfl (fun b3' w414 hs414 => ?_)
       exact nl (kq ⟨_, hs414, memi 1 rfl, trivial⟩ (alc D_1_95 ⟨b3', r6', q6', ⟨rfl, rfl, rfl, rfl, rfl, trivial⟩, p420, p421, hs414⟩))
     · refine one_ rfl ?_
       refine cl trivial rfl (l91Address (rb := rb) (Ab := Ab) (cb := cb) (bs := bs) (p := q6') (w := _) (hr := (blk_heap hs410 0 rfl)) (hb := (hb.up hs410 (fun _ h => h) (fun _ h => .inl h))) (hbn := (by first | assumption | (simp; omega))) (hp := (by omega))) ?_
       rintro _ w415 ⟨Aq10', cq10', ak10', aq10', an10', apt10', q10', rfl, p422, p423, p424, hs415'⟩
       have hs415 := hs410.callM 0 rfl hs415' (by intro k hk; simp at hk; exact hk.symm)
       clear hs415'
       exact nl (kq ⟨_, hs415, memi 0 rfl, trivial⟩ (alc D_1_97 ⟨r6', q6', Aq10', cq10', ak10', aq10', an10', apt10', q10', ⟨rfl, rfl, rfl, rfl, trivial⟩, p420, p421, p422, p423, p424, (hs415.pick [1, 0, 2] rfl (by decide))⟩))
     · refine one_ rfl ?_
       refine al (v := .agg #[ns, Str [], Str [], I 0, ns, Str [], I 0]) (cs := [ns, Str [], Str [], I 0, ns, Str [], I 0]) hs410 tz29 rfl trivial rfl (fun b12' w416 hs416 => ?_)
       exact nl (kq ⟨_, hs416, memi 1 rfl, trivial⟩ (alc D_1_98 ⟨r6', q6', b12', ⟨rfl, rfl, rfl, rfl, rfl, trivial⟩, p420, p421, hs416⟩))
   refine dag (fuel' := 11) (listed' := lbits 14 4640) (fun f w' => ∃ (b12' : Nat), Has f [(0, pb rb), (2, pb b1), (3, pb b12'), (9, pb rb), (13, pb rb)] ∧ SH w w' [rb] [.blk rb 78 [.slice Ab bs.length cb, I ((p : Nat) : Int)], .blk b1 29 [ns, Str [], Str [], I 0, ns, Str [], I 0], .blk b12' 29 [ns, Str [], Str [], I 0, ns, Str [], I 0]]) ?_ (fun D_1_104 => ?_)
   · rintro f w417 ⟨b12', hf, hs417⟩
     obtain ⟨g105, rfl⟩ := has_upd hf
     clear hf
     refine aaL [0, 1, 2, 3, 6] (fa_cons ?_ (fa_cons ?_ (fa_cons ?_ (fa_cons ?_ (fa_one ?_)))))
     · refine one_ rfl ?_
       refine bsk hs417 sl23 [I 0] [I 0] trivial rfl (fun b0' w418 hs418 => ?_)
       exact nl (kq ⟨_, hs418, memi 1 rfl, trivial⟩ (alc D_1_87 ⟨b0', b12', ⟨rfl, rfl, rfl, rfl, rfl, rfl, trivial⟩, (hs418.pick [0, 1, 3, 2] rfl (by decide))⟩))
     · refine one_ rfl ?_
       refine bsk hs417 sl23 [I 2] [I 2] trivial rfl (fun b1' w419 hs419 => ?_)
       exact nl (kq ⟨_, hs419, memi 1 rfl, trivial⟩ (alc D_1_91 ⟨b1', b12', ⟨rfl, rfl, rfl, rfl, rfl, rfl, trivial⟩, (hs419.pick [0, 1, 3, 2] rfl (by decide))⟩))
     · refine one_ rfl ?_
       refine bsk hs417 sl23 [I 0, I 2] [I 0, I 2] trivial rfl (fun b2' w420 hs420 => ?_)
       exact nl (kq ⟨_, hs420, memi 1 rfl, trivial⟩ (alc D_1_94 ⟨b2', b12', ⟨rfl, rfl, rfl, rfl, rfl, rfl, trivial⟩, hs420⟩))
     · refine one_ rfl ?_
       refine bsk hs417 sl23 [I 2, I 1] [I 2, I 1] trivial rfl (fun b3' w421 hs421 => ?_)
       exact nl (kq ⟨_, hs421, memi 1 rfl, trivial⟩ (alc D_1_96 ⟨b3', b12', ⟨rfl, rfl, rfl, rfl, rfl, rfl, trivial⟩, hs421⟩))
     · refine one_ rfl ?_
       refine cl trivial rfl (pick (rb := rb) (Ab := Ab) (cb := cb) (bs := bs) (p := p) (n := 4) (w := _) (hr := (blk_heap hs417 0 rfl)) (hb := (hb.up hs417 (fun _ h => h) (fun _ h => .inl h))) (hbn := (by first | assumption | (simp; omega))) (hp := (by omega))) ?_
       rintro _ w422 ⟨r6', q6', rfl, p425, p426, hs422'⟩
       have hs422 := hs417.callM 0 rfl hs422' (by intro k hk; simp at hk; exact hk.symm)
       clear hs422'
       exact nl (kq ⟨_, hs422, memi 0 rfl, trivial⟩ (alc D_1_98 ⟨r6', q6', b12', ⟨rfl, rfl, rfl, rfl, rfl, trivial⟩, p425, p426, (hs422.pick [2, 0, 1] rfl (by decide))⟩))
   refine dag (fuel' := 12) (listed' := lbits 14 544) (fun f w' => Has f [(0, pb rb), (2, pb b1), (9, pb rb), (13, pb rb)] ∧ SH w w' [rb] [.blk rb 78 [.slice Ab bs.length cb, I ((p : Nat) : Int)], .blk b1 29 [ns, Str [], Str [], I 0, ns, Str [], I 0]]) ?_ (fun D_1_105 => ?_)
   · rintro f w423 ⟨hf, hs423⟩
     obtain ⟨g106, rfl⟩ := has_upd hf
     clear hf
     refine aaL [0, 1, 2, 3, 6, 12] (fa_cons ?_ (fa_cons ?_ (fa_cons ?_ (fa_cons ?_ (fa_cons ?_ (fa_one ?_))))))
     · refine one_ rfl ?_
       refine bsk hs423 sl23 [I 0] [I 0] trivial rfl (fun b0' w424 hs424 => ?_)
       exact nl (kq ⟨_, hs424, memi 1 rfl, trivial⟩ (alc D_1_99 ⟨b0', ⟨rfl, rfl, rfl, rfl, rfl, trivial⟩, hs424⟩))
     · refine one_ rfl ?_
       refine bsk hs423 sl23 [I 2] [I 2] trivial rfl (fun b1' w425 hs425 => ?_)
       exact nl (kq ⟨_, hs425, memi 1 rfl, trivial⟩ (alc D_1_100 ⟨b1', ⟨rfl, rfl, rfl, rfl, rfl, trivial⟩, hs425⟩))
     · refine one_ rfl ?_
       refine bsk hs423 sl23 [I 0, I 2] [I 0, I 2] trivial rfl (fun b2' w426 hs426 => ?_)
       exact nl (kq ⟨_, hs426, memi 1 rfl, trivial⟩ (alc D_1_101 ⟨b2', ⟨rfl, rfl, rfl, rfl, rfl, trivial⟩, hs426⟩))
     · refine one_ rfl ?_
       refine bsk hs423 sl23 [I 2, I 1] [I 2, I 1] trivial rfl (fun b3' w427 hs427 => ?_)
       exact nl (kq ⟨_, hs427, memi 1 rfl, trivial⟩ (alc D_1_102 ⟨b3', ⟨rfl, rfl, rfl, rfl, rfl, trivial⟩, hs427⟩))
     · refine one_ rfl ?_
       refine cl trivial rfl (pick (rb := rb) (Ab := Ab) (cb := cb) (bs := bs) (p := p) (n := 4) (w := _) (hr := (blk_heap hs423 0 rfl)) (hb := (hb.up hs423 (fun _ h => h) (fun _ h => .inl h))) (hbn := (by first | assumption | (simp; omega))) (hp := (by omega))) ?_
       rintro _ w428 ⟨r6', q6', rfl, p427, p428, hs428'⟩
       have hs428 := hs423.callM 0 rfl hs428' (by intro k hk; simp at hk; exact hk.symm)
       clear hs428'
       exact nl (kq ⟨_, hs428, memi 0 rfl, trivial⟩ (alc D_1_103 ⟨r6', q6', ⟨rfl, rfl, rfl, rfl, trivial⟩, p427, p428, (hs428.pick [1, 0] rfl (by decide))⟩))
     · refine one_ rfl ?_
       refine al (v := .agg #[ns, Str [], Str [], I 0, ns, Str [], I 0]) (cs := [ns, Str [], Str [], I 0, ns, Str [], I 0]) hs423 tz29 rfl trivial rfl (fun b12' w429 hs429 => ?_)
       exact nl (kq ⟨_, hs429, memi 1 rfl, trivial⟩ (alc D_1_104 ⟨b12', ⟨rfl, rfl, rfl, rfl, rfl, trivial⟩, hs429⟩))
   have hs430 := hs1.drew
   refine tk (fuel := 12) (is := [5, 9]) (.cons rfl (.cons rfl (.nil))) (by kernel_rfl) (by kernel_rfl) ⟨_, hs430, memi 1 rfl, trivial⟩ ?_
   refine .op trivial rfl rfl (fun wq _ => mv (v := pb rb) rfl) ?_
   refine .op trivial rfl rfl (fun wq _ => mv (v := pb rb) rfl) ?_
   refine .nil ?_
   exact alc D_1_105 ⟨⟨rfl, rfl, rfl, rfl, trivial⟩, hs430⟩
 rintro f w430 ⟨b0', b1', b2', b3', r6', q6', b12', Aq10', cq10', ak10', aq10', an10', apt10', q10', b4', hf, p429, p430, p431, p432, p433, hs431⟩
 obtain ⟨g107, rfl⟩ := has_upd hf
 clear hf
 refine nN ?_
 refine sq ?_
 refine rg ?_
 refine bsk hs431 sl23 [] [] trivial rfl (fun b2 w431 (hs432 : SH w w431 [rb] [.blk rb 78 [.slice Ab bs.length cb, I ((q10' : Nat) : Int)], .blk b1 29 [ns, Str [], Str [], I 0, ns, Str [], I 0], oI b0' ([0] : List Int) 1 3, oI b1' ([2] : List Int) 1 3, .own Aq10' aq10'.length cq10' 3 1 (aq10'.map I), .blk b12' 29 [.slice ((([(⟨(some ⟨b0', 0, none⟩), 1, ([0] : List Int)⟩ : Hd), (⟨(some ⟨b1', 0, none⟩), 1, ([2] : List Int)⟩ : Hd), (⟨(some ⟨b2', 0, none⟩), 2, ([0, 2] : List Int)⟩ : Hd), (⟨(some ⟨b3', 0, none⟩), 2, ([2, 1] : List Int)⟩ : Hd)] : List Hd).getD r6'.toNat hd0).A) ((([([0] : List Int), ([2] : List Int), ([0, 2] : List Int), ([2, 1] : List Int)] : List (List Int)).getD r6'.toNat []).length) ((([(⟨(some ⟨b0', 0, none⟩), 1, ([0] : List Int)⟩ : Hd), (⟨(some ⟨b1', 0, none⟩), 1, ([2] : List Int)⟩ : Hd), (⟨(some ⟨b2', 0, none⟩), 2, ([0, 2] : List Int)⟩ : Hd), (⟨(some ⟨b3', 0, none⟩), 2, ([2, 1] : List Int)⟩ : Hd)] : List Hd).getD r6'.toNat hd0).c), Str [], Str [], I ak10', .slice Aq10' aq10'.length cq10', Str an10', I apt10'], oI b2' ([0, 2] : List Int) 2 3, oI b3' ([2, 1] : List Int) 2 3, .own (some ⟨b4', 0, none⟩) (([(⟨(some ⟨b0', 0, none⟩), 1, ([0] : List Int)⟩ : Hd), (⟨(some ⟨b1', 0, none⟩), 1, ([2] : List Int)⟩ : Hd), (⟨(some ⟨b2', 0, none⟩), 2, ([0, 2] : List Int)⟩ : Hd), (⟨(some ⟨b3', 0, none⟩), 2, ([2, 1] : List Int)⟩ : Hd)] : List Hd).length) 4 23 1 (([(⟨(some ⟨b0', 0, none⟩), 1, ([0] : List Int)⟩ : Hd), (⟨(some ⟨b1', 0, none⟩), 1, ([2] : List Int)⟩ : Hd), (⟨(some ⟨b2', 0, none⟩), 2, ([0, 2] : List Int)⟩ : Hd), (⟨(some ⟨b3', 0, none⟩), 2, ([2, 1] : List Int)⟩ : Hd)] : List Hd).map hv), oI b2 ([] : List Int) 0 3]) => ?_)
 refine q trivial rfl rfl (fa 0 fo29_0 rfl) ?_
 refine q trivial rfl rfl (ld (v := .slice ((([(⟨(some ⟨b0', 0, none⟩), 1, ([0] : List Int)⟩ : Hd), (⟨(some ⟨b1', 0, none⟩), 1, ([2] : List Int)⟩ : Hd), (⟨(some ⟨b2', 0, none⟩), 2, ([0, 2] : List Int)⟩ : Hd), (⟨(some ⟨b3', 0, none⟩), 2, ([2, 1] : List Int)⟩ : Hd)] : List Hd).getD r6'.toNat hd0).A) ((([([0] : List Int), ([2] : List Int), ([0, 2] : List Int), ([2, 1] : List Int)] : List (List Int)).getD r6'.toNat []).length) ((([(⟨(some ⟨b0', 0, none⟩), 1, ([0] : List Int)⟩ : Hd), (⟨(some ⟨b1', 0, none⟩), 1, ([2] : List Int)⟩ : Hd), (⟨(some ⟨b2', 0, none⟩), 2, ([0, 2] : List Int)⟩ : Hd), (⟨(some ⟨b3', 0, none⟩), 2, ([2, 1] : List Int)⟩ : Hd)] : List Hd).getD r6'.toNat hd0).c)) hs432 5 rfl rfl rfl one23) ?_
 refine apm (g := I) (ys := ([] : List Int)) (zs := ([([0] : List Int), ([2] : List Int), ([0, 2] : List Int), ([2, 1] : List Int)] : List (List Int)).getD r6'.toNat []) hs432 9 rfl sl23 rfl rfl rfl (hd_at2 (L := ([([0] : List Int), ([2] : List Int), ([0, 2] : List Int), ([2, 1] : List Int)] : List (List Int))) rfl (fa_cons (hs432.sl0 2 rfl) (fa_cons (hs432.sl0 3 rfl) (fa_cons (hs432.sl0 6 rfl) (fa_cons (hs432.sl0 7 rfl) fa_nil)))) (by first | (first | omega | (simp; done) | (simp; omega)) | (have h4 := four_len r6'.toNat; first | omega | (simp; done) | (simp; omega)))) (fun _ => rfl) (by unfold maxLen; have h4 := four_len r6'.toNat; (try simp only [List.length_nil, Nat.zero_add]); omega) (by have h4 := four_len r6'.toNat; (try simp only [List.length_nil, Nat.zero_add]); omega) trivial rfl (fun A1 c1 w432 (hs433 : SH w w432 [rb] [.blk rb 78 [.slice Ab bs.length cb, I ((q10' : Nat) : Int)], .blk b1 29 [ns, Str [], Str [], I 0, ns, Str [], I 0], oI b0' ([0] : List Int) 1 3, oI b1' ([2] : List Int) 1 3, .own Aq10' aq10'.length cq10' 3 1 (aq10'.map I), .blk b12' 29 [.slice ((([(⟨(some ⟨b0', 0, none⟩), 1, ([0] : List Int)⟩ : Hd), (⟨(some ⟨b1', 0, none⟩), 1, ([2] : List Int)⟩ : Hd), (⟨(some ⟨b2', 0, none⟩), 2, ([0, 2] : List Int)⟩ : Hd), (⟨(some ⟨b3', 0, none⟩), 2, ([2, 1] : List Int)⟩ : Hd)] : List Hd).getD r6'.toNat hd0).A) ((([([0] : List Int), ([2] : List Int), ([0, 2] : List Int), ([2, 1] : List Int)] : List (List Int)).getD r6'.toNat []).length) ((([(⟨(some ⟨b0', 0, none⟩), 1, ([0] : List Int)⟩ : Hd), (⟨(some ⟨b1', 0, none⟩), 1, ([2] : List Int)⟩ : Hd), (⟨(some ⟨b2', 0, none⟩), 2, ([0, 2] : List Int)⟩ : Hd), (⟨(some ⟨b3', 0, none⟩), 2, ([2, 1] : List Int)⟩ : Hd)] : List Hd).getD r6'.toNat hd0).c), Str [], Str [], I ak10', .slice Aq10' aq10'.length cq10', Str an10', I apt10'], oI b2' ([0, 2] : List Int) 2 3, oI b3' ([2, 1] : List Int) 2 3, .own (some ⟨b4', 0, none⟩) (([(⟨(some ⟨b0', 0, none⟩), 1, ([0] : List Int)⟩ : Hd), (⟨(some ⟨b1', 0, none⟩), 1, ([2] : List Int)⟩ : Hd), (⟨(some ⟨b2', 0, none⟩), 2, ([0, 2] : List Int)⟩ : Hd), (⟨(some ⟨b3', 0, none⟩), 2, ([2, 1] : List Int)⟩ : Hd)] : List Hd).length) 4 23 1 (([(⟨(some ⟨b0', 0, none⟩), 1, ([0] : List Int)⟩ : Hd), (⟨(some ⟨b1', 0, none⟩), 1, ([2] : List Int)⟩ : Hd), (⟨(some ⟨b2', 0, none⟩), 2, ([0, 2] : List Int)⟩ : Hd), (⟨(some ⟨b3', 0, none⟩), 2, ([2, 1] : List Int)⟩ : Hd)] : List Hd).map hv), .own A1 ((([([0] : List Int), ([2] : List Int), ([0, 2] : List Int), ([2, 1] : List Int)] : List (List Int)).getD r6'.toNat []).length) c1 3 1 ((([([0] : List Int), ([2] : List Int), ([0, 2] : List Int), ([2, 1] : List Int)] : List (List Int)).getD r6'.toNat []).map I)]) => ?_)
 refine q trivial rfl rfl (fa 0 fo29_0 rfl) ?_
 refine st (v := .slice A1 ((([([0] : List Int), ([2] : List Int), ([0, 2] : List Int), ([2, 1] : List Int)] : List (List Int)).getD r6'.toNat []).length) c1) hs433 5 rfl rfl rfl rfl rfl one23 trivial (fun w433 (hs434 : SH w w433 [rb] [.blk rb 78 [.slice Ab bs.length cb, I ((q10' : Nat) : Int)], .blk b1 29 [ns, Str [], Str [], I 0, ns, Str [], I 0], oI b0' ([0] : List Int) 1 3, oI b1' ([2] : List Int) 1 3, .own Aq10' aq10'.length cq10' 3 1 (aq10'.map I), oI b2' ([0, 2] : List Int) 2 3, oI b3' ([2, 1] : List Int) 2 3, .own (some ⟨b4', 0, none⟩) (([(⟨(some ⟨b0', 0, none⟩), 1, ([0] : List Int)⟩ : Hd), (⟨(some ⟨b1', 0, none⟩), 1, ([2] : List Int)⟩ : Hd), (⟨(some ⟨b2', 0, none⟩), 2, ([0, 2] : List Int)⟩ : Hd), (⟨(some ⟨b3', 0, none⟩), 2, ([2, 1] : List Int)⟩ : Hd)] : List Hd).length) 4 23 1 (([(⟨(some ⟨b0', 0, none⟩), 1, ([0] : List Int)⟩ : Hd), (⟨(some ⟨b1', 0, none⟩), 1, ([2] : List Int)⟩ : Hd), (⟨(some ⟨b2', 0, none⟩), 2, ([0, 2] : List Int)⟩ : Hd), (⟨(some ⟨b3', 0, none⟩), 2, ([2, 1] : List Int)⟩ : Hd)] : List Hd).map hv), .own A1 ((([([0] : List Int), ([2] : List Int), ([0, 2] : List Int), ([2, 1] : List Int)] : List (List Int)).getD r6'.toNat []).length) c1 3 1 ((([([0] : List Int), ([2] : List Int), ([0, 2] : List Int), ([2, 1] : List Int)] : List (List Int)).getD r6'.toNat []).map I), .blk b12' 29 [.slice A1 ((([([0] : List Int), ([2] : List Int), ([0, 2] : List Int), ([2, 1] : List Int)] : List (List Int)).getD r6'.toNat []).length) c1, Str [], Str [], I ak10', .slice Aq10' aq10'.length cq10', Str an10', I apt10']]) => ?_)
 refine nl ?_
 refine nN ?_
 have hs435 : SH w w433 [rb] [.blk rb 78 [.slice Ab bs.length cb, I ((q10' : Nat) : Int)], .blk b1 29 [ns, Str [], Str [], I 0, ns, Str [], I 0], .own Aq10' aq10'.length cq10' 3 1 (aq10'.map I), .own A1 ((([([0] : List Int), ([2] : List Int), ([0, 2] : List Int), ([2, 1] : List Int)] : List (List Int)).getD r6'.toNat []).length) c1 3 1 ((([([0] : List Int), ([2] : List Int), ([0, 2] : List Int), ([2, 1] : List Int)] : List (List Int)).getD r6'.toNat []).map I), .blk b12' 29 [.slice A1 ((([([0] : List Int), ([2] : List Int), ([0, 2] : List Int), ([2, 1] : List Int)] : List (List Int)).getD r6'.toNat []).length) c1, Str [], Str [], I ak10', .slice Aq10' aq10'.length cq10', Str an10', I apt10']] := hs434.pick [0, 1, 4, 8, 9] rfl (by decide)
 refine sq ?_
 refine sq ?_
 refine rg ?_
 refine q trivial rfl rfl (fa 0 fo29_0 rfl) ?_
 refine q trivial rfl rfl (ld (v := .slice A1 ((([([0] : List Int), ([2] : List Int), ([0, 2] : List Int), ([2, 1] : List Int)] : List (List Int)).getD r6'.toNat []).length) c1) hs435 4 rfl rfl rfl one23) ?_
 refine cl trivial rfl (l5Has (Azs := A1) (czs := c1) (zs := ([([0] : List Int), ([2] : List Int), ([0, 2] : List Int), ([2, 1] : List Int)] : List (List Int)).getD r6'.toNat []) (n := 2) (w := _) (hzs := (hs435.sl0 3 rfl))) ?_
 rintro _ w434 ⟨rfl, hs436'⟩
 have hs436 : SH w w434 [rb] [.blk rb 78 [.slice Ab bs.length cb, I ((q10' : Nat) : Int)], .blk b1 29 [ns, Str [], Str [], I 0, ns, Str [], I 0], .own Aq10' aq10'.length cq10' 3 1 (aq10'.map I), .own A1 ((([([0] : List Int), ([2] : List Int), ([0, 2] : List Int), ([2, 1] : List Int)] : List (List Int)).getD r6'.toNat []).length) c1 3 1 ((([([0] : List Int), ([2] : List Int), ([0, 2] : List Int), ([2, 1] : List Int)] : List (List Int)).getD r6'.toNat []).map I), .blk b12' 29 [.slice A1 ((([([0] : List Int), ([2] : List Int), ([0, 2] : List Int), ([2, 1] : List Int)] : List (List Int)).getD r6'.toNat []).length) c1, Str [], Str [], I ak10', .slice Aq10' aq10'.length cq10', Str an10', I apt10']] := hs435.call0 hs436'
 clear hs436'
 refine nl ?_
 refine nN ?_
 refine cdd (p := 2 ∈ (([([0] : List Int), ([2] : List Int), ([0, 2] : List Int), ([2, 1] : List Int)] : List (List Int)).getD r6'.toNat [])) rfl (fun h1 => ?_) (fun h1 => ?_)
 · refine rg ?_
   refine q trivial rfl rfl (bdv (v := .agg #[Str [97, 110, 110], Str [97, 98, 99]]) [(0, Str [97, 110, 110]), (1, Str [97, 98, 99])] rfl (fun _ => by kernel_rfl)) ?_
   refine q trivial rfl rfl (bdv (v := .agg #[Str [98, 111, 98], Str [57]]) [(0, Str [98, 111, 98]), (1, Str [57])] rfl (fun _ => by kernel_rfl)) ?_
   refine q trivial rfl rfl (bdv (v := .agg #[Str [98, 111, 98], Str [97, 98, 99]]) [(0, Str [98, 111, 98]), (1, Str [97, 98, 99])] rfl (fun _ => by kernel_rfl)) ?_
   refine bsk hs436 sl76 [.agg #[Str [97, 110, 110], Str [97, 98, 99]], .agg #[Str [98, 111, 98], Str [57]], .agg #[Str [98, 111, 98], Str [97, 98, 99]]] [Str [97, 110, 110], Str [97, 98, 99], Str [98, 111, 98], Str [57], Str [98, 111, 98], Str [97, 98, 99]] trivial rfl (fun b3 w435 (hs437 : SH w w435 [rb] [.blk rb 78 [.slice Ab bs.length cb, I ((q10' : Nat) : Int)], .blk b1 29 [ns, Str [], Str [], I 0, ns, Str [], I 0], .own Aq10' aq10'.length cq10' 3 1 (aq10'.map I), .own A1 ((([([0] : List Int), ([2] : List Int), ([0, 2] : List Int), ([2, 1] : List Int)] : List (List Int)).getD r6'.toNat []).length) c1 3 1 ((([([0] : List Int), ([2] : List Int), ([0, 2] : List Int), ([2, 1] : List Int)] : List (List Int)).getD r6'.toNat []).map I), .blk b12' 29 [.slice A1 ((([([0] : List Int), ([2] : List Int), ([0, 2] : List Int), ([2, 1] : List Int)] : List (List Int)).getD r6'.toNat []).length) c1, Str [], Str [], I ak10', .slice Aq10' aq10'.length cq10', Str an10', I apt10'], .own (some ⟨b3, 0, none⟩) (([(([97, 110, 110], [97, 98, 99]) : List UInt8 × List UInt8), (([98, 111, 98], [57]) : List UInt8 × List UInt8), (([98, 111, 98], [97, 98, 99]) : List UInt8 × List UInt8)] : List (List UInt8 × List UInt8)).length) 3 25 2 (([(([97, 110, 110], [97, 98, 99]) : List UInt8 × List UInt8), (([98, 111, 98], [57]) : List UInt8 × List UInt8), (([98, 111, 98], [97, 98, 99]) : List UInt8 × List UInt8)] : List (List UInt8 × List UInt8)).flatMap gLogin)]) => ?_)
   refine q trivial rfl rfl (mv (v := pb rb) rfl) ?_
   refine cl trivial rfl (pick (rb := rb) (Ab := Ab) (cb := cb) (bs := bs) (p := q10') (n := 3) (w := _) (hr := (blk_heap hs437 0 rfl)) (hb := (hb.up hs437 (fun _ h => h) (fun _ h => .inl h))) (hbn := (by first | assumption | (simp; omega))) (hp := (by omega))) ?_
   rintro _ w436 ⟨r1, q1, rfl, p434, p435, hs438'⟩
   have hs438 : SH w w436 [rb] [.blk b1 29 [ns, Str [], Str [], I 0, ns, Str [], I 0], .own Aq10' aq10'.length cq10' 3 1 (aq10'.map I), .own A1 ((([([0] : List Int), ([2] : List Int), ([0, 2] : List Int), ([2, 1] : List Int)] : List (List Int)).getD r6'.toNat []).length) c1 3 1 ((([([0] : List Int), ([2] : List Int), ([0, 2] : List Int), ([2, 1] : List Int)] : List (List Int)).getD r6'.toNat []).map I), .blk b12' 29 [.slice A1 ((([([0] : List Int), ([2] : List Int), ([0, 2] : List Int), ([2, 1] : List Int)] : List (List Int)).getD r6'.toNat []).length) c1, Str [], Str [], I ak10', .slice Aq10' aq10'.length cq10', Str an10', I apt10'], .own (some ⟨b3, 0, none⟩) (([(([97, 110, 110], [97, 98, 99]) : List UInt8 × List UInt8), (([98, 111, 98], [57]) : List UInt8 × List UInt8), (([98, 111, 98], [97, 98, 99]) : List UInt8 × List UInt8)] : List (List UInt8 × List UInt8)).length) 3 25 2 (([(([97, 110, 110], [97, 98, 99]) : List UInt8 × List UInt8), (([98, 111, 98], [57]) : List UInt8 × List UInt8), (([98, 111, 98], [97, 98, 99]) : List UInt8 × List UInt8)] : List (List UInt8 × List UInt8)).flatMap gLogin), .blk rb 78 [.slice Ab bs.length cb, I ((q1 : Nat) : Int)]] := hs437.callM 0 rfl hs438' (by intro k hk; simp at hk; exact hk.symm)
   clear hs438'
   refine q trivial rfl rfl (ixo r1.toNat sl76 rfl (ieq (x := r1) (by first | (omega) | (have h4 := four_len r6'.toNat; omega))) (by first | (first | omega | (simp; done) | (simp; omega)) | (have h4 := four_len r6'.toNat; first | omega | (simp; done) | (simp; omega)))) ?_
   refine q trivial rfl rfl (ldofg (g := gLogin) (ys := ([(([97, 110, 110], [97, 98, 99]) : List UInt8 × List UInt8), (([98, 111, 98], [57]) : List UInt8 × List UInt8), (([98, 111, 98], [97, 98, 99]) : List UInt8 × List UInt8)] : List (List UInt8 × List UInt8))) (o := r1.toNat) (vs := [Str ((([(([97, 110, 110], [97, 98, 99]) : List UInt8 × List UInt8), (([98, 111, 98], [57]) : List UInt8 × List UInt8), (([98, 111, 98], [97, 98, 99]) : List UInt8 × List UInt8)] : List (List UInt8 × List UInt8)).getD r1.toNat login0).1), Str ((([(([97, 110, 110], [97, 98, 99]) : List UInt8 × List UInt8), (([98, 111, 98], [57]) : List UInt8 × List UInt8), (([98, 111, 98], [97, 98, 99]) : List UInt8 × List UInt8)] : List (List UInt8 × List UInt8)).getD r1.toNat login0).2)]) login0 (fun _ => rfl) hs438 4 rfl rfl (by first | (first | omega | (simp; done) | (simp; omega)) | (have h4 := four_len r6'.toNat; first | omega | (simp; done) | (simp; omega))) rfl ag25) ?_
   refine q trivial rfl rfl (fa 1 fo29_1 rfl) ?_
   refine stg (vs := [Str ((([(([97, 110, 110], [97, 98, 99]) : List UInt8 × List UInt8), (([98, 111, 98], [57]) : List UInt8 × List UInt8), (([98, 111, 98], [97, 98, 99]) : List UInt8 × List UInt8)] : List (List UInt8 × List UInt8)).getD r1.toNat login0).1), Str ((([(([97, 110, 110], [97, 98, 99]) : List UInt8 × List UInt8), (([98, 111, 98], [57]) : List UInt8 × List UInt8), (([98, 111, 98], [97, 98, 99]) : List UInt8 × List UInt8)] : List (List UInt8 × List UInt8)).getD r1.toNat login0).2)]) hs438 3 rfl rfl rfl rfl rfl rfl rfl ag25 trivial (fun w437 (hs439 : SH w w437 [rb] [.blk b1 29 [ns, Str [], Str [], I 0, ns, Str [], I 0], .own Aq10' aq10'.length cq10' 3 1 (aq10'.map I), .own A1 ((([([0] : List Int), ([2] : List Int), ([0, 2] : List Int), ([2, 1] : List Int)] : List (List Int)).getD r6'.toNat []).length) c1 3 1 ((([([0] : List Int), ([2] : List Int), ([0, 2] : List Int), ([2, 1] : List Int)] : List (List Int)).getD r6'.toNat []).map I), .own (some ⟨b3, 0, none⟩) (([(([97, 110, 110], [97, 98, 99]) : List UInt8 × List UInt8), (([98, 111, 98], [57]) : List UInt8 × List UInt8), (([98, 111, 98], [97, 98, 99]) : List UInt8 × List UInt8)] : List (List UInt8 × List UInt8)).length) 3 25 2 (([(([97, 110, 110], [97, 98, 99]) : List UInt8 × List UInt8), (([98, 111, 98], [57]) : List UInt8 × List UInt8), (([98, 111, 98], [97, 98, 99]) : List UInt8 × List UInt8)] : List (List UInt8 × List UInt8)).flatMap gLogin), .blk rb 78 [.slice Ab bs.length cb, I ((q1 : Nat) : Int)], .blk b12' 29 [.slice A1 ((([([0] : List Int), ([2] : List Int), ([0, 2] : List Int), ([2, 1] : List Int)] : List (List Int)).getD r6'.toNat []).length) c1, Str ((([(([97, 110, 110], [97, 98, 99]) : List UInt8 × List UInt8), (([98, 111, 98], [57]) : List UInt8 × List UInt8), (([98, 111, 98], [97, 98, 99]) : List UInt8 × List UInt8)] : List (List UInt8 × List UInt8)).getD r1.toNat login0).1), Str ((([(([97, 110, 110], [97, 98, 99]) : List UInt8 × List UInt8), (([98, 111, 98], [57]) : List UInt8 × List UInt8), (([98, 111, 98], [97, 98, 99]) : List UInt8 × List UInt8)] : List (List UInt8 × List UInt8)).getD r1.toNat login0).2), I ak10', .slice Aq10' aq10'.length cq10', Str an10', I apt10']]) => ?_)
   refine nl ?_
   refine nN ?_
   refine sq ?_
   refine sq ?_
   refine rg ?_
   refine q trivial rfl rfl (mv (v := pb rb) rfl) ?_
   refine cl trivial rfl (pick (rb := rb) (Ab := Ab) (cb := cb) (bs := bs) (p := q1) (n := 20) (w := _) (hr := (blk_heap hs439 4 rfl)) (hb := (hb.up hs439 (fun _ h => h) (fun _ h => .inl h))) (hbn := (by first | assumption | (simp; omega))) (hp := (by omega))) ?_
   rintro _ w438 ⟨r2, q2, rfl, p436, p437, hs440'⟩
   have hs440 : SH w w438 [rb] [.blk b1 29 [ns, Str [], Str [], I 0, ns, Str [], I 0], .own Aq10' aq10'.length cq10' 3 1 (aq10'.map I), .own A1 ((([([0] : List Int), ([2] : List Int), ([0, 2] : List Int), ([2, 1] : List Int)] : List (List Int)).getD r6'.toNat []).length) c1 3 1 ((([([0] : List Int), ([2] : List Int), ([0, 2] : List Int), ([2, 1] : List Int)] : List (List Int)).getD r6'.toNat []).map I), .own (some ⟨b3, 0, none⟩) (([(([97, 110, 110], [97, 98, 99]) : List UInt8 × List UInt8), (([98, 111, 98], [57]) : List UInt8 × List UInt8), (([98, 111, 98], [97, 98, 99]) : List UInt8 × List UInt8)] : List (List UInt8 × List UInt8)).length) 3 25 2 (([(([97, 110, 110], [97, 98, 99]) : List UInt8 × List UInt8), (([98, 111, 98], [57]) : List UInt8 × List UInt8), (([98, 111, 98], [97, 98, 99]) : List UInt8 × List UInt8)] : List (List UInt8 × List UInt8)).flatMap gLogin), .blk b12' 29 [.slice A1 ((([([0] : List Int), ([2] : List Int), ([0, 2] : List Int), ([2, 1] : List Int)] : List (List Int)).getD r6'.toNat []).length) c1, Str ((([(([97, 110, 110], [97, 98, 99]) : List UInt8 × List UInt8), (([98, 111, 98], [57]) : List UInt8 × List UInt8), (([98, 111, 98], [97, 98, 99]) : List UInt8 × List UInt8)] : List (List UInt8 × List UInt8)).getD r1.toNat login0).1), Str ((([(([97, 110, 110], [97, 98, 99]) : List UInt8 × List UInt8), (([98, 111, 98], [57]) : List UInt8 × List UInt8), (([98, 111, 98], [97, 98, 99]) : List UInt8 × List UInt8)] : List (List UInt8 × List UInt8)).getD r1.toNat login0).2), I ak10', .slice Aq10' aq10'.length cq10', Str an10', I apt10'], .blk rb 78 [.slice Ab bs.length cb, I ((q2 : Nat) : Int)]] := hs439.callM 4 rfl hs440' (by intro k hk; simp at hk; exact hk.symm)
   clear hs440'
   refine q trivial rfl rfl (eqi (k := .i64) (a := r2) (b := 0) rfl rfl) ?_
   refine nl ?_
   refine nN ?_
   refine cdd (p := r2 = 0) rfl (fun h2 => ?_) (fun h2 => ?_)
   · refine rg ?_
     refine q trivial rfl rfl (bdv (v := .agg #[Str [97, 110, 110], Str []]) [(0, Str [97, 110, 110])] rfl (fun _ => by kernel_rfl)) ?_
     refine q trivial rfl rfl (fa 1 fo29_1 rfl) ?_
     refine stg (vs := [Str [97, 110, 110], Str []]) hs440 4 rfl rfl rfl rfl rfl rfl rfl ag25 trivial (fun w439 (hs441 : SH w w439 [rb] [.blk b1 29 [ns, Str [], Str [], I 0, ns, Str [], I 0], .own Aq10' aq10'.length cq10' 3 1 (aq10'.map I), .own A1 ((([([0] : List Int), ([2] : List Int), ([0, 2] : List Int), ([2, 1] : List Int)] : List (List Int)).getD r6'.toNat []).length) c1 3 1 ((([([0] : List Int), ([2] : List Int), ([0, 2] : List Int), ([2, 1] : List Int)] : List (List Int)).getD r6'.toNat []).map I), .own (some ⟨b3, 0, none⟩) (([(([97, 110, 110], [97, 98, 99]) : List UInt8 × List UInt8), (([98, 111, 98], [57]) : List UInt8 × List UInt8), (([98, 111, 98], [97, 98, 99]) : List UInt8 × List UInt8)] : List (List UInt8 × List UInt8)).length) 3 25 2 (([(([97, 110, 110], [97, 98, 99]) : List UInt8 × List UInt8), (([98, 111, 98], [57]) : List UInt8 × List UInt8), (([98, 111, 98], [97, 98, 99]) : List UInt8 × List UInt8)] : List (List UInt8 × List UInt8)).flatMap gLogin), .blk rb 78 [.slice Ab bs.length cb, I ((q2 : Nat) : Int)], .blk b12' 29 [.slice A1 ((([([0] : List Int), ([2] : List Int), ([0, 2] : List Int), ([2, 1] : List Int)] : List (List Int)).getD r6'.toNat []).length) c1, Str [97, 110, 110], Str [], I ak10', .slice Aq10' aq10'.length cq10', Str an10', I apt10']]) => ?_)
     refine nl ?_
     refine nN ?_
     refine sq ?_
     refine rg ?_
     refine q trivial rfl rfl (ldg (vs := [.slice A1 ((([([0] : List Int), ([2] : List Int), ([0, 2] : List Int), ([2, 1] : List Int)] : List (List Int)).getD r6'.toNat []).length) c1, Str [97, 110, 110], Str [], I ak10', .slice Aq10' aq10'.length cq10', Str an10', I apt10']) hs441 5 rfl rfl rfl rfl ag29) ?_
     refine stg (vs := [.slice A1 ((([([0] : List Int), ([2] : List Int), ([0, 2] : List Int), ([2, 1] : List Int)] : List (List Int)).getD r6'.toNat []).length) c1, Str [97, 110, 110], Str [], I ak10', .slice Aq10' aq10'.length cq10', Str an10', I apt10']) hs441 0 rfl rfl rfl rfl rfl rfl rfl ag29 trivial (fun w440 (hs442 : SH w w440 [rb] [.own Aq10' aq10'.length cq10' 3 1 (aq10'.map I), .own A1 ((([([0] : List Int), ([2] : List Int), ([0, 2] : List Int), ([2, 1] : List Int)] : List (List Int)).getD r6'.toNat []).length) c1 3 1 ((([([0] : List Int), ([2] : List Int), ([0, 2] : List Int), ([2, 1] : List Int)] : List (List Int)).getD r6'.toNat []).map I), .own (some ⟨b3, 0, none⟩) (([(([97, 110, 110], [97, 98, 99]) : List UInt8 × List UInt8), (([98, 111, 98], [57]) : List UInt8 × List UInt8), (([98, 111, 98], [97, 98, 99]) : List UInt8 × List UInt8)] : List (List UInt8 × List UInt8)).length) 3 25 2 (([(([97, 110, 110], [97, 98, 99]) : List UInt8 × List UInt8), (([98, 111, 98], [57]) : List UInt8 × List UInt8), (([98, 111, 98], [97, 98, 99]) : List UInt8 × List UInt8)] : List (List UInt8 × List UInt8)).flatMap gLogin), .blk rb 78 [.slice Ab bs.length cb, I ((q2 : Nat) : Int)], .blk b12' 29 [.slice A1 ((([([0] : List Int), ([2] : List Int), ([0, 2] : List Int), ([2, 1] : List Int)] : List (List Int)).getD r6'.toNat []).length) c1, Str [97, 110, 110], Str [], I ak10', .slice Aq10' aq10'.length cq10', Str an10', I apt10'], .blk b1 29 [.slice A1 ((([([0] : List Int), ([2] : List Int), ([0, 2] : List Int), ([2, 1] : List Int)] : List (List Int)).getD r6'.toNat []).length) c1, Str [97, 110, 110], Str [], I ak10', .slice Aq10' aq10'.length cq10', Str an10', I apt10']]) => ?_)
     refine nl ?_
     refine nN ?_
     have hs443 : SH w w440 [rb] [.own Aq10' aq10'.length cq10' 3 1 (aq10'.map I), .own A1 ((([([0] : List Int), ([2] : List Int), ([0, 2] : List Int), ([2, 1] : List Int)] : List (List Int)).getD r6'.toNat []).length) c1 3 1 ((([([0] : List Int), ([2] : List Int), ([0, 2] : List Int), ([2, 1] : List Int)] : List (List Int)).getD r6'.toNat []).map I), .blk rb 78 [.slice Ab bs.length cb, I ((q2 : Nat) : Int)], .blk b1 29 [.slice A1 ((([([0] : List Int), ([2] : List Int), ([0, 2] : List Int), ([2, 1] : List Int)] : List (List Int)).getD r6'.toNat []).length) c1, Str [97, 110, 110], Str [], I ak10', .slice Aq10' aq10'.length cq10', Str an10', I apt10']] := hs442.pick [0, 1, 3, 5] rfl (by decide)
     refine rt ?_
     refine fret (v := .agg #[.slice A1 ((([([0] : List Int), ([2] : List Int), ([0, 2] : List Int), ([2, 1] : List Int)] : List (List Int)).getD r6'.toNat []).length) c1, Str [97, 110, 110], Str [], I ak10', .slice Aq10' aq10'.length cq10', Str an10', I apt10']) (resC hs443 3 rfl rfl ag29 rfl .nil) rfl ?_
     exact ⟨A1, c1, Aq10', cq10', ([([0] : List Int), ([2] : List Int), ([0, 2] : List Int), ([2, 1] : List Int)] : List (List Int)).getD r6'.toNat [], [97, 110, 110], [], ak10', aq10', an10', apt10', q2, rfl, (by have h4 := four_len r6'.toNat; omega), (by first | exact (three_login _).1 | simp), (by first | exact (three_login _).2 | simp), (by omega), (by omega), (by omega), (hs443.pick [2, 1, 0] rfl (by decide))⟩
   · refine sk ?_
     refine nN ?_
     refine sq ?_
     refine rg ?_
     refine q trivial rfl rfl (ldg (vs := [.slice A1 ((([([0] : List Int), ([2] : List Int), ([0, 2] : List Int), ([2, 1] : List Int)] : List (List Int)).getD r6'.toNat []).length) c1, Str ((([(([97, 110, 110], [97, 98, 99]) : List UInt8 × List UInt8), (([98, 111, 98], [57]) : List UInt8 × List UInt8), (([98, 111, 98], [97, 98, 99]) : List UInt8 × List UInt8)] : List (List UInt8 × List UInt8)).getD r1.toNat login0).1), Str ((([(([97, 110, 110], [97, 98, 99]) : List UInt8 × List UInt8), (([98, 111, 98], [57]) : List UInt8 × List UInt8), (([98, 111, 98], [97, 98, 99]) : List UInt8 × List UInt8)] : List (List UInt8 × List UInt8)).getD r1.toNat login0).2), I ak10', .slice Aq10' aq10'.length cq10', Str an10', I apt10']) hs440 4 rfl rfl rfl rfl ag29) ?_
     refine stg (vs := [.slice A1 ((([([0] : List Int), ([2] : List Int), ([0, 2] : List Int), ([2, 1] : List Int)] : List (List Int)).getD r6'.toNat []).length) c1, Str ((([(([97, 110, 110], [97, 98, 99]) : List UInt8 × List UInt8), (([98, 111, 98], [57]) : List UInt8 × List UInt8), (([98, 111, 98], [97, 98, 99]) : List UInt8 × List UInt8)] : List (List UInt8 × List UInt8)).getD r1.toNat login0).1), Str ((([(([97, 110, 110], [97, 98, 99]) : List UInt8 × List UInt8), (([98, 111, 98], [57]) : List UInt8 × List UInt8), (([98, 111, 98], [97, 98, 99]) : List UInt8 × List UInt8)] : List (List UInt8 × List UInt8)).getD r1.toNat login0).2), I ak10', .slice Aq10' aq10'.length cq10', Str an10', I apt10']) hs440 0 rfl rfl rfl rfl rfl rfl rfl ag29 trivial (fun w441 (hs444 : SH w w441 [rb] [.own Aq10' aq10'.length cq10' 3 1 (aq10'.map I), .own A1 ((([([0] : List Int), ([2] : List Int), ([0, 2] : List Int), ([2, 1] : List Int)] : List (List Int)).getD r6'.toNat []).length) c1 3 1 ((([([0] : List Int), ([2] : List Int), ([0, 2] : List Int), ([2, 1] : List Int)] : List (List Int)).getD r6'.toNat []).map I), .own (some ⟨b3, 0, none⟩) (([(([97, 110, 110], [97, 98, 99]) : List UInt8 × List UInt8), (([98, 111, 98], [57]) : List UInt8 × List UInt8), (([98, 111, 98], [97, 98, 99]) : List UInt8 × List UInt8)] : List (List UInt8 × List UInt8)).length) 3 25 2 (([(([97, 110, 110], [97, 98, 99]) : List UInt8 × List UInt8), (([98, 111, 98], [57]) : List UInt8 × List UInt8), (([98, 111, 98], [97, 98, 99]) : List UInt8 × List UInt8)] : List (List UInt8 × List UInt8)).flatMap gLogin), .blk b12' 29 [.slice A1 ((([([0] : List Int), ([2] : List Int), ([0, 2] : List Int), ([2, 1] : List Int)] : List (List Int)).getD r6'.toNat []).length) c1, Str ((([(([97, 110, 110], [97, 98, 99]) : List UInt8 × List UInt8), (([98, 111, 98], [57]) : List UInt8 × List UInt8), (([98, 111, 98], [97, 98, 99]) : List UInt8 × List UInt8)] : List (List UInt8 × List UInt8)).getD r1.toNat login0).1), Str ((([(([97, 110, 110], [97, 98, 99]) : List UInt8 × List UInt8), (([98, 111, 98], [57]) : List UInt8 × List UInt8), (([98, 111, 98], [97, 98, 99]) : List UInt8 × List UInt8)] : List (List UInt8 × List UInt8)).getD r1.toNat login0).2), I ak10', .slice Aq10' aq10'.length cq10', Str an10', I apt10'], .blk rb 78 [.slice Ab bs.length cb, I ((q2 : Nat) : Int)], .blk b1 29 [.slice A1 ((([([0] : List Int), ([2] : List Int), ([0, 2] : List Int), ([2, 1] : List Int)] : List (List Int)).getD r6'.toNat []).length) c1, Str ((([(([97, 110, 110], [97, 98, 99]) : List UInt8 × List UInt8), (([98, 111, 98], [57]) : List UInt8 × List UInt8), (([98, 111, 98], [97, 98, 99]) : List UInt8 × List UInt8)] : List (List UInt8 × List UInt8)).getD r1.toNat login0).1), Str ((([(([97, 110, 110], [97, 98, 99]) : List UInt8 × List UInt8), (([98, 111, 98], [57]) : List UInt8 × List UInt8), (([98, 111, 98], [97, 98, 99]) : List UInt8 × List UInt8)] : List (List UInt8 × List UInt8)).getD r1.toNat login0).2), I ak10', .slice Aq10' aq10'.length cq10', Str an10', I apt10']]) => ?_)
     refine nl ?_
     refine nN ?_
     have hs445 : SH w w441 [rb] [.own Aq10' aq10'.length cq10' 3 1 (aq10'.map I), .own A1 ((([([0] : List Int), ([2] : List Int), ([0, 2] : List Int), ([2, 1] : List Int)] : List (List Int)).getD r6'.toNat []).length) c1 3 1 ((([([0] : List Int), ([2] : List Int), ([0, 2] : List Int), ([2, 1] : List Int)] : List (List Int)).getD r6'.toNat []).map I), .blk rb 78 [.slice Ab bs.length cb, I ((q2 : Nat) : Int)], .blk b1 29 [.slice A1 ((([([0] : List Int), ([2] : List Int), ([0, 2] : List Int), ([2, 1] : List Int)] : List (List Int)).getD r6'.toNat []).length) c1, Str ((([(([97, 110, 110], [97, 98, 99]) : List UInt8 × List UInt8), (([98, 111, 98], [57]) : List UInt8 × List UInt8), (([98, 111, 98], [97, 98, 99]) : List UInt8 × List UInt8)] : List (List UInt8 × List UInt8)).getD r1.toNat login0).1), Str ((([(([97, 110, 110], [97, 98, 99]) : List UInt8 × List UInt8), (([98, 111, 98], [57]) : List UInt8 × List UInt8), (([98, 111, 98], [97, 98, 99]) : List UInt8 × List UInt8)] : List (List UInt8 × List UInt8)).getD r1.toNat login0).2), I ak10', .slice Aq10' aq10'.length cq10', Str an10', I apt10']] := hs444.pick [0, 1, 4, 5] rfl (by decide)
     refine rt ?_
     refine fret (v := .agg #[.slice A1 ((([([0] : List Int), ([2] : List Int), ([0, 2] : List Int), ([2, 1] : List Int)] : List (List Int)).getD r6'.toNat []).length) c1, Str ((([(([97, 110, 110], [97, 98, 99]) : List UInt8 × List UInt8), (([98, 111, 98], [57]) : List UInt8 × List UInt8), (([98, 111, 98], [97, 98, 99]) : List UInt8 × List UInt8)] : List (List UInt8 × List UInt8)).getD r1.toNat login0).1), Str ((([(([97, 110, 110], [97, 98, 99]) : List UInt8 × List UInt8), (([98, 111, 98], [57]) : List UInt8 × List UInt8), (([98, 111, 98], [97, 98, 99]) : List UInt8 × List UInt8)] : List (List UInt8 × List UInt8)).getD r1.toNat login0).2), I ak10', .slice Aq10' aq10'.length cq10', Str an10', I apt10']) (resC hs445 3 rfl rfl ag29 rfl .nil) rfl ?_
     exact ⟨A1, c1, Aq10', cq10', ([([0] : List Int), ([2] : List Int), ([0, 2] : List Int), ([2, 1] : List Int)] : List (List Int)).getD r6'.toNat [], (([(([97, 110, 110], [97, 98, 99]) : List UInt8 × List UInt8), (([98, 111, 98], [57]) : List UInt8 × List UInt8), (([98, 111, 98], [97, 98, 99]) : List UInt8 × List UInt8)] : List (List UInt8 × List UInt8)).getD r1.toNat login0).1, (([(([97, 110, 110], [97, 98, 99]) : List UInt8 × List UInt8), (([98, 111, 98], [57]) : List UInt8 × List UInt8), (([98, 111, 98], [97, 98, 99]) : List UInt8 × List UInt8)] : List (List UInt8 × List UInt8)).getD r1.toNat login0).2, ak10', aq10', an10', apt10', q2, rfl, (by have h4 := four_len r6'.toNat; omega), (by first | exact (three_login _).1 | simp), (by first | exact (three_login _).2 | simp), (by omega), (by omega), (by omega), (hs445.pick [2, 1, 0] rfl (by decide))⟩
 · refine sk ?_
   refine nN ?_
   refine sq ?_
   refine sq ?_
   refine rg ?_
   refine q trivial rfl rfl (mv (v := pb rb) rfl) ?_
   refine cl trivial rfl (pick (rb := rb) (Ab := Ab) (cb := cb) (bs := bs) (p := q10') (n := 20) (w := _) (hr := (blk_heap hs436 0 rfl)) (hb := (hb.up hs436 (fun _ h => h) (fun _ h => .inl h))) (hbn := (by first | assumption | (simp; omega))) (hp := (by omega))) ?_
   rintro _ w442 ⟨r3, q3, rfl, p438, p439, hs446'⟩
   have hs446 : SH w w442 [rb] [.blk b1 29 [ns, Str [], Str [], I 0, ns, Str [], I 0], .own Aq10' aq10'.length cq10' 3 1 (aq10'.map I), .own A1 ((([([0] : List Int), ([2] : List Int), ([0, 2] : List Int), ([2, 1] : List Int)] : List (List Int)).getD r6'.toNat []).length) c1 3 1 ((([([0] : List Int), ([2] : List Int), ([0, 2] : List Int), ([2, 1] : List Int)] : List (List Int)).getD r6'.toNat []).map I), .blk b12' 29 [.slice A1 ((([([0] : List Int), ([2] : List Int), ([0, 2] : List Int), ([2, 1] : List Int)] : List (List Int)).getD r6'.toNat []).length) c1, Str [], Str [], I ak10', .slice Aq10' aq10'.length cq10', Str an10', I apt10'], .blk rb 78 [.slice Ab bs.length cb, I ((q3 : Nat) : Int)]] := hs436.callM 0 rfl hs446' (by intro k hk; simp at hk; exact hk.symm)
   clear hs446'
   refine q trivial rfl rfl (eqi (k := .i64) (a := r3) (b := 0) rfl rfl) ?_
   refine nl ?_
   refine nN ?_
   refine cdd (p := r3 = 0) rfl (fun h3 => ?_) (fun h3 => ?_)
   · refine rg ?_
     refine q trivial rfl rfl (bdv (v := .agg #[Str [97, 110, 110], Str []]) [(0, Str [97, 110, 110])] rfl (fun _ => by kernel_rfl)) ?_
     refine q trivial rfl rfl (fa 1 fo29_1 rfl) ?_
     refine stg (vs := [Str [97, 110, 110], Str []]) hs446 3 rfl rfl rfl rfl rfl rfl rfl ag25 trivial (fun w443 (hs447 : SH w w443 [rb] [.blk b1 29 [ns, Str [], Str [], I 0, ns, Str [], I 0], .own Aq10' aq10'.length cq10' 3 1 (aq10'.map I), .own A1 ((([([0] : List Int), ([2] : List Int), ([0, 2] : List Int), ([2, 1] : List Int)] : List (List Int)).getD r6'.toNat []).length) c1 3 1 ((([([0] : List Int), ([2] : List Int), ([0, 2] : List Int), ([2, 1] : List Int)] : List (List Int)).getD r6'.toNat []).map I), .blk rb 78 [.slice Ab bs.length cb, I ((q3 : Nat) : Int)], .blk b12' 29 [.slice A1 ((([([0] : List Int), ([2] : List Int), ([0, 2] : List Int), ([2, 1] : List Int)] : List (List Int)).getD r6'.toNat []).length) c1, Str [97, 110, 110], Str [], I ak10', .slice Aq10' aq10'.length cq10', Str an10', I apt10']]) => ?_)
     refine nl ?_
     refine nN ?_
     refine sq ?_
     refine rg ?_
     refine q trivial rfl rfl (ldg (vs := [.slice A1 ((([([0] : List Int), ([2] : List Int), ([0, 2] : List Int), ([2, 1] : List Int)] : List (List Int)).getD r6'.toNat []).length) c1, Str [97, 110, 110], Str [], I ak10', .slice Aq10' aq10'.length cq10', Str an10', I apt10']) hs447 4 rfl rfl rfl rfl ag29) ?_
     refine stg (vs := [.slice A1 ((([([0] : List Int), ([2] : List Int), ([0, 2] : List Int), ([2, 1] : List Int)] : List (List Int)).getD r6'.toNat []).length) c1, Str [97, 110, 110], Str [], I ak10', .slice Aq10' aq10'.length cq10', Str an10', I apt10']) hs447 0 rfl rfl rfl rfl rfl rfl rfl ag29 trivial (fun w444 (hs448 : SH w w444 [rb] [.own Aq10' aq10'.length cq10' 3 1 (aq10'.map I), .own A1 ((([([0] : List Int), ([2] : List Int), ([0, 2] : List Int), ([2, 1] : List Int)] : List (List Int)).getD r6'.toNat []).length) c1 3 1 ((([([0] : List Int), ([2] : List Int), ([0, 2] : List Int), ([2, 1] : List Int)] : List (List Int)).getD r6'.toNat []).map I), .blk rb 78 [.slice Ab bs.length cb, I ((q3 : Nat) : Int)], .blk b12' 29 [.slice A1 ((([([0] : List Int), ([2] : List Int), ([0, 2] : List Int), ([2, 1] : List Int)] : List (List Int)).getD r6'.toNat []).length) c1, Str [97, 110, 110], Str [], I ak10', .slice Aq10' aq10'.length cq10', Str an10', I apt10'], .blk b1 29 [.slice A1 ((([([0] : List Int), ([2] : List Int), ([0, 2] : List Int), ([2, 1] : List Int)] : List (List Int)).getD r6'.toNat []).length) c1, Str [97, 110, 110], Str [], I ak10', .slice Aq10' aq10'.length cq10', Str an10', I apt10']]) => ?_)
     refine nl ?_
     refine nN ?_
     refine rt ?_
     refine fret (v := .agg #[.slice A1 ((([([0] : List Int), ([2] : List Int), ([0, 2] : List Int), ([2, 1] : List Int)] : List (List Int)).getD r6'.toNat []).length) c1, Str [97, 110, 110], Str [], I ak10', .slice Aq10' aq10'.length cq10', Str an10', I apt10']) (resC hs448 4 rfl rfl ag29 rfl .nil) rfl ?_
     exact ⟨A1, c1, Aq10', cq10', ([([0] : List Int), ([2] : List Int), ([0, 2] : List Int), ([2, 1] : List Int)] : List (List Int)).getD r6'.toNat [], [97, 110, 110], [], ak10', aq10', an10', apt10', q3, rfl, (by have h4 := four_len r6'.toNat; omega), (by first | exact (three_login _).1 | simp), (by first | exact (three_login _).2 | simp), (by omega), (by omega), (by omega), (hs448.pick [2, 1, 0] rfl (by decide))⟩
   · refine sk ?_
     refine nN ?_
     refine sq ?_
     refine rg ?_
     refine q trivial rfl rfl (ldg (vs := [.slice A1 ((([([0] : List Int), ([2] : List Int), ([0, 2] : List Int), ([2, 1] : List Int)] : List (List Int)).getD r6'.toNat []).length) c1, Str [], Str [], I ak10', .slice Aq10' aq10'.length cq10', Str an10', I apt10']) hs446 3 rfl rfl rfl rfl ag29) ?_
     refine stg (vs := [.slice A1 ((([([0] : List Int), ([2] : List Int), ([0, 2] : List Int), ([2, 1] : List Int)] : List (List Int)).getD r6'.toNat []).length) c1, Str [], Str [], I ak10', .slice Aq10' aq10'.length cq10', Str an10', I apt10']) hs446 0 rfl rfl rfl rfl rfl rfl rfl ag29 trivial (fun w445 (hs449 : SH w w445 [rb] [.own Aq10' aq10'.length cq10' 3 1 (aq10'.map I), .own A1 ((([([0] : List Int), ([2] : List Int), ([0, 2] : List Int), ([2, 1] : List Int)] : List (List Int)).getD r6'.toNat []).length) c1 3 1 ((([([0] : List Int), ([2] : List Int), ([0, 2] : List Int), ([2, 1] : List Int)] : List (List Int)).getD r6'.toNat []).map I), .blk b12' 29 [.slice A1 ((([([0] : List Int), ([2] : List Int), ([0, 2] : List Int), ([2, 1] : List Int)] : List (List Int)).getD r6'.toNat []).length) c1, Str [], Str [], I ak10', .slice Aq10' aq10'.length cq10', Str an10', I apt10'], .blk rb 78 [.slice Ab bs.length cb, I ((q3 : Nat) : Int)], .blk b1 29 [.slice A1 ((([([0] : List Int), ([2] : List Int), ([0, 2] : List Int), ([2, 1] : List Int)] : List (List Int)).getD r6'.toNat []).length) c1, Str [], Str [], I ak10', .slice Aq10' aq10'.length cq10', Str an10', I apt10']]) => ?_)
     refine nl ?_
     refine nN ?_
     refine rt ?_
     refine fret (v := .agg #[.slice A1 ((([([0] : List Int), ([2] : List Int), ([0, 2] : List Int), ([2, 1] : List Int)] : List (List Int)).getD r6'.toNat []).length) c1, Str [], Str [], I ak10', .slice Aq10' aq10'.length cq10', Str an10', I apt10']) (resC hs449 4 rfl rfl ag29 rfl .nil) rfl ?_
     exact ⟨A1, c1, Aq10', cq10', ([([0] : List Int), ([2] : List Int), ([0, 2] : List Int), ([2, 1] : List Int)] : List (List Int)).getD r6'.toNat [], [], [], ak10', aq10', an10', apt10', q3, rfl, (by have h4 := four_len r6'.toNat; omega), (by first | exact (three_login _).1 | simp), (by first | exact (three_login _).2 | simp), (by omega), (by omega), (by omega), (hs449.pick [3, 1, 0] rfl (by decide))⟩


end Go.Proofs.YtpddahloogjghaaDoor
