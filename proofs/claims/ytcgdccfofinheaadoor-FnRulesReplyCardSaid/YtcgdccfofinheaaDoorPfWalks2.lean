/-
  Part of the proofs over this seat: what each function of the program computes, function by function (the text is written by a program of this hand-in's own).
  Conditions: each theorem states its own.
-/
import Derived.Test.YtcgdccfofinheaaDoorPfWalks
namespace Go.Proofs.YtcgdccfofinheaaDoor
open Go.PF
set_option maxRecDepth 100000
set_option linter.unusedSimpArgs false
set_option linter.unusedVariables false

theorem l92Rules {rb : Nat} {Ab : Option Addr} {cb : Nat} {bs : List UInt8} {p : Nat} (w : World) (hr : w.heap[rb]? = some (.cells [.slice Ab bs.length cb, .int .i64 ((p : Nat) : Int)].toArray 74 (0, 0))) (hb : Sl w [rb] 1 Ab bs.length cb (bs.map U)) (hbn : bs.length ≤ 2000) (hp : p ≤ 274877906944) : Does Tryd.prog 43 [pB rb] w (fun v w' => ∃ Ar : Option Addr, ∃ cr : Nat, ∃ r : List (List UInt8 × Int × Bool), ∃ q : Nat, v = .slice Ar r.length cr ∧ (r.length ≤ 7) ∧ ((∀ u ∈ r, u.1.length ≤ 5)) ∧ (q ≤ p + 100) ∧ SH w w' [rb] [.blk rb 74 [.slice Ab bs.length cb, I ((q : Nat) : Int)], .own Ar r.length cr 83 3 (r.flatMap gRule)]) := by
 refine fn_enter (N := 49) Tryd.func43 rfl (by kernel_rfl) rfl rfl rfl ?_
 have hs0 : SH w w [rb] [.blk rb 74 [.slice Ab bs.length cb, I ((p : Nat) : Int)]] := SH.entry1 hr
 refine sq ?_
 refine rg ?_
 refine q trivial rfl rfl (asg (v := ns) rfl) ?_
 refine nl ?_
 refine nN ?_
 refine sq ?_
 refine rg ?_
 refine bsk hs0 sl42 [] [] trivial rfl (fun b1 w1 (hs1 : SH w w1 [rb] [.blk rb 74 [.slice Ab bs.length cb, I ((p : Nat) : Int)], .own (some ⟨b1, 0, none⟩) (([] : List (List UInt8 × Int × Bool)).length) 0 83 3 (([] : List (List UInt8 × Int × Bool)).flatMap gRule)]) => ?_)
 refine q trivial rfl rfl (asg (v := sb b1 (([] : List (List UInt8 × Int × Bool)).length) 0) rfl) ?_
 refine nl ?_
 refine nN ?_
 refine sq ?_
 refine rg ?_
 refine q trivial rfl rfl (mv (v := pB rb) rfl) ?_
 refine cl trivial rfl (pick (rb := rb) (Ab := Ab) (cb := cb) (bs := bs) (p := p) (n := 5) (w := _) (hr := (blk_heap hs1 0 rfl)) (hb := (hb.up hs1 (fun _ h => h) (fun _ h => .inl h))) (hbn := (by first | assumption | (simp; omega))) (hp := (by omega))) ?_
 rintro _ w2 ⟨r1, q1, rfl, p1, p2, hs2'⟩
 have hs2 : SH w w2 [rb] [.own (some ⟨b1, 0, none⟩) (([] : List (List UInt8 × Int × Bool)).length) 0 83 3 (([] : List (List UInt8 × Int × Bool)).flatMap gRule), .blk rb 74 [.slice Ab bs.length cb, I ((q1 : Nat) : Int)]] := hs1.callM 0 rfl hs2' (by intro k hk; simp at hk; exact hk.symm)
 clear hs2'
 refine q trivial rfl rfl (asg (v := I r1) rfl) ?_
 refine nl ?_
 refine nN ?_
 refine sq ?_
 refine sq ?_
 refine rg ?_
 refine q trivial rfl rfl (mv (v := pB rb) rfl) ?_
 refine cl trivial rfl (pick (rb := rb) (Ab := Ab) (cb := cb) (bs := bs) (p := q1) (n := 16) (w := _) (hr := (blk_heap hs2 1 rfl)) (hb := (hb.up hs2 (fun _ h => h) (fun _ h => .inl h))) (hbn := (by first | assumption | (simp; omega))) (hp := (by omega))) ?_
 rintro _ w3 ⟨r2, q2, rfl, p3, p4, hs3'⟩
 have hs3 : SH w w3 [rb] [.own (some ⟨b1, 0, none⟩) (([] : List (List UInt8 × Int × Bool)).length) 0 83 3 (([] : List (List UInt8 × Int × Bool)).flatMap gRule), .blk rb 74 [.slice Ab bs.length cb, I ((q2 : Nat) : Int)]] := hs2.callM 1 rfl hs3' (by intro k hk; simp at hk; exact hk.symm)
 clear hs3'
 refine q trivial rfl rfl (eqi (k := .i64) (a := r2) (b := 0) rfl rfl) ?_
 refine nl ?_
 refine nN ?_
 refine cdd (p := r2 = 0) rfl (fun h1 => ?_) (fun h1 => ?_)
 · refine rg ?_
   refine q trivial rfl rfl (mv (v := pB rb) rfl) ?_
   refine cl trivial rfl (pick (rb := rb) (Ab := Ab) (cb := cb) (bs := bs) (p := q2) (n := 2) (w := _) (hr := (blk_heap hs3 1 rfl)) (hb := (hb.up hs3 (fun _ h => h) (fun _ h => .inl h))) (hbn := (by first | assumption | (simp; omega))) (hp := (by omega))) ?_
   rintro _ w4 ⟨r3, q3, rfl, p5, p6, hs4'⟩
   have hs4 : SH w w4 [rb] [.own (some ⟨b1, 0, none⟩) (([] : List (List UInt8 × Int × Bool)).length) 0 83 3 (([] : List (List UInt8 × Int × Bool)).flatMap gRule), .blk rb 74 [.slice Ab bs.length cb, I ((q3 : Nat) : Int)]] := hs3.callM 1 rfl hs4' (by intro k hk; simp at hk; exact hk.symm)
   clear hs4'
   refine q trivial rfl rfl (add (a := 6) (b := r3) rfl rfl (by exact ⟨by omega, by omega⟩)) ?_
   refine q trivial rfl rfl (asg (v := I (6 + r3)) rfl) ?_
   refine nl ?_
   refine nN ?_
   refine sq ?_
   refine sq ?_
   refine rg ?_
   refine q trivial rfl rfl (asg (v := I 0) rfl) ?_
   refine nl ?_
   refine nN ?_
   refine bl ?_
   refine lp (σ := (Option Addr) × Nat × Nat × Nat × (List (List UInt8 × Int × Bool))) (fun ⟨Ag3, cg3, q0, k, zs⟩ f w' => Has f [(0, pB rb), (3, .slice Ag3 zs.length cg3), (4, I (6 + r3)), (5, I ((k : Nat) : Int))] ∧ (k ≤ 7) ∧ (zs.length = k) ∧ (∀ u ∈ zs, u.1.length ≤ 5) ∧ (q0 ≤ p + 3 + 4 * k) ∧ SH w w' [rb] [.own Ag3 zs.length cg3 83 3 (zs.flatMap gRule), .blk rb 74 [.slice Ab bs.length cb, I ((q0 : Nat) : Int)]]) (fun ⟨Ag3, cg3, q0, k, zs⟩ => 7 - k) ((some ⟨b1, 0, none⟩), 0, q3, 0, ([] : List (List UInt8 × Int × Bool))) ⟨⟨rfl, rfl, rfl, rfl, trivial⟩, (by omega), (rfl), (by simp), (by omega), hs4⟩ ?_
   rintro ⟨Ag3, cg3, q0, k, zs⟩ f w5 ⟨hf, hk, hz, he, hq, hs5⟩
   obtain ⟨g1, rfl⟩ := has_upd hf
   clear hf
   refine sq ?_
   refine sq ?_
   refine rg ?_
   refine q trivial rfl rfl (mv (v := I ((k : Nat) : Int)) rfl) ?_
   refine q trivial rfl rfl (mv (v := I (6 + r3)) rfl) ?_
   refine q trivial rfl rfl (lss (k := .i64) (a := ((k : Nat) : Int)) (b := 6 + r3) rfl rfl) ?_
   refine nl ?_
   refine nN ?_
   refine cdd (p := ((k : Nat) : Int) < (6 + r3)) rfl (fun h2 => ?_) (fun h2 => ?_)
   · refine sk ?_
     refine nN ?_
     refine sq ?_
     refine bl ?_
     refine raJ (fun w' => ∃ L, SH w w' [rb] L ∧ True) (fun f w' => ∃ b_8_2 : Nat, ∃ s_8_3 : List UInt8, ∃ q_8_3 : Nat, ∃ b_8_4 : Nat, ∃ r_8_6 : Int, ∃ q_8_6 : Nat, ∃ r_8_10 : Int, ∃ q_8_10 : Nat, ∃ b_8_13 : Nat, ∃ A_8_14 : Option Addr, ∃ c_8_14 : Nat, Has f [(0, pB rb), (3, .slice A_8_14 ((zs ++ ([((s_8_3, ([0, 80, 443] : List Int).getD r_8_6.toNat 0, (decide ((0 : Int) < r_8_10))) : List UInt8 × Int × Bool)] : List (List UInt8 × Int × Bool))).length) c_8_14), (4, I (6 + r3)), (5, I ((k : Nat) : Int))] ∧ (s_8_3 ∈ ([[], [46, 111, 114, 103], [111, 114, 103], [46, 49], [120, 46, 111, 114, 103], [110, 101, 116]] : List (List UInt8))) ∧ (q_8_3 ≤ q0 + 1) ∧ (0 ≤ r_8_6 ∧ (r_8_6 < 3 ∨ r_8_6 = 0)) ∧ (q_8_6 ≤ q_8_3 + 1) ∧ (0 ≤ r_8_10 ∧ (r_8_10 < 3 ∨ r_8_10 = 0)) ∧ (q_8_10 ≤ q_8_6 + 1) ∧ SH w w' [rb] [.own (some ⟨b_8_2, 0, none⟩) (([[], [46, 111, 114, 103], [111, 114, 103], [46, 49], [120, 46, 111, 114, 103], [110, 101, 116]] : List (List UInt8)).length) 6 9 1 (([[], [46, 111, 114, 103], [111, 114, 103], [46, 49], [120, 46, 111, 114, 103], [110, 101, 116]] : List (List UInt8)).map Str), oI b_8_4 ([0, 80, 443] : List Int) 3 3, .blk rb 74 [.slice Ab bs.length cb, I ((q_8_10 : Nat) : Int)], .own (some ⟨b_8_13, 0, none⟩) (([((s_8_3, ([0, 80, 443] : List Int).getD r_8_6.toNat 0, (decide ((0 : Int) < r_8_10))) : List UInt8 × Int × Bool)] : List (List UInt8 × Int × Bool)).length) 1 83 3 (([((s_8_3, ([0, 80, 443] : List Int).getD r_8_6.toNat 0, (decide ((0 : Int) < r_8_10))) : List UInt8 × Int × Bool)] : List (List UInt8 × Int × Bool)).flatMap gRule), .own A_8_14 ((zs ++ ([((s_8_3, ([0, 80, 443] : List Int).getD r_8_6.toNat 0, (decide ((0 : Int) < r_8_10))) : List UInt8 × Int × Bool)] : List (List UInt8 × Int × Bool))).length) c_8_14 83 3 ((zs ++ ([((s_8_3, ([0, 80, 443] : List Int).getD r_8_6.toNat 0, (decide ((0 : Int) < r_8_10))) : List UInt8 × Int × Bool)] : List (List UInt8 × Int × Bool))).flatMap gRule)]) mixed ?_ ?_
     · have hs6 := hs5.drew
       refine tk (fuel := 12) (is := [0, 1, 5, 9]) (.cons rfl (.cons rfl (.cons rfl (.cons rfl (.nil))))) (by kernel_rfl) (by kernel_rfl) ⟨_, hs6, trivial⟩ ?_
       refine .op trivial rfl rfl (fun wq _ => mv (v := .slice Ag3 zs.length cg3) rfl) ?_
       refine .op trivial rfl rfl (fun wq _ => mv (v := pB rb) rfl) ?_
       refine .op trivial rfl rfl (fun wq _ => mv (v := pB rb) rfl) ?_
       refine .op trivial rfl rfl (fun wq _ => mv (v := pB rb) rfl) ?_
       refine .nil ?_
       refine a2 (i := 2) (j := 4) (by kernel_rfl) ?_ ?_
       · refine one_ rfl ?_
         refine bsk hs6 sl77 [Str [], Str [46, 111, 114, 103], Str [111, 114, 103], Str [46, 49], Str [120, 46, 111, 114, 103], Str [110, 101, 116]] [Str [], Str [46, 111, 114, 103], Str [111, 114, 103], Str [46, 49], Str [120, 46, 111, 114, 103], Str [110, 101, 116]] trivial rfl (fun b_8_2 w6 (hs7 : SH w w6 [rb] [.own Ag3 zs.length cg3 83 3 (zs.flatMap gRule), .blk rb 74 [.slice Ab bs.length cb, I ((q0 : Nat) : Int)], .own (some ⟨b_8_2, 0, none⟩) (([[], [46, 111, 114, 103], [111, 114, 103], [46, 49], [120, 46, 111, 114, 103], [110, 101, 116]] : List (List UInt8)).length) 6 9 1 (([[], [46, 111, 114, 103], [111, 114, 103], [46, 49], [120, 46, 111, 114, 103], [110, 101, 116]] : List (List UInt8)).map Str)]) => ?_)
         refine nl (kq ⟨_, hs7, trivial⟩ ?_)
         refine a2 (i := 3) (j := 4) (by kernel_rfl) ?_ ?_
         · refine one_ rfl ?_
           refine cl trivial rfl (rdOf (rb := rb) (Ab := Ab) (cb := cb) (bs := bs) (p := q0) (Ass := (some ⟨b_8_2, 0, none⟩)) (css := 6) (ss := ([[], [46, 111, 114, 103], [111, 114, 103], [46, 49], [120, 46, 111, 114, 103], [110, 101, 116]] : List (List UInt8))) (w := _) (hr := (blk_heap hs7 1 rfl)) (hb := (hb.up hs7 (fun _ h => h) (fun _ h => .inl h))) (hbn := (by first | assumption | (simp; omega))) (hp := (by omega)) (hss := (hs7.sl 2 rfl (by intro k hk; simp at hk; subst hk; exact ⟨_, memi 1 rfl, rfl⟩))) (hne := (by first | omega | assumption | (simp; done) | (simp; omega)))) ?_
           rintro _ w7 ⟨s_8_3, q_8_3, rfl, p7, p8, hs8'⟩
           have hs8 : SH w w7 [rb] [.own Ag3 zs.length cg3 83 3 (zs.flatMap gRule), .own (some ⟨b_8_2, 0, none⟩) (([[], [46, 111, 114, 103], [111, 114, 103], [46, 49], [120, 46, 111, 114, 103], [110, 101, 116]] : List (List UInt8)).length) 6 9 1 (([[], [46, 111, 114, 103], [111, 114, 103], [46, 49], [120, 46, 111, 114, 103], [110, 101, 116]] : List (List UInt8)).map Str), .blk rb 74 [.slice Ab bs.length cb, I ((q_8_3 : Nat) : Int)]] := hs7.callM 1 rfl hs8' (by intro k hk; simp at hk; exact hk.symm)
           clear hs8'
           refine nl (kq ⟨_, hs8, trivial⟩ ?_)
           refine a2 (i := 4) (j := 6) (by kernel_rfl) ?_ ?_
           · refine one_ rfl ?_
             refine bsk hs8 sl23 [I 0, I 80, I 443] [I 0, I 80, I 443] trivial rfl (fun b_8_4 w8 (hs9 : SH w w8 [rb] [.own Ag3 zs.length cg3 83 3 (zs.flatMap gRule), .own (some ⟨b_8_2, 0, none⟩) (([[], [46, 111, 114, 103], [111, 114, 103], [46, 49], [120, 46, 111, 114, 103], [110, 101, 116]] : List (List UInt8)).length) 6 9 1 (([[], [46, 111, 114, 103], [111, 114, 103], [46, 49], [120, 46, 111, 114, 103], [110, 101, 116]] : List (List UInt8)).map Str), .blk rb 74 [.slice Ab bs.length cb, I ((q_8_3 : Nat) : Int)], oI b_8_4 ([0, 80, 443] : List Int) 3 3]) => ?_)
             refine nl (kq ⟨_, hs9, trivial⟩ ?_)
             refine a1 (i := 6) (by kernel_rfl) ?_
             refine one_ rfl ?_
             refine cl trivial rfl (pick (rb := rb) (Ab := Ab) (cb := cb) (bs := bs) (p := q_8_3) (n := 3) (w := _) (hr := (blk_heap hs9 2 rfl)) (hb := (hb.up hs9 (fun _ h => h) (fun _ h => .inl h))) (hbn := (by first | assumption | (simp; omega))) (hp := (by omega))) ?_
             rintro _ w9 ⟨r_8_6, q_8_6, rfl, p9, p10, hs10'⟩
             have hs10 : SH w w9 [rb] [.own Ag3 zs.length cg3 83 3 (zs.flatMap gRule), .own (some ⟨b_8_2, 0, none⟩) (([[], [46, 111, 114, 103], [111, 114, 103], [46, 49], [120, 46, 111, 114, 103], [110, 101, 116]] : List (List UInt8)).length) 6 9 1 (([[], [46, 111, 114, 103], [111, 114, 103], [46, 49], [120, 46, 111, 114, 103], [110, 101, 116]] : List (List UInt8)).map Str), oI b_8_4 ([0, 80, 443] : List Int) 3 3, .blk rb 74 [.slice Ab bs.length cb, I ((q_8_6 : Nat) : Int)]] := hs9.callM 2 rfl hs10' (by intro k hk; simp at hk; exact hk.symm)
             clear hs10'
             refine nl (kq ⟨_, hs10, trivial⟩ ?_)
             refine tk (fuel := 7) (is := [7]) (.cons rfl (.nil)) (by kernel_rfl) (by kernel_rfl) ⟨_, hs10, trivial⟩ ?_
             refine .op trivial rfl rfl (fun wq _ => ixo r_8_6.toNat sl23 rfl (ieq (x := r_8_6) (by omega)) (by first | omega | (simp; done) | (simp; omega))) ?_
             refine .nil ?_
             refine a2 (i := 8) (j := 10) (by kernel_rfl) ?_ ?_
             · refine one_ rfl ?_
               refine q trivial rfl rfl (ldo1n (g := I) (ys := ([0, 80, 443] : List Int)) (o := r_8_6.toNat) 0 hs10 2 rfl rfl (by first | omega | (simp; done) | (simp; omega)) one3) ?_
               refine nl (kq ⟨_, hs10, trivial⟩ ?_)
               refine a1 (i := 10) (by kernel_rfl) ?_
               refine one_ rfl ?_
               refine cl trivial rfl (pick (rb := rb) (Ab := Ab) (cb := cb) (bs := bs) (p := q_8_6) (n := 3) (w := _) (hr := (blk_heap hs10 3 rfl)) (hb := (hb.up hs10 (fun _ h => h) (fun _ h => .inl h))) (hbn := (by first | assumption | (simp; omega))) (hp := (by omega))) ?_
               rintro _ w10 ⟨r_8_10, q_8_10, rfl, p11, p12, hs11'⟩
               have hs11 : SH w w10 [rb] [.own Ag3 zs.length cg3 83 3 (zs.flatMap gRule), .own (some ⟨b_8_2, 0, none⟩) (([[], [46, 111, 114, 103], [111, 114, 103], [46, 49], [120, 46, 111, 114, 103], [110, 101, 116]] : List (List UInt8)).length) 6 9 1 (([[], [46, 111, 114, 103], [111, 114, 103], [46, 49], [120, 46, 111, 114, 103], [110, 101, 116]] : List (List UInt8)).map Str), oI b_8_4 ([0, 80, 443] : List Int) 3 3, .blk rb 74 [.slice Ab bs.length cb, I ((q_8_10 : Nat) : Int)]] := hs10.callM 3 rfl hs11' (by intro k hk; simp at hk; exact hk.symm)
               clear hs11'
               refine nl (kq ⟨_, hs11, trivial⟩ ?_)
               refine tk (fuel := 3) (is := [11, 12]) (.cons rfl (.cons rfl (.nil))) (by kernel_rfl) (by kernel_rfl) ⟨_, hs11, trivial⟩ ?_
               refine .op trivial rfl rfl (fun wq _ => gtr (k := .i64) (a := r_8_10) (b := 0) rfl rfl) ?_
               refine .op trivial rfl rfl (fun wq _ => bdv (v := .agg #[Str s_8_3, I (([0, 80, 443] : List Int).getD r_8_6.toNat 0), .bool (decide ((0 : Int) < r_8_10))]) [(0, Str s_8_3), (1, I (([0, 80, 443] : List Int).getD r_8_6.toNat 0)), (2, .bool (decide ((0 : Int) < r_8_10)))] rfl (fun _ => by kernel_rfl)) ?_
               refine .nil ?_
               refine a1 (i := 13) (by kernel_rfl) ?_
               refine one_ rfl ?_
               refine bsk hs11 sl42 [.agg #[Str s_8_3, I (([0, 80, 443] : List Int).getD r_8_6.toNat 0), .bool (decide ((0 : Int) < r_8_10))]] [Str s_8_3, I (([0, 80, 443] : List Int).getD r_8_6.toNat 0), .bool (decide ((0 : Int) < r_8_10))] trivial rfl (fun b_8_13 w11 (hs12 : SH w w11 [rb] [.own Ag3 zs.length cg3 83 3 (zs.flatMap gRule), .own (some ⟨b_8_2, 0, none⟩) (([[], [46, 111, 114, 103], [111, 114, 103], [46, 49], [120, 46, 111, 114, 103], [110, 101, 116]] : List (List UInt8)).length) 6 9 1 (([[], [46, 111, 114, 103], [111, 114, 103], [46, 49], [120, 46, 111, 114, 103], [110, 101, 116]] : List (List UInt8)).map Str), oI b_8_4 ([0, 80, 443] : List Int) 3 3, .blk rb 74 [.slice Ab bs.length cb, I ((q_8_10 : Nat) : Int)], .own (some ⟨b_8_13, 0, none⟩) (([((s_8_3, ([0, 80, 443] : List Int).getD r_8_6.toNat 0, (decide ((0 : Int) < r_8_10))) : List UInt8 × Int × Bool)] : List (List UInt8 × Int × Bool)).length) 1 83 3 (([((s_8_3, ([0, 80, 443] : List Int).getD r_8_6.toNat 0, (decide ((0 : Int) < r_8_10))) : List UInt8 × Int × Bool)] : List (List UInt8 × Int × Bool)).flatMap gRule)]) => ?_)
               refine nl (kq ⟨_, hs12, trivial⟩ ?_)
               refine a1 (i := 14) (by kernel_rfl) ?_
               refine one_ rfl ?_
               refine apf (g := gRule) (ys := zs) (zs := ([((s_8_3, ([0, 80, 443] : List Int).getD r_8_6.toNat 0, (decide ((0 : Int) < r_8_10))) : List UInt8 × Int × Bool)] : List (List UInt8 × Int × Bool))) hs12 0 rfl sl42 rfl (by decide) rfl rfl (hs12.sl0 4 rfl) (fun _ => rfl) (by unfold maxLen; first | omega | (simp; done) | (simp; omega)) (by first | omega | (simp; done) | (simp; omega)) trivial rfl (fun A_8_14 c_8_14 w12 (hs13 : SH w w12 [rb] [.own (some ⟨b_8_2, 0, none⟩) (([[], [46, 111, 114, 103], [111, 114, 103], [46, 49], [120, 46, 111, 114, 103], [110, 101, 116]] : List (List UInt8)).length) 6 9 1 (([[], [46, 111, 114, 103], [111, 114, 103], [46, 49], [120, 46, 111, 114, 103], [110, 101, 116]] : List (List UInt8)).map Str), oI b_8_4 ([0, 80, 443] : List Int) 3 3, .blk rb 74 [.slice Ab bs.length cb, I ((q_8_10 : Nat) : Int)], .own (some ⟨b_8_13, 0, none⟩) (([((s_8_3, ([0, 80, 443] : List Int).getD r_8_6.toNat 0, (decide ((0 : Int) < r_8_10))) : List UInt8 × Int × Bool)] : List (List UInt8 × Int × Bool)).length) 1 83 3 (([((s_8_3, ([0, 80, 443] : List Int).getD r_8_6.toNat 0, (decide ((0 : Int) < r_8_10))) : List UInt8 × Int × Bool)] : List (List UInt8 × Int × Bool)).flatMap gRule), .own A_8_14 ((zs ++ ([((s_8_3, ([0, 80, 443] : List Int).getD r_8_6.toNat 0, (decide ((0 : Int) < r_8_10))) : List UInt8 × Int × Bool)] : List (List UInt8 × Int × Bool))).length) c_8_14 83 3 ((zs ++ ([((s_8_3, ([0, 80, 443] : List Int).getD r_8_6.toNat 0, (decide ((0 : Int) < r_8_10))) : List UInt8 × Int × Bool)] : List (List UInt8 × Int × Bool))).flatMap gRule)]) => ?_)
               refine nl (kq ⟨_, hs13, trivial⟩ ?_)
               refine tk (fuel := 0) (is := [15]) (.cons rfl (.nil)) (by kernel_rfl) (by kernel_rfl) ⟨_, hs13, trivial⟩ ?_
               refine .op trivial rfl rfl (fun wq _ => asg (v := .slice A_8_14 ((zs ++ ([((s_8_3, ([0, 80, 443] : List Int).getD r_8_6.toNat 0, (decide ((0 : Int) < r_8_10))) : List UInt8 × Int × Bool)] : List (List UInt8 × Int × Bool))).length) c_8_14) rfl) ?_
               refine .nil ?_
               refine ad (by kernel_rfl) ?_
               exact ⟨b_8_2, s_8_3, q_8_3, b_8_4, r_8_6, q_8_6, r_8_10, q_8_10, b_8_13, A_8_14, c_8_14, ⟨rfl, rfl, rfl, rfl, trivial⟩, p7, p8, p9, p10, p11, p12, hs13⟩
             · refine one_ rfl ?_
               refine cl trivial rfl (pick (rb := rb) (Ab := Ab) (cb := cb) (bs := bs) (p := q_8_6) (n := 3) (w := _) (hr := (blk_heap hs10 3 rfl)) (hb := (hb.up hs10 (fun _ h => h) (fun _ h => .inl h))) (hbn := (by first | assumption | (simp; omega))) (hp := (by omega))) ?_
               rintro _ w13 ⟨r_8_10, q_8_10, rfl, p13, p14, hs14'⟩
               have hs14 : SH w w13 [rb] [.own Ag3 zs.length cg3 83 3 (zs.flatMap gRule), .own (some ⟨b_8_2, 0, none⟩) (([[], [46, 111, 114, 103], [111, 114, 103], [46, 49], [120, 46, 111, 114, 103], [110, 101, 116]] : List (List UInt8)).length) 6 9 1 (([[], [46, 111, 114, 103], [111, 114, 103], [46, 49], [120, 46, 111, 114, 103], [110, 101, 116]] : List (List UInt8)).map Str), oI b_8_4 ([0, 80, 443] : List Int) 3 3, .blk rb 74 [.slice Ab bs.length cb, I ((q_8_10 : Nat) : Int)]] := hs10.callM 3 rfl hs14' (by intro k hk; simp at hk; exact hk.symm)
               clear hs14'
               refine nl (kq ⟨_, hs14, trivial⟩ ?_)
               refine tk (fuel := 5) (is := [11]) (.cons rfl (.nil)) (by kernel_rfl) (by kernel_rfl) ⟨_, hs14, trivial⟩ ?_
               refine .op trivial rfl rfl (fun wq _ => gtr (k := .i64) (a := r_8_10) (b := 0) rfl rfl) ?_
               refine .nil ?_
               refine a1 (i := 8) (by kernel_rfl) ?_
               refine one_ rfl ?_
               refine q trivial rfl rfl (ldo1n (g := I) (ys := ([0, 80, 443] : List Int)) (o := r_8_6.toNat) 0 hs14 2 rfl rfl (by first | omega | (simp; done) | (simp; omega)) one3) ?_
               refine nl (kq ⟨_, hs14, trivial⟩ ?_)
               refine tk (fuel := 3) (is := [12]) (.cons rfl (.nil)) (by kernel_rfl) (by kernel_rfl) ⟨_, hs14, trivial⟩ ?_
               refine .op trivial rfl rfl (fun wq _ => bdv (v := .agg #[Str s_8_3, I (([0, 80, 443] : List Int).getD r_8_6.toNat 0), .bool (decide ((0 : Int) < r_8_10))]) [(0, Str s_8_3), (1, I (([0, 80, 443] : List Int).getD r_8_6.toNat 0)), (2, .bool (decide ((0 : Int) < r_8_10)))] rfl (fun _ => by kernel_rfl)) ?_
               refine .nil ?_
               refine a1 (i := 13) (by kernel_rfl) ?_
               refine one_ rfl ?_
               refine bsk hs14 sl42 [.agg #[Str s_8_3, I (([0, 80, 443] : List Int).getD r_8_6.toNat 0), .bool (decide ((0 : Int) < r_8_10))]] [Str s_8_3, I (([0, 80, 443] : List Int).getD r_8_6.toNat 0), .bool (decide ((0 : Int) < r_8_10))] trivial rfl (fun b_8_13 w14 (hs15 : SH w w14 [rb] [.own Ag3 zs.length cg3 83 3 (zs.flatMap gRule), .own (some ⟨b_8_2, 0, none⟩) (([[], [46, 111, 114, 103], [111, 114, 103], [46, 49], [120, 46, 111, 114, 103], [110, 101, 116]] : List (List UInt8)).length) 6 9 1 (([[], [46, 111, 114, 103], [111, 114, 103], [46, 49], [120, 46, 111, 114, 103], [110, 101, 116]] : List (List UInt8)).map Str), oI b_8_4 ([0, 80, 443] : List Int) 3 3, .blk rb 74 [.slice Ab bs.length cb, I ((q_8_10 : Nat) : Int)], .own (some ⟨b_8_13, 0, none⟩) (([((s_8_3, ([0, 80, 443] : List Int).getD r_8_6.toNat 0, (decide ((0 : Int) < r_8_10))) : List UInt8 × Int × Bool)] : List (List UInt8 × Int × Bool)).length) 1 83 3 (([((s_8_3, ([0, 80, 443] : List Int).getD r_8_6.toNat 0, (decide ((0 : Int) < r_8_10))) : List UInt8 × Int × Bool)] : List (List UInt8 × Int × Bool)).flatMap gRule)]) => ?_)
               refine nl (kq ⟨_, hs15, trivial⟩ ?_)
               refine a1 (i := 14) (by kernel_rfl) ?_
               refine one_ rfl ?_
               refine apf (g := gRule) (ys := zs) (zs := ([((s_8_3, ([0, 80, 443] : List Int).getD r_8_6.toNat 0, (decide ((0 : Int) < r_8_10))) : List UInt8 × Int × Bool)] : List (List UInt8 × Int × Bool))) hs15 0 rfl sl42 rfl (by decide) rfl rfl (hs15.sl0 4 rfl) (fun _ => rfl) (by unfold maxLen; first | omega | (simp; done) | (simp; omega)) (by first | omega | (simp; done) | (simp; omega)) trivial rfl (fun A_8_14 c_8_14 w15 (hs16 : SH w w15 [rb] [.own (some ⟨b_8_2, 0, none⟩) (([[], [46, 111, 114, 103], [111, 114, 103], [46, 49], [120, 46, 111, 114, 103], [110, 101, 116]] : List (List UInt8)).length) 6 9 1 (([[], [46, 111, 114, 103], [111, 114, 103], [46, 49], [120, 46, 111, 114, 103], [110, 101, 116]] : List (List UInt8)).map Str), oI b_8_4 ([0, 80, 443] : List Int) 3 3, .blk rb 74 [.slice Ab bs.length cb, I ((q_8_10 : Nat) : Int)], .own (some ⟨b_8_13, 0, none⟩) (([((s_8_3, ([0, 80, 443] : List Int).getD r_8_6.toNat 0, (decide ((0 : Int) < r_8_10))) : List UInt8 × Int × Bool)] : List (List UInt8 × Int × Bool)).length) 1 83 3 (([((s_8_3, ([0, 80, 443] : List Int).getD r_8_6.toNat 0, (decide ((0 : Int) < r_8_10))) : List UInt8 × Int × Bool)] : List (List UInt8 × Int × Bool)).flatMap gRule), .own A_8_14 ((zs ++ ([((s_8_3, ([0, 80, 443] : List Int).getD r_8_6.toNat 0, (decide ((0 : Int) < r_8_10))) : List UInt8 × Int × Bool)] : List (List UInt8 × Int × Bool))).length) c_8_14 83 3 ((zs ++ ([((s_8_3, ([0, 80, 443] : List Int).getD r_8_6.toNat 0, (decide ((0 : Int) < r_8_10))) : List UInt8 × Int × Bool)] : List (List UInt8 × Int × Bool))).flatMap gRule)]) => ?_)
               refine nl (kq ⟨_, hs16, trivial⟩ ?_)
               refine tk (fuel := 0) (is := [15]) (.cons rfl (.nil)) (by kernel_rfl) (by kernel_rfl) ⟨_, hs16, trivial⟩ ?_
               refine .op trivial rfl rfl (fun wq _ => asg (v := .slice A_8_14 ((zs ++ ([((s_8_3, ([0, 80, 443] : List Int).getD r_8_6.toNat 0, (decide ((0 : Int) < r_8_10))) : List UInt8 × Int × Bool)] : List (List UInt8 × Int × Bool))).length) c_8_14) rfl) ?_
               refine .nil ?_
               refine ad (by kernel_rfl) ?_
               exact ⟨b_8_2, s_8_3, q_8_3, b_8_4, r_8_6, q_8_6, r_8_10, q_8_10, b_8_13, A_8_14, c_8_14, ⟨rfl, rfl, rfl, rfl, trivial⟩, p7, p8, p9, p10, p13, p14, hs16⟩
           · refine one_ rfl ?_
             refine cl trivial rfl (pick (rb := rb) (Ab := Ab) (cb := cb) (bs := bs) (p := q_8_3) (n := 3) (w := _) (hr := (blk_heap hs8 2 rfl)) (hb := (hb.up hs8 (fun _ h => h) (fun _ h => .inl h))) (hbn := (by first | assumption | (simp; omega))) (hp := (by omega))) ?_
             rintro _ w16 ⟨r_8_6, q_8_6, rfl, p15, p16, hs17'⟩
             have hs17 : SH w w16 [rb] [.own Ag3 zs.length cg3 83 3 (zs.flatMap gRule), .own (some ⟨b_8_2, 0, none⟩) (([[], [46, 111, 114, 103], [111, 114, 103], [46, 49], [120, 46, 111, 114, 103], [110, 101, 116]] : List (List UInt8)).length) 6 9 1 (([[], [46, 111, 114, 103], [111, 114, 103], [46, 49], [120, 46, 111, 114, 103], [110, 101, 116]] : List (List UInt8)).map Str), .blk rb 74 [.slice Ab bs.length cb, I ((q_8_6 : Nat) : Int)]] := hs8.callM 2 rfl hs17' (by intro k hk; simp at hk; exact hk.symm)
             clear hs17'
             refine nl (kq ⟨_, hs17, trivial⟩ ?_)
             refine a2 (i := 4) (j := 10) (by kernel_rfl) ?_ ?_
             · refine one_ rfl ?_
               refine bsk hs17 sl23 [I 0, I 80, I 443] [I 0, I 80, I 443] trivial rfl (fun b_8_4 w17 (hs18 : SH w w17 [rb] [.own Ag3 zs.length cg3 83 3 (zs.flatMap gRule), .own (some ⟨b_8_2, 0, none⟩) (([[], [46, 111, 114, 103], [111, 114, 103], [46, 49], [120, 46, 111, 114, 103], [110, 101, 116]] : List (List UInt8)).length) 6 9 1 (([[], [46, 111, 114, 103], [111, 114, 103], [46, 49], [120, 46, 111, 114, 103], [110, 101, 116]] : List (List UInt8)).map Str), .blk rb 74 [.slice Ab bs.length cb, I ((q_8_6 : Nat) : Int)], oI b_8_4 ([0, 80, 443] : List Int) 3 3]) => ?_)
               refine nl (kq ⟨_, hs18, trivial⟩ ?_)
               refine tk (fuel := 7) (is := [7]) (.cons rfl (.nil)) (by kernel_rfl) (by kernel_rfl) ⟨_, hs18, trivial⟩ ?_
               refine .op trivial rfl rfl (fun wq _ => ixo r_8_6.toNat sl23 rfl (ieq (x := r_8_6) (by omega)) (by first | omega | (simp; done) | (simp; omega))) ?_
               refine .nil ?_
               refine a2 (i := 8) (j := 10) (by kernel_rfl) ?_ ?_
               · refine one_ rfl ?_
                 refine q trivial rfl rfl (ldo1n (g := I) (ys := ([0, 80, 443] : List Int)) (o := r_8_6.toNat) 0 hs18 3 rfl rfl (by first | omega | (simp; done) | (simp; omega)) one3) ?_
                 refine nl (kq ⟨_, hs18, trivial⟩ ?_)
                 refine a1 (i := 10) (by kernel_rfl) ?_
                 refine one_ rfl ?_
                 refine cl trivial rfl (pick (rb := rb) (Ab := Ab) (cb := cb) (bs := bs) (p := q_8_6) (n := 3) (w := _) (hr := (blk_heap hs18 2 rfl)) (hb := (hb.up hs18 (fun _ h => h) (fun _ h => .inl h))) (hbn := (by first | assumption | (simp; omega))) (hp := (by omega))) ?_
                 rintro _ w18 ⟨r_8_10, q_8_10, rfl, p17, p18, hs19'⟩
                 have hs19 : SH w w18 [rb] [.own Ag3 zs.length cg3 83 3 (zs.flatMap gRule), .own (some ⟨b_8_2, 0, none⟩) (([[], [46, 111, 114, 103], [111, 114, 103], [46, 49], [120, 46, 111, 114, 103], [110, 101, 116]] : List (List UInt8)).length) 6 9 1 (([[], [46, 111, 114, 103], [111, 114, 103], [46, 49], [120, 46, 111, 114, 103], [110, 101, 116]] : List (List UInt8)).map Str), oI b_8_4 ([0, 80, 443] : List Int) 3 3, .blk rb 74 [.slice Ab bs.length cb, I ((q_8_10 : Nat) : Int)]] := hs18.callM 2 rfl hs19' (by intro k hk; simp at hk; exact hk.symm)
                 clear hs19'
                 refine nl (kq ⟨_, hs19, trivial⟩ ?_)
                 refine tk (fuel := 3) (is := [11, 12]) (.cons rfl (.cons rfl (.nil))) (by kernel_rfl) (by kernel_rfl) ⟨_, hs19, trivial⟩ ?_
                 refine .op trivial rfl rfl (fun wq _ => gtr (k := .i64) (a := r_8_10) (b := 0) rfl rfl) ?_
                 refine .op trivial rfl rfl (fun wq _ => bdv (v := .agg #[Str s_8_3, I (([0, 80, 443] : List Int).getD r_8_6.toNat 0), .bool (decide ((0 : Int) < r_8_10))]) [(0, Str s_8_3), (1, I (([0, 80, 443] : List Int).getD r_8_6.toNat 0)), (2, .bool (decide ((0 : Int) < r_8_10)))] rfl (fun _ => by kernel_rfl)) ?_
                 refine .nil ?_
                 refine a1 (i := 13) (by kernel_rfl) ?_
                 refine one_ rfl ?_
                 refine bsk hs19 sl42 [.agg #[Str s_8_3, I (([0, 80, 443] : List Int).getD r_8_6.toNat 0), .bool (decide ((0 : Int) < r_8_10))]] [Str s_8_3, I (([0, 80, 443] : List Int).getD r_8_6.toNat 0), .bool (decide ((0 : Int) < r_8_10))] trivial rfl (fun b_8_13 w19 (hs20 : SH w w19 [rb] [.own Ag3 zs.length cg3 83 3 (zs.flatMap gRule), .own (some ⟨b_8_2, 0, none⟩) (([[], [46, 111, 114, 103], [111, 114, 103], [46, 49], [120, 46, 111, 114, 103], [110, 101, 116]] : List (List UInt8)).length) 6 9 1 (([[], [46, 111, 114, 103], [111, 114, 103], [46, 49], [120, 46, 111, 114, 103], [110, 101, 116]] : List (List UInt8)).map Str), oI b_8_4 ([0, 80, 443] : List Int) 3 3, .blk rb 74 [.slice Ab bs.length cb, I ((q_8_10 : Nat) : Int)], .own (some ⟨b_8_13, 0, none⟩) (([((s_8_3, ([0, 80, 443] : List Int).getD r_8_6.toNat 0, (decide ((0 : Int) < r_8_10))) : List UInt8 × Int × Bool)] : List (List UInt8 × Int × Bool)).length) 1 83 3 (([((s_8_3, ([0, 80, 443] : List Int).getD r_8_6.toNat 0, (decide ((0 : Int) < r_8_10))) : List UInt8 × Int × Bool)] : List (List UInt8 × Int × Bool)).flatMap gRule)]) => ?_)
                 refine nl (kq ⟨_, hs20, trivial⟩ ?_)
                 refine a1 (i := 14) (by kernel_rfl) ?_
                 refine one_ rfl ?_
                 refine apf (g := gRule) (ys := zs) (zs := ([((s_8_3, ([0, 80, 443] : List Int).getD r_8_6.toNat 0, (decide ((0 : Int) < r_8_10))) : List UInt8 × Int × Bool)] : List (List UInt8 × Int × Bool))) hs20 0 rfl sl42 rfl (by decide) rfl rfl (hs20.sl0 4 rfl) (fun _ => rfl) (by unfold maxLen; first | omega | (simp; done) | (simp; omega)) (by first | omega | (simp; done) | (simp; omega)) trivial rfl (fun A_8_14 c_8_14 w20 (hs21 : SH w w20 [rb] [.own (some ⟨b_8_2, 0, none⟩) (([[], [46, 111, 114, 103], [111, 114, 103], [46, 49], [120, 46, 111, 114, 103], [110, 101, 116]] : List (List UInt8)).length) 6 9 1 (([[], [46, 111, 114, 103], [111, 114, 103], [46, 49], [120, 46, 111, 114, 103], [110, 101, 116]] : List (List UInt8)).map Str), oI b_8_4 ([0, 80, 443] : List Int) 3 3, .blk rb 74 [.slice Ab bs.length cb, I ((q_8_10 : Nat) : Int)], .own (some ⟨b_8_13, 0, none⟩) (([((s_8_3, ([0, 80, 443] : List Int).getD r_8_6.toNat 0, (decide ((0 : Int) < r_8_10))) : List UInt8 × Int × Bool)] : List (List UInt8 × Int × Bool)).length) 1 83 3 (([((s_8_3, ([0, 80, 443] : List Int).getD r_8_6.toNat 0, (decide ((0 : Int) < r_8_10))) : List UInt8 × Int × Bool)] : List (List UInt8 × Int × Bool)).flatMap gRule), .own A_8_14 ((zs ++ ([((s_8_3, ([0, 80, 443] : List Int).getD r_8_6.toNat 0, (decide ((0 : Int) < r_8_10))) : List UInt8 × Int × Bool)] : List (List UInt8 × Int × Bool))).length) c_8_14 83 3 ((zs ++ ([((s_8_3, ([0, 80, 443] : List Int).getD r_8_6.toNat 0, (decide ((0 : Int) < r_8_10))) : List UInt8 × Int × Bool)] : List (List UInt8 × Int × Bool))).flatMap gRule)]) => ?_)
                 refine nl (kq ⟨_, hs21, trivial⟩ ?_)
                 refine tk (fuel := 0) (is := [15]) (.cons rfl (.nil)) (by kernel_rfl) (by kernel_rfl) ⟨_, hs21, trivial⟩ ?_
                 refine .op trivial rfl rfl (fun wq _ => asg (v := .slice A_8_14 ((zs ++ ([((s_8_3, ([0, 80, 443] : List Int).getD r_8_6.toNat 0, (decide ((0 : Int) < r_8_10))) : List UInt8 × Int × Bool)] : List (List UInt8 × Int × Bool))).length) c_8_14) rfl) ?_
                 refine .nil ?_
                 refine ad (by kernel_rfl) ?_
                 exact ⟨b_8_2, s_8_3, q_8_3, b_8_4, r_8_6, q_8_6, r_8_10, q_8_10, b_8_13, A_8_14, c_8_14, ⟨rfl, rfl, rfl, rfl, trivial⟩, p7, p8, p15, p16, p17, p18, hs21⟩
               · refine one_ rfl ?_
                 refine cl trivial rfl (pick (rb := rb) (Ab := Ab) (cb := cb) (bs := bs) (p := q_8_6) (n := 3) (w := _) (hr := (blk_heap hs18 2 rfl)) (hb := (hb.up hs18 (fun _ h => h) (fun _ h => .inl h))) (hbn := (by first | assumption | (simp; omega))) (hp := (by omega))) ?_
                 rintro _ w21 ⟨r_8_10, q_8_10, rfl, p19, p20, hs22'⟩
                 have hs22 : SH w w21 [rb] [.own Ag3 zs.length cg3 83 3 (zs.flatMap gRule), .own (some ⟨b_8_2, 0, none⟩) (([[], [46, 111, 114, 103], [111, 114, 103], [46, 49], [120, 46, 111, 114, 103], [110, 101, 116]] : List (List UInt8)).length) 6 9 1 (([[], [46, 111, 114, 103], [111, 114, 103], [46, 49], [120, 46, 111, 114, 103], [110, 101, 116]] : List (List UInt8)).map Str), oI b_8_4 ([0, 80, 443] : List Int) 3 3, .blk rb 74 [.slice Ab bs.length cb, I ((q_8_10 : Nat) : Int)]] := hs18.callM 2 rfl hs22' (by intro k hk; simp at hk; exact hk.symm)
                 clear hs22'
                 refine nl (kq ⟨_, hs22, trivial⟩ ?_)
                 refine tk (fuel := 5) (is := [11]) (.cons rfl (.nil)) (by kernel_rfl) (by kernel_rfl) ⟨_, hs22, trivial⟩ ?_
                 refine .op trivial rfl rfl (fun wq _ => gtr (k := .i64) (a := r_8_10) (b := 0) rfl rfl) ?_
                 refine .nil ?_
                 refine a1 (i := 8) (by kernel_rfl) ?_
                 refine one_ rfl ?_
                 refine q trivial rfl rfl (ldo1n (g := I) (ys := ([0, 80, 443] : List Int)) (o := r_8_6.toNat) 0 hs22 2 rfl rfl (by first | omega | (simp; done) | (simp; omega)) one3) ?_
                 refine nl (kq ⟨_, hs22, trivial⟩ ?_)
                 refine tk (fuel := 3) (is := [12]) (.cons rfl (.nil)) (by kernel_rfl) (by kernel_rfl) ⟨_, hs22, trivial⟩ ?_
                 refine .op trivial rfl rfl (fun wq _ => bdv (v := .agg #[Str s_8_3, I (([0, 80, 443] : List Int).getD r_8_6.toNat 0), .bool (decide ((0 : Int) < r_8_10))]) [(0, Str s_8_3), (1, I (([0, 80, 443] : List Int).getD r_8_6.toNat 0)), (2, .bool (decide ((0 : Int) < r_8_10)))] rfl (fun _ => by kernel_rfl)) ?_
                 refine .nil ?_
                 refine a1 (i := 13) (by kernel_rfl) ?_
                 refine one_ rfl ?_
                 refine bsk hs22 sl42 [.agg #[Str s_8_3, I (([0, 80, 443] : List Int).getD r_8_6.toNat 0), .bool (decide ((0 : Int) < r_8_10))]] [Str s_8_3, I (([0, 80, 443] : List Int).getD r_8_6.toNat 0), .bool (decide ((0 : Int) < r_8_10))] trivial rfl (fun b_8_13 w22 (hs23 : SH w w22 [rb] [.own Ag3 zs.length cg3 83 3 (zs.flatMap gRule), .own (some ⟨b_8_2, 0, none⟩) (([[], [46, 111, 114, 103], [111, 114, 103], [46, 49], [120, 46, 111, 114, 103], [110, 101, 116]] : List (List UInt8)).length) 6 9 1 (([[], [46, 111, 114, 103], [111, 114, 103], [46, 49], [120, 46, 111, 114, 103], [110, 101, 116]] : List (List UInt8)).map Str), oI b_8_4 ([0, 80, 443] : List Int) 3 3, .blk rb 74 [.slice Ab bs.length cb, I ((q_8_10 : Nat) : Int)], .own (some ⟨b_8_13, 0, none⟩) (([((s_8_3, ([0, 80, 443] : List Int).getD r_8_6.toNat 0, (decide ((0 : Int) < r_8_10))) : List UInt8 × Int × Bool)] : List (List UInt8 × Int × Bool)).length) 1 83 3 (([((s_8_3, ([0, 80, 443] : List Int).getD r_8_6.toNat 0, (decide ((0 : Int) < r_8_10))) : List UInt8 × Int × Bool)] : List (List UInt8 × Int × Bool)).flatMap gRule)]) => ?_)
                 refine nl (kq ⟨_, hs23, trivial⟩ ?_)
                 refine a1 (i := 14) (by kernel_rfl) ?_
                 refine one_ rfl ?_
                 refine apf (g := gRule) (ys := zs) (zs := ([((s_8_3, ([0, 80, 443] : List Int).getD r_8_6.toNat 0, (decide ((0 : Int) < r_8_10))) : List UInt8 × Int × Bool)] : List (List UInt8 × Int × Bool))) hs23 0 rfl sl42 rfl (by decide) rfl rfl (hs23.sl0 4 rfl) (fun _ => rfl) (by unfold maxLen; first | omega | (simp; done) | (simp; omega)) (by first | omega | (simp; done) | (simp; omega)) trivial rfl (fun A_8_14 c_8_14 w23 (hs24 : SH w w23 [rb] [.own (some ⟨b_8_2, 0, none⟩) (([[], [46, 111, 114, 103], [111, 114, 103], [46, 49], [120, 46, 111, 114, 103], [110, 101, 116]] : List (List UInt8)).length) 6 9 1 (([[], [46, 111, 114, 103], [111, 114, 103], [46, 49], [120, 46, 111, 114, 103], [110, 101, 116]] : List (List UInt8)).map Str), oI b_8_4 ([0, 80, 443] : List Int) 3 3, .blk rb 74 [.slice Ab bs.length cb, I ((q_8_10 : Nat) : Int)], .own (some ⟨b_8_13, 0, none⟩) (([((s_8_3, ([0, 80, 443] : List Int).getD r_8_6.toNat 0, (decide ((0 : Int) < r_8_10))) : List UInt8 × Int × Bool)] : List (List UInt8 × Int × Bool)).length) 1 83 3 (([((s_8_3, ([0, 80, 443] : List Int).getD r_8_6.toNat 0, (decide ((0 : Int) < r_8_10))) : List UInt8 × Int × Bool)] : List (List UInt8 × Int × Bool)).flatMap gRule), .own A_8_14 ((zs ++ ([((s_8_3, ([0, 80, 443] : List Int).getD r_8_6.toNat 0, (decide ((0 : Int) < r_8_10))) : List UInt8 × Int × Bool)] : List (List UInt8 × Int × Bool))).length) c_8_14 83 3 ((zs ++ ([((s_8_3, ([0, 80, 443] : List Int).getD r_8_6.toNat 0, (decide ((0 : Int) < r_8_10))) : List UInt8 × Int × Bool)] : List (List UInt8 × Int × Bool))).flatMap gRule)]) => ?_)
                 refine nl (kq ⟨_, hs24, trivial⟩ ?_)
                 refine tk (fuel := 0) (is := [15]) (.cons rfl (.nil)) (by kernel_rfl) (by kernel_rfl) ⟨_, hs24, trivial⟩ ?_
                 refine .op trivial rfl rfl (fun wq _ => asg (v := .slice A_8_14 ((zs ++ ([((s_8_3, ([0, 80, 443] : List Int).getD r_8_6.toNat 0, (decide ((0 : Int) < r_8_10))) : List UInt8 × Int × Bool)] : List (List UInt8 × Int × Bool))).length) c_8_14) rfl) ?_
                 refine .nil ?_
                 refine ad (by kernel_rfl) ?_
                 exact ⟨b_8_2, s_8_3, q_8_3, b_8_4, r_8_6, q_8_6, r_8_10, q_8_10, b_8_13, A_8_14, c_8_14, ⟨rfl, rfl, rfl, rfl, trivial⟩, p7, p8, p15, p16, p19, p20, hs24⟩
             · refine one_ rfl ?_
               refine cl trivial rfl (pick (rb := rb) (Ab := Ab) (cb := cb) (bs := bs) (p := q_8_6) (n := 3) (w := _) (hr := (blk_heap hs17 2 rfl)) (hb := (hb.up hs17 (fun _ h => h) (fun _ h => .inl h))) (hbn := (by first | assumption | (simp; omega))) (hp := (by omega))) ?_
               rintro _ w24 ⟨r_8_10, q_8_10, rfl, p21, p22, hs25'⟩
               have hs25 : SH w w24 [rb] [.own Ag3 zs.length cg3 83 3 (zs.flatMap gRule), .own (some ⟨b_8_2, 0, none⟩) (([[], [46, 111, 114, 103], [111, 114, 103], [46, 49], [120, 46, 111, 114, 103], [110, 101, 116]] : List (List UInt8)).length) 6 9 1 (([[], [46, 111, 114, 103], [111, 114, 103], [46, 49], [120, 46, 111, 114, 103], [110, 101, 116]] : List (List UInt8)).map Str), .blk rb 74 [.slice Ab bs.length cb, I ((q_8_10 : Nat) : Int)]] := hs17.callM 2 rfl hs25' (by intro k hk; simp at hk; exact hk.symm)
               clear hs25'
               refine nl (kq ⟨_, hs25, trivial⟩ ?_)
               refine tk (fuel := 7) (is := [11]) (.cons rfl (.nil)) (by kernel_rfl) (by kernel_rfl) ⟨_, hs25, trivial⟩ ?_
               refine .op trivial rfl rfl (fun wq _ => gtr (k := .i64) (a := r_8_10) (b := 0) rfl rfl) ?_
               refine .nil ?_
               refine a1 (i := 4) (by kernel_rfl) ?_
               refine one_ rfl ?_
               refine bsk hs25 sl23 [I 0, I 80, I 443] [I 0, I 80, I 443] trivial rfl (fun b_8_4 w25 (hs26 : SH w w25 [rb] [.own Ag3 zs.length cg3 83 3 (zs.flatMap gRule), .own (some ⟨b_8_2, 0, none⟩) (([[], [46, 111, 114, 103], [111, 114, 103], [46, 49], [120, 46, 111, 114, 103], [110, 101, 116]] : List (List UInt8)).length) 6 9 1 (([[], [46, 111, 114, 103], [111, 114, 103], [46, 49], [120, 46, 111, 114, 103], [110, 101, 116]] : List (List UInt8)).map Str), .blk rb 74 [.slice Ab bs.length cb, I ((q_8_10 : Nat) : Int)], oI b_8_4 ([0, 80, 443] : List Int) 3 3]) => ?_)
               refine nl (kq ⟨_, hs26, trivial⟩ ?_)
               refine tk (fuel := 5) (is := [7]) (.cons rfl (.nil)) (by kernel_rfl) (by kernel_rfl) ⟨_, hs26, trivial⟩ ?_
               refine .op trivial rfl rfl (fun wq _ => ixo r_8_6.toNat sl23 rfl (ieq (x := r_8_6) (by omega)) (by first | omega | (simp; done) | (simp; omega))) ?_
               refine .nil ?_
               refine a1 (i := 8) (by kernel_rfl) ?_
               refine one_ rfl ?_
               refine q trivial rfl rfl (ldo1n (g := I) (ys := ([0, 80, 443] : List Int)) (o := r_8_6.toNat) 0 hs26 3 rfl rfl (by first | omega | (simp; done) | (simp; omega)) one3) ?_
               refine nl (kq ⟨_, hs26, trivial⟩ ?_)
               refine tk (fuel := 3) (is := [12]) (.cons rfl (.nil)) (by kernel_rfl) (by kernel_rfl) ⟨_, hs26, trivial⟩ ?_
               refine .op trivial rfl rfl (fun wq _ => bdv (v := .agg #[Str s_8_3, I (([0, 80, 443] : List Int).getD r_8_6.toNat 0), .bool (decide ((0 : Int) < r_8_10))]) [(0, Str s_8_3), (1, I (([0, 80, 443] : List Int).getD r_8_6.toNat 0)), (2, .bool (decide ((0 : Int) < r_8_10)))] rfl (fun _ => by kernel_rfl)) ?_
               refine .nil ?_
               refine a1 (i := 13) (by kernel_rfl) ?_
               refine one_ rfl ?_
               refine bsk hs26 sl42 [.agg #[Str s_8_3, I (([0, 80, 443] : List Int).getD r_8_6.toNat 0), .bool (decide ((0 : Int) < r_8_10))]] [Str s_8_3, I (([0, 80, 443] : List Int).getD r_8_6.toNat 0), .bool (decide ((0 : Int) < r_8_10))] trivial rfl (fun b_8_13 w26 (hs27 : SH w w26 [rb] [.own Ag3 zs.length cg3 83 3 (zs.flatMap gRule), .own (some ⟨b_8_2, 0, none⟩) (([[], [46, 111, 114, 103], [111, 114, 103], [46, 49], [120, 46, 111, 114, 103], [110, 101, 116]] : List (List UInt8)).length) 6 9 1 (([[], [46, 111, 114, 103], [111, 114, 103], [46, 49], [120, 46, 111, 114, 103], [110, 101, 116]] : List (List UInt8)).map Str), .blk rb 74 [.slice Ab bs.length cb, I ((q_8_10 : Nat) : Int)], oI b_8_4 ([0, 80, 443] : List Int) 3 3, .own (some ⟨b_8_13, 0, none⟩) (([((s_8_3, ([0, 80, 443] : List Int).getD r_8_6.toNat 0, (decide ((0 : Int) < r_8_10))) : List UInt8 × Int × Bool)] : List (List UInt8 × Int × Bool)).length) 1 83 3 (([((s_8_3, ([0, 80, 443] : List Int).getD r_8_6.toNat 0, (decide ((0 : Int) < r_8_10))) : List UInt8 × Int × Bool)] : List (List UInt8 × Int × Bool)).flatMap gRule)]) => ?_)
               refine nl (kq ⟨_, hs27, trivial⟩ ?_)
               refine a1 (i := 14) (by kernel_rfl) ?_
               refine one_ rfl ?_
               refine apf (g := gRule) (ys := zs) (zs := ([((s_8_3, ([0, 80, 443] : List Int).getD r_8_6.toNat 0, (decide ((0 : Int) < r_8_10))) : List UInt8 × Int × Bool)] : List (List UInt8 × Int × Bool))) hs27 0 rfl sl42 rfl (by decide) rfl rfl (hs27.sl0 4 rfl) (fun _ => rfl) (by unfold maxLen; first | omega | (simp; done) | (simp; omega)) (by first | omega | (simp; done) | (simp; omega)) trivial rfl (fun A_8_14 c_8_14 w27 (hs28 : SH w w27 [rb] [.own (some ⟨b_8_2, 0, none⟩) (([[], [46, 111, 114, 103], [111, 114, 103], [46, 49], [120, 46, 111, 114, 103], [110, 101, 116]] : List (List UInt8)).length) 6 9 1 (([[], [46, 111, 114, 103], [111, 114, 103], [46, 49], [120, 46, 111, 114, 103], [110, 101, 116]] : List (List UInt8)).map Str), .blk rb 74 [.slice Ab bs.length cb, I ((q_8_10 : Nat) : Int)], oI b_8_4 ([0, 80, 443] : List Int) 3 3, .own (some ⟨b_8_13, 0, none⟩) (([((s_8_3, ([0, 80, 443] : List Int).getD r_8_6.toNat 0, (decide ((0 : Int) < r_8_10))) : List UInt8 × Int × Bool)] : List (List UInt8 × Int × Bool)).length) 1 83 3 (([((s_8_3, ([0, 80, 443] : List Int).getD r_8_6.toNat 0, (decide ((0 : Int) < r_8_10))) : List UInt8 × Int × Bool)] : List (List UInt8 × Int × Bool)).flatMap gRule), .own A_8_14 ((zs ++ ([((s_8_3, ([0, 80, 443] : List Int).getD r_8_6.toNat 0, (decide ((0 : Int) < r_8_10))) : List UInt8 × Int × Bool)] : List (List UInt8 × Int × Bool))).length) c_8_14 83 3 ((zs ++ ([((s_8_3, ([0, 80, 443] : List Int).getD r_8_6.toNat 0, (decide ((0 : Int) < r_8_10))) : List UInt8 × Int × Bool)] : List (List UInt8 × Int × Bool))).flatMap gRule)]) => ?_)
               refine nl (kq ⟨_, hs28, trivial⟩ ?_)
               refine tk (fuel := 0) (is := [15]) (.cons rfl (.nil)) (by kernel_rfl) (by kernel_rfl) ⟨_, hs28, trivial⟩ ?_
               refine .op trivial rfl rfl (fun wq _ => asg (v := .slice A_8_14 ((zs ++ ([((s_8_3, ([0, 80, 443] : List Int).getD r_8_6.toNat 0, (decide ((0 : Int) < r_8_10))) : List UInt8 × Int × Bool)] : List (List UInt8 × Int × Bool))).length) c_8_14) rfl) ?_
               refine .nil ?_
               refine ad (by kernel_rfl) ?_
               exact ⟨b_8_2, s_8_3, q_8_3, b_8_4, r_8_6, q_8_6, r_8_10, q_8_10, b_8_13, A_8_14, c_8_14, ⟨rfl, rfl, rfl, rfl, trivial⟩, p7, p8, p15, p16, p21, p22, (hs28.pick [0, 2, 1, 3, 4] rfl (by decide))⟩
         · refine one_ rfl ?_
           refine bsk hs7 sl23 [I 0, I 80, I 443] [I 0, I 80, I 443] trivial rfl (fun b_8_4 w28 (hs29 : SH w w28 [rb] [.own Ag3 zs.length cg3 83 3 (zs.flatMap gRule), .blk rb 74 [.slice Ab bs.length cb, I ((q0 : Nat) : Int)], .own (some ⟨b_8_2, 0, none⟩) (([[], [46, 111, 114, 103], [111, 114, 103], [46, 49], [120, 46, 111, 114, 103], [110, 101, 116]] : List (List UInt8)).length) 6 9 1 (([[], [46, 111, 114, 103], [111, 114, 103], [46, 49], [120, 46, 111, 114, 103], [110, 101, 116]] : List (List UInt8)).map Str), oI b_8_4 ([0, 80, 443] : List Int) 3 3]) => ?_)
           refine nl (kq ⟨_, hs29, trivial⟩ ?_)
           refine a1 (i := 3) (by kernel_rfl) ?_
           refine one_ rfl ?_
           refine cl trivial rfl (rdOf (rb := rb) (Ab := Ab) (cb := cb) (bs := bs) (p := q0) (Ass := (some ⟨b_8_2, 0, none⟩)) (css := 6) (ss := ([[], [46, 111, 114, 103], [111, 114, 103], [46, 49], [120, 46, 111, 114, 103], [110, 101, 116]] : List (List UInt8))) (w := _) (hr := (blk_heap hs29 1 rfl)) (hb := (hb.up hs29 (fun _ h => h) (fun _ h => .inl h))) (hbn := (by first | assumption | (simp; omega))) (hp := (by omega)) (hss := (hs29.sl 2 rfl (by intro k hk; simp at hk; subst hk; exact ⟨_, memi 1 rfl, rfl⟩))) (hne := (by first | omega | assumption | (simp; done) | (simp; omega)))) ?_
           rintro _ w29 ⟨s_8_3, q_8_3, rfl, p23, p24, hs30'⟩
           have hs30 : SH w w29 [rb] [.own Ag3 zs.length cg3 83 3 (zs.flatMap gRule), .own (some ⟨b_8_2, 0, none⟩) (([[], [46, 111, 114, 103], [111, 114, 103], [46, 49], [120, 46, 111, 114, 103], [110, 101, 116]] : List (List UInt8)).length) 6 9 1 (([[], [46, 111, 114, 103], [111, 114, 103], [46, 49], [120, 46, 111, 114, 103], [110, 101, 116]] : List (List UInt8)).map Str), oI b_8_4 ([0, 80, 443] : List Int) 3 3, .blk rb 74 [.slice Ab bs.length cb, I ((q_8_3 : Nat) : Int)]] := hs29.callM 1 rfl hs30' (by intro k hk; simp at hk; exact hk.symm)
           clear hs30'
           refine nl (kq ⟨_, hs30, trivial⟩ ?_)
           refine a1 (i := 6) (by kernel_rfl) ?_
           refine one_ rfl ?_
           refine cl trivial rfl (pick (rb := rb) (Ab := Ab) (cb := cb) (bs := bs) (p := q_8_3) (n := 3) (w := _) (hr := (blk_heap hs30 3 rfl)) (hb := (hb.up hs30 (fun _ h => h) (fun _ h => .inl h))) (hbn := (by first | assumption | (simp; omega))) (hp := (by omega))) ?_
           rintro _ w30 ⟨r_8_6, q_8_6, rfl, p25, p26, hs31'⟩
           have hs31 : SH w w30 [rb] [.own Ag3 zs.length cg3 83 3 (zs.flatMap gRule), .own (some ⟨b_8_2, 0, none⟩) (([[], [46, 111, 114, 103], [111, 114, 103], [46, 49], [120, 46, 111, 114, 103], [110, 101, 116]] : List (List UInt8)).length) 6 9 1 (([[], [46, 111, 114, 103], [111, 114, 103], [46, 49], [120, 46, 111, 114, 103], [110, 101, 116]] : List (List UInt8)).map Str), oI b_8_4 ([0, 80, 443] : List Int) 3 3, .blk rb 74 [.slice Ab bs.length cb, I ((q_8_6 : Nat) : Int)]] := hs30.callM 3 rfl hs31' (by intro k hk; simp at hk; exact hk.symm)
           clear hs31'
           refine nl (kq ⟨_, hs31, trivial⟩ ?_)
           refine tk (fuel := 7) (is := [7]) (.cons rfl (.nil)) (by kernel_rfl) (by kernel_rfl) ⟨_, hs31, trivial⟩ ?_
           refine .op trivial rfl rfl (fun wq _ => ixo r_8_6.toNat sl23 rfl (ieq (x := r_8_6) (by omega)) (by first | omega | (simp; done) | (simp; omega))) ?_
           refine .nil ?_
           refine a2 (i := 8) (j := 10) (by kernel_rfl) ?_ ?_
           · refine one_ rfl ?_
             refine q trivial rfl rfl (ldo1n (g := I) (ys := ([0, 80, 443] : List Int)) (o := r_8_6.toNat) 0 hs31 2 rfl rfl (by first | omega | (simp; done) | (simp; omega)) one3) ?_
             refine nl (kq ⟨_, hs31, trivial⟩ ?_)
             refine a1 (i := 10) (by kernel_rfl) ?_
             refine one_ rfl ?_
             refine cl trivial rfl (pick (rb := rb) (Ab := Ab) (cb := cb) (bs := bs) (p := q_8_6) (n := 3) (w := _) (hr := (blk_heap hs31 3 rfl)) (hb := (hb.up hs31 (fun _ h => h) (fun _ h => .inl h))) (hbn := (by first | assumption | (simp; omega))) (hp := (by omega))) ?_
             rintro _ w31 ⟨r_8_10, q_8_10, rfl, p27, p28, hs32'⟩
             have hs32 : SH w w31 [rb] [.own Ag3 zs.length cg3 83 3 (zs.flatMap gRule), .own (some ⟨b_8_2, 0, none⟩) (([[], [46, 111, 114, 103], [111, 114, 103], [46, 49], [120, 46, 111, 114, 103], [110, 101, 116]] : List (List UInt8)).length) 6 9 1 (([[], [46, 111, 114, 103], [111, 114, 103], [46, 49], [120, 46, 111, 114, 103], [110, 101, 116]] : List (List UInt8)).map Str), oI b_8_4 ([0, 80, 443] : List Int) 3 3, .blk rb 74 [.slice Ab bs.length cb, I ((q_8_10 : Nat) : Int)]] := hs31.callM 3 rfl hs32' (by intro k hk; simp at hk; exact hk.symm)
             clear hs32'
             refine nl (kq ⟨_, hs32, trivial⟩ ?_)
             refine tk (fuel := 3) (is := [11, 12]) (.cons rfl (.cons rfl (.nil))) (by kernel_rfl) (by kernel_rfl) ⟨_, hs32, trivial⟩ ?_
             refine .op trivial rfl rfl (fun wq _ => gtr (k := .i64) (a := r_8_10) (b := 0) rfl rfl) ?_
             refine .op trivial rfl rfl (fun wq _ => bdv (v := .agg #[Str s_8_3, I (([0, 80, 443] : List Int).getD r_8_6.toNat 0), .bool (decide ((0 : Int) < r_8_10))]) [(0, Str s_8_3), (1, I (([0, 80, 443] : List Int).getD r_8_6.toNat 0)), (2, .bool (decide ((0 : Int) < r_8_10)))] rfl (fun _ => by kernel_rfl)) ?_
             refine .nil ?_
             refine a1 (i := 13) (by kernel_rfl) ?_
             refine one_ rfl ?_
             refine bsk hs32 sl42 [.agg #[Str s_8_3, I (([0, 80, 443] : List Int).getD r_8_6.toNat 0), .bool (decide ((0 : Int) < r_8_10))]] [Str s_8_3, I (([0, 80, 443] : List Int).getD r_8_6.toNat 0), .bool (decide ((0 : Int) < r_8_10))] trivial rfl (fun b_8_13 w32 (hs33 : SH w w32 [rb] [.own Ag3 zs.length cg3 83 3 (zs.flatMap gRule), .own (some ⟨b_8_2, 0, none⟩) (([[], [46, 111, 114, 103], [111, 114, 103], [46, 49], [120, 46, 111, 114, 103], [110, 101, 116]] : List (List UInt8)).length) 6 9 1 (([[], [46, 111, 114, 103], [111, 114, 103], [46, 49], [120, 46, 111, 114, 103], [110, 101, 116]] : List (List UInt8)).map Str), oI b_8_4 ([0, 80, 443] : List Int) 3 3, .blk rb 74 [.slice Ab bs.length cb, I ((q_8_10 : Nat) : Int)], .own (some ⟨b_8_13, 0, none⟩) (([((s_8_3, ([0, 80, 443] : List Int).getD r_8_6.toNat 0, (decide ((0 : Int) < r_8_10))) : List UInt8 × Int × Bool)] : List (List UInt8 × Int × Bool)).length) 1 83 3 (([((s_8_3, ([0, 80, 443] : List Int).getD r_8_6.toNat 0, (decide ((0 : Int) < r_8_10))) : List UInt8 × Int × Bool)] : List (List UInt8 × Int × Bool)).flatMap gRule)]) => ?_)
             refine nl (kq ⟨_, hs33, trivial⟩ ?_)
             refine a1 (i := 14) (by kernel_rfl) ?_
             refine one_ rfl ?_
             refine apf (g := gRule) (ys := zs) (zs := ([((s_8_3, ([0, 80, 443] : List Int).getD r_8_6.toNat 0, (decide ((0 : Int) < r_8_10))) : List UInt8 × Int × Bool)] : List (List UInt8 × Int × Bool))) hs33 0 rfl sl42 rfl (by decide) rfl rfl (hs33.sl0 4 rfl) (fun _ => rfl) (by unfold maxLen; first | omega | (simp; done) | (simp; omega)) (by first | omega | (simp; done) | (simp; omega)) trivial rfl (fun A_8_14 c_8_14 w33 (hs34 : SH w w33 [rb] [.own (some ⟨b_8_2, 0, none⟩) (([[], [46, 111, 114, 103], [111, 114, 103], [46, 49], [120, 46, 111, 114, 103], [110, 101, 116]] : List (List UInt8)).length) 6 9 1 (([[], [46, 111, 114, 103], [111, 114, 103], [46, 49], [120, 46, 111, 114, 103], [110, 101, 116]] : List (List UInt8)).map Str), oI b_8_4 ([0, 80, 443] : List Int) 3 3, .blk rb 74 [.slice Ab bs.length cb, I ((q_8_10 : Nat) : Int)], .own (some ⟨b_8_13, 0, none⟩) (([((s_8_3, ([0, 80, 443] : List Int).getD r_8_6.toNat 0, (decide ((0 : Int) < r_8_10))) : List UInt8 × Int × Bool)] : List (List UInt8 × Int × Bool)).length) 1 83 3 (([((s_8_3, ([0, 80, 443] : List Int).getD r_8_6.toNat 0, (decide ((0 : Int) < r_8_10))) : List UInt8 × Int × Bool)] : List (List UInt8 × Int × Bool)).flatMap gRule), .own A_8_14 ((zs ++ ([((s_8_3, ([0, 80, 443] : List Int).getD r_8_6.toNat 0, (decide ((0 : Int) < r_8_10))) : List UInt8 × Int × Bool)] : List (List UInt8 × Int × Bool))).length) c_8_14 83 3 ((zs ++ ([((s_8_3, ([0, 80, 443] : List Int).getD r_8_6.toNat 0, (decide ((0 : Int) < r_8_10))) : List UInt8 × Int × Bool)] : List (List UInt8 × Int × Bool))).flatMap gRule)]) => ?_)
             refine nl (kq ⟨_, hs34, trivial⟩ ?_)
             refine tk (fuel := 0) (is := [15]) (.cons rfl (.nil)) (by kernel_rfl) (by kernel_rfl) ⟨_, hs34, trivial⟩ ?_
             refine .op trivial rfl rfl (fun wq _ => asg (v := .slice A_8_14 ((zs ++ ([((s_8_3, ([0, 80, 443] : List Int).getD r_8_6.toNat 0, (decide ((0 : Int) < r_8_10))) : List UInt8 × Int × Bool)] : List (List UInt8 × Int × Bool))).length) c_8_14) rfl) ?_
             refine .nil ?_
             refine ad (by kernel_rfl) ?_
             exact ⟨b_8_2, s_8_3, q_8_3, b_8_4, r_8_6, q_8_6, r_8_10, q_8_10, b_8_13, A_8_14, c_8_14, ⟨rfl, rfl, rfl, rfl, trivial⟩, p23, p24, p25, p26, p27, p28, hs34⟩
           · refine one_ rfl ?_
             refine cl trivial rfl (pick (rb := rb) (Ab := Ab) (cb := cb) (bs := bs) (p := q_8_6) (n := 3) (w := _) (hr := (blk_heap hs31 3 rfl)) (hb := (hb.up hs31 (fun _ h => h) (fun _ h => .inl h))) (hbn := (by first | assumption | (simp; omega))) (hp := (by omega))) ?_
             rintro _ w34 ⟨r_8_10, q_8_10, rfl, p29, p30, hs35'⟩
             have hs35 : SH w w34 [rb] [.own Ag3 zs.length cg3 83 3 (zs.flatMap gRule), .own (some ⟨b_8_2, 0, none⟩) (([[], [46, 111, 114, 103], [111, 114, 103], [46, 49], [120, 46, 111, 114, 103], [110, 101, 116]] : List (List UInt8)).length) 6 9 1 (([[], [46, 111, 114, 103], [111, 114, 103], [46, 49], [120, 46, 111, 114, 103], [110, 101, 116]] : List (List UInt8)).map Str), oI b_8_4 ([0, 80, 443] : List Int) 3 3, .blk rb 74 [.slice Ab bs.length cb, I ((q_8_10 : Nat) : Int)]] := hs31.callM 3 rfl hs35' (by intro k hk; simp at hk; exact hk.symm)
             clear hs35'
             refine nl (kq ⟨_, hs35, trivial⟩ ?_)
             refine tk (fuel := 5) (is := [11]) (.cons rfl (.nil)) (by kernel_rfl) (by kernel_rfl) ⟨_, hs35, trivial⟩ ?_
             refine .op trivial rfl rfl (fun wq _ => gtr (k := .i64) (a := r_8_10) (b := 0) rfl rfl) ?_
             refine .nil ?_
             refine a1 (i := 8) (by kernel_rfl) ?_
             refine one_ rfl ?_
             refine q trivial rfl rfl (ldo1n (g := I) (ys := ([0, 80, 443] : List Int)) (o := r_8_6.toNat) 0 hs35 2 rfl rfl (by first | omega | (simp; done) | (simp; omega)) one3) ?_
             refine nl (kq ⟨_, hs35, trivial⟩ ?_)
             refine tk (fuel := 3) (is := [12]) (.cons rfl (.nil)) (by kernel_rfl) (by kernel_rfl) ⟨_, hs35, trivial⟩ ?_
             refine .op trivial rfl rfl (fun wq _ => bdv (v := .agg #[Str s_8_3, I (([0, 80, 443] : List Int).getD r_8_6.toNat 0), .bool (decide ((0 : Int) < r_8_10))]) [(0, Str s_8_3), (1, I (([0, 80, 443] : List Int).getD r_8_6.toNat 0)), (2, .bool (decide ((0 : Int) < r_8_10)))] rfl (fun _ => by kernel_rfl)) ?_
             refine .nil ?_
             refine a1 (i := 13) (by kernel_rfl) ?_
             refine one_ rfl ?_
             refine bsk hs35 sl42 [.agg #[Str s_8_3, I (([0, 80, 443] : List Int).getD r_8_6.toNat 0), .bool (decide ((0 : Int) < r_8_10))]] [Str s_8_3, I (([0, 80, 443] : List Int).getD r_8_6.toNat 0), .bool (decide ((0 : Int) < r_8_10))] trivial rfl (fun b_8_13 w35 (hs36 : SH w w35 [rb] [.own Ag3 zs.length cg3 83 3 (zs.flatMap gRule), .own (some ⟨b_8_2, 0, none⟩) (([[], [46, 111, 114, 103], [111, 114, 103], [46, 49], [120, 46, 111, 114, 103], [110, 101, 116]] : List (List UInt8)).length) 6 9 1 (([[], [46, 111, 114, 103], [111, 114, 103], [46, 49], [120, 46, 111, 114, 103], [110, 101, 116]] : List (List UInt8)).map Str), oI b_8_4 ([0, 80, 443] : List Int) 3 3, .blk rb 74 [.slice Ab bs.length cb, I ((q_8_10 : Nat) : Int)], .own (some ⟨b_8_13, 0, none⟩) (([((s_8_3, ([0, 80, 443] : List Int).getD r_8_6.toNat 0, (decide ((0 : Int) < r_8_10))) : List UInt8 × Int × Bool)] : List (List UInt8 × Int × Bool)).length) 1 83 3 (([((s_8_3, ([0, 80, 443] : List Int).getD r_8_6.toNat 0, (decide ((0 : Int) < r_8_10))) : List UInt8 × Int × Bool)] : List (List UInt8 × Int × Bool)).flatMap gRule)]) => ?_)
             refine nl (kq ⟨_, hs36, trivial⟩ ?_)
             refine a1 (i := 14) (by kernel_rfl) ?_
             refine one_ rfl ?_
             refine apf (g := gRule) (ys := zs) (zs := ([((s_8_3, ([0, 80, 443] : List Int).getD r_8_6.toNat 0, (decide ((0 : Int) < r_8_10))) : List UInt8 × Int × Bool)] : List (List UInt8 × Int × Bool))) hs36 0 rfl sl42 rfl (by decide) rfl rfl (hs36.sl0 4 rfl) (fun _ => rfl) (by unfold maxLen; first | omega | (simp; done) | (simp; omega)) (by first | omega | (simp; done) | (simp; omega)) trivial rfl (fun A_8_14 c_8_14 w36 (hs37 : SH w w36 [rb] [.own (some ⟨b_8_2, 0, none⟩) (([[], [46, 111, 114, 103], [111, 114, 103], [46, 49], [120, 46, 111, 114, 103], [110, 101, 116]] : List (List UInt8)).length) 6 9 1 (([[], [46, 111, 114, 103], [111, 114, 103], [46, 49], [120, 46, 111, 114, 103], [110, 101, 116]] : List (List UInt8)).map Str), oI b_8_4 ([0, 80, 443] : List Int) 3 3, .blk rb 74 [.slice Ab bs.length cb, I ((q_8_10 : Nat) : Int)], .own (some ⟨b_8_13, 0, none⟩) (([((s_8_3, ([0, 80, 443] : List Int).getD r_8_6.toNat 0, (decide ((0 : Int) < r_8_10))) : List UInt8 × Int × Bool)] : List (List UInt8 × Int × Bool)).length) 1 83 3 (([((s_8_3, ([0, 80, 443] : List Int).getD r_8_6.toNat 0, (decide ((0 : Int) < r_8_10))) : List UInt8 × Int × Bool)] : List (List UInt8 × Int × Bool)).flatMap gRule), .own A_8_14 ((zs ++ ([((s_8_3, ([0, 80, 443] : List Int).getD r_8_6.toNat 0, (decide ((0 : Int) < r_8_10))) : List UInt8 × Int × Bool)] : List (List UInt8 × Int × Bool))).length) c_8_14 83 3 ((zs ++ ([((s_8_3, ([0, 80, 443] : List Int).getD r_8_6.toNat 0, (decide ((0 : Int) < r_8_10))) : List UInt8 × Int × Bool)] : List (List UInt8 × Int × Bool))).flatMap gRule)]) => ?_)
             refine nl (kq ⟨_, hs37, trivial⟩ ?_)
             refine tk (fuel := 0) (is := [15]) (.cons rfl (.nil)) (by kernel_rfl) (by kernel_rfl) ⟨_, hs37, trivial⟩ ?_
             refine .op trivial rfl rfl (fun wq _ => asg (v := .slice A_8_14 ((zs ++ ([((s_8_3, ([0, 80, 443] : List Int).getD r_8_6.toNat 0, (decide ((0 : Int) < r_8_10))) : List UInt8 × Int × Bool)] : List (List UInt8 × Int × Bool))).length) c_8_14) rfl) ?_
             refine .nil ?_
             refine ad (by kernel_rfl) ?_
             exact ⟨b_8_2, s_8_3, q_8_3, b_8_4, r_8_6, q_8_6, r_8_10, q_8_10, b_8_13, A_8_14, c_8_14, ⟨rfl, rfl, rfl, rfl, trivial⟩, p23, p24, p25, p26, p29, p30, hs37⟩
       · refine one_ rfl ?_
         refine bsk hs6 sl23 [I 0, I 80, I 443] [I 0, I 80, I 443] trivial rfl (fun b_8_4 w37 (hs38 : SH w w37 [rb] [.own Ag3 zs.length cg3 83 3 (zs.flatMap gRule), .blk rb 74 [.slice Ab bs.length cb, I ((q0 : Nat) : Int)], oI b_8_4 ([0, 80, 443] : List Int) 3 3]) => ?_)
         refine nl (kq ⟨_, hs38, trivial⟩ ?_)
         refine a1 (i := 2) (by kernel_rfl) ?_
         refine one_ rfl ?_
         refine bsk hs38 sl77 [Str [], Str [46, 111, 114, 103], Str [111, 114, 103], Str [46, 49], Str [120, 46, 111, 114, 103], Str [110, 101, 116]] [Str [], Str [46, 111, 114, 103], Str [111, 114, 103], Str [46, 49], Str [120, 46, 111, 114, 103], Str [110, 101, 116]] trivial rfl (fun b_8_2 w38 (hs39 : SH w w38 [rb] [.own Ag3 zs.length cg3 83 3 (zs.flatMap gRule), .blk rb 74 [.slice Ab bs.length cb, I ((q0 : Nat) : Int)], oI b_8_4 ([0, 80, 443] : List Int) 3 3, .own (some ⟨b_8_2, 0, none⟩) (([[], [46, 111, 114, 103], [111, 114, 103], [46, 49], [120, 46, 111, 114, 103], [110, 101, 116]] : List (List UInt8)).length) 6 9 1 (([[], [46, 111, 114, 103], [111, 114, 103], [46, 49], [120, 46, 111, 114, 103], [110, 101, 116]] : List (List UInt8)).map Str)]) => ?_)
         refine nl (kq ⟨_, hs39, trivial⟩ ?_)
         refine a1 (i := 3) (by kernel_rfl) ?_
         refine one_ rfl ?_
         refine cl trivial rfl (rdOf (rb := rb) (Ab := Ab) (cb := cb) (bs := bs) (p := q0) (Ass := (some ⟨b_8_2, 0, none⟩)) (css := 6) (ss := ([[], [46, 111, 114, 103], [111, 114, 103], [46, 49], [120, 46, 111, 114, 103], [110, 101, 116]] : List (List UInt8))) (w := _) (hr := (blk_heap hs39 1 rfl)) (hb := (hb.up hs39 (fun _ h => h) (fun _ h => .inl h))) (hbn := (by first | assumption | (simp; omega))) (hp := (by omega)) (hss := (hs39.sl 3 rfl (by intro k hk; simp at hk; subst hk; exact ⟨_, memi 1 rfl, rfl⟩))) (hne := (by first | omega | assumption | (simp; done) | (simp; omega)))) ?_
         rintro _ w39 ⟨s_8_3, q_8_3, rfl, p31, p32, hs40'⟩
         have hs40 : SH w w39 [rb] [.own Ag3 zs.length cg3 83 3 (zs.flatMap gRule), oI b_8_4 ([0, 80, 443] : List Int) 3 3, .own (some ⟨b_8_2, 0, none⟩) (([[], [46, 111, 114, 103], [111, 114, 103], [46, 49], [120, 46, 111, 114, 103], [110, 101, 116]] : List (List UInt8)).length) 6 9 1 (([[], [46, 111, 114, 103], [111, 114, 103], [46, 49], [120, 46, 111, 114, 103], [110, 101, 116]] : List (List UInt8)).map Str), .blk rb 74 [.slice Ab bs.length cb, I ((q_8_3 : Nat) : Int)]] := hs39.callM 1 rfl hs40' (by intro k hk; simp at hk; exact hk.symm)
         clear hs40'
         refine nl (kq ⟨_, hs40, trivial⟩ ?_)
         refine a1 (i := 6) (by kernel_rfl) ?_
         refine one_ rfl ?_
         refine cl trivial rfl (pick (rb := rb) (Ab := Ab) (cb := cb) (bs := bs) (p := q_8_3) (n := 3) (w := _) (hr := (blk_heap hs40 3 rfl)) (hb := (hb.up hs40 (fun _ h => h) (fun _ h => .inl h))) (hbn := (by first | assumption | (simp; omega))) (hp := (by omega))) ?_
         rintro _ w40 ⟨r_8_6, q_8_6, rfl, p33, p34, hs41'⟩
         have hs41 : SH w w40 [rb] [.own Ag3 zs.length cg3 83 3 (zs.flatMap gRule), oI b_8_4 ([0, 80, 443] : List Int) 3 3, .own (some ⟨b_8_2, 0, none⟩) (([[], [46, 111, 114, 103], [111, 114, 103], [46, 49], [120, 46, 111, 114, 103], [110, 101, 116]] : List (List UInt8)).length) 6 9 1 (([[], [46, 111, 114, 103], [111, 114, 103], [46, 49], [120, 46, 111, 114, 103], [110, 101, 116]] : List (List UInt8)).map Str), .blk rb 74 [.slice Ab bs.length cb, I ((q_8_6 : Nat) : Int)]] := hs40.callM 3 rfl hs41' (by intro k hk; simp at hk; exact hk.symm)
         clear hs41'
         refine nl (kq ⟨_, hs41, trivial⟩ ?_)
         refine tk (fuel := 7) (is := [7]) (.cons rfl (.nil)) (by kernel_rfl) (by kernel_rfl) ⟨_, hs41, trivial⟩ ?_
         refine .op trivial rfl rfl (fun wq _ => ixo r_8_6.toNat sl23 rfl (ieq (x := r_8_6) (by omega)) (by first | omega | (simp; done) | (simp; omega))) ?_
         refine .nil ?_
         refine a2 (i := 8) (j := 10) (by kernel_rfl) ?_ ?_
         · refine one_ rfl ?_
           refine q trivial rfl rfl (ldo1n (g := I) (ys := ([0, 80, 443] : List Int)) (o := r_8_6.toNat) 0 hs41 1 rfl rfl (by first | omega | (simp; done) | (simp; omega)) one3) ?_
           refine nl (kq ⟨_, hs41, trivial⟩ ?_)
           refine a1 (i := 10) (by kernel_rfl) ?_
           refine one_ rfl ?_
           refine cl trivial rfl (pick (rb := rb) (Ab := Ab) (cb := cb) (bs := bs) (p := q_8_6) (n := 3) (w := _) (hr := (blk_heap hs41 3 rfl)) (hb := (hb.up hs41 (fun _ h => h) (fun _ h => .inl h))) (hbn := (by first | assumption | (simp; omega))) (hp := (by omega))) ?_
           rintro _ w41 ⟨r_8_10, q_8_10, rfl, p35, p36, hs42'⟩
           have hs42 : SH w w41 [rb] [.own Ag3 zs.length cg3 83 3 (zs.flatMap gRule), oI b_8_4 ([0, 80, 443] : List Int) 3 3, .own (some ⟨b_8_2, 0, none⟩) (([[], [46, 111, 114, 103], [111, 114, 103], [46, 49], [120, 46, 111, 114, 103], [110, 101, 116]] : List (List UInt8)).length) 6 9 1 (([[], [46, 111, 114, 103], [111, 114, 103], [46, 49], [120, 46, 111, 114, 103], [110, 101, 116]] : List (List UInt8)).map Str), .blk rb 74 [.slice Ab bs.length cb, I ((q_8_10 : Nat) : Int)]] := hs41.callM 3 rfl hs42' (by intro k hk; simp at hk; exact hk.symm)
           clear hs42'
           refine nl (kq ⟨_, hs42, trivial⟩ ?_)
           refine tk (fuel := 3) (is := [11, 12]) (.cons rfl (.cons rfl (.nil))) (by kernel_rfl) (by kernel_rfl) ⟨_, hs42, trivial⟩ ?_
           refine .op trivial rfl rfl (fun wq _ => gtr (k := .i64) (a := r_8_10) (b := 0) rfl rfl) ?_
           refine .op trivial rfl rfl (fun wq _ => bdv (v := .agg #[Str s_8_3, I (([0, 80, 443] : List Int).getD r_8_6.toNat 0), .bool (decide ((0 : Int) < r_8_10))]) [(0, Str s_8_3), (1, I (([0, 80, 443] : List Int).getD r_8_6.toNat 0)), (2, .bool (decide ((0 : Int) < r_8_10)))] rfl (fun _ => by kernel_rfl)) ?_
           refine .nil ?_
           refine a1 (i := 13) (by kernel_rfl) ?_
           refine one_ rfl ?_
           refine bsk hs42 sl42 [.agg #[Str s_8_3, I (([0, 80, 443] : List Int).getD r_8_6.toNat 0), .bool (decide ((0 : Int) < r_8_10))]] [Str s_8_3, I (([0, 80, 443] : List Int).getD r_8_6.toNat 0), .bool (decide ((0 : Int) < r_8_10))] trivial rfl (fun b_8_13 w42 (hs43 : SH w w42 [rb] [.own Ag3 zs.length cg3 83 3 (zs.flatMap gRule), oI b_8_4 ([0, 80, 443] : List Int) 3 3, .own (some ⟨b_8_2, 0, none⟩) (([[], [46, 111, 114, 103], [111, 114, 103], [46, 49], [120, 46, 111, 114, 103], [110, 101, 116]] : List (List UInt8)).length) 6 9 1 (([[], [46, 111, 114, 103], [111, 114, 103], [46, 49], [120, 46, 111, 114, 103], [110, 101, 116]] : List (List UInt8)).map Str), .blk rb 74 [.slice Ab bs.length cb, I ((q_8_10 : Nat) : Int)], .own (some ⟨b_8_13, 0, none⟩) (([((s_8_3, ([0, 80, 443] : List Int).getD r_8_6.toNat 0, (decide ((0 : Int) < r_8_10))) : List UInt8 × Int × Bool)] : List (List UInt8 × Int × Bool)).length) 1 83 3 (([((s_8_3, ([0, 80, 443] : List Int).getD r_8_6.toNat 0, (decide ((0 : Int) < r_8_10))) : List UInt8 × Int × Bool)] : List (List UInt8 × Int × Bool)).flatMap gRule)]) => ?_)
           refine nl (kq ⟨_, hs43, trivial⟩ ?_)
           refine a1 (i := 14) (by kernel_rfl) ?_
           refine one_ rfl ?_
           refine apf (g := gRule) (ys := zs) (zs := ([((s_8_3, ([0, 80, 443] : List Int).getD r_8_6.toNat 0, (decide ((0 : Int) < r_8_10))) : List UInt8 × Int × Bool)] : List (List UInt8 × Int × Bool))) hs43 0 rfl sl42 rfl (by decide) rfl rfl (hs43.sl0 4 rfl) (fun _ => rfl) (by unfold maxLen; first | omega | (simp; done) | (simp; omega)) (by first | omega | (simp; done) | (simp; omega)) trivial rfl (fun A_8_14 c_8_14 w43 (hs44 : SH w w43 [rb] [oI b_8_4 ([0, 80, 443] : List Int) 3 3, .own (some ⟨b_8_2, 0, none⟩) (([[], [46, 111, 114, 103], [111, 114, 103], [46, 49], [120, 46, 111, 114, 103], [110, 101, 116]] : List (List UInt8)).length) 6 9 1 (([[], [46, 111, 114, 103], [111, 114, 103], [46, 49], [120, 46, 111, 114, 103], [110, 101, 116]] : List (List UInt8)).map Str), .blk rb 74 [.slice Ab bs.length cb, I ((q_8_10 : Nat) : Int)], .own (some ⟨b_8_13, 0, none⟩) (([((s_8_3, ([0, 80, 443] : List Int).getD r_8_6.toNat 0, (decide ((0 : Int) < r_8_10))) : List UInt8 × Int × Bool)] : List (List UInt8 × Int × Bool)).length) 1 83 3 (([((s_8_3, ([0, 80, 443] : List Int).getD r_8_6.toNat 0, (decide ((0 : Int) < r_8_10))) : List UInt8 × Int × Bool)] : List (List UInt8 × Int × Bool)).flatMap gRule), .own A_8_14 ((zs ++ ([((s_8_3, ([0, 80, 443] : List Int).getD r_8_6.toNat 0, (decide ((0 : Int) < r_8_10))) : List UInt8 × Int × Bool)] : List (List UInt8 × Int × Bool))).length) c_8_14 83 3 ((zs ++ ([((s_8_3, ([0, 80, 443] : List Int).getD r_8_6.toNat 0, (decide ((0 : Int) < r_8_10))) : List UInt8 × Int × Bool)] : List (List UInt8 × Int × Bool))).flatMap gRule)]) => ?_)
           refine nl (kq ⟨_, hs44, trivial⟩ ?_)
           refine tk (fuel := 0) (is := [15]) (.cons rfl (.nil)) (by kernel_rfl) (by kernel_rfl) ⟨_, hs44, trivial⟩ ?_
           refine .op trivial rfl rfl (fun wq _ => asg (v := .slice A_8_14 ((zs ++ ([((s_8_3, ([0, 80, 443] : List Int).getD r_8_6.toNat 0, (decide ((0 : Int) < r_8_10))) : List UInt8 × Int × Bool)] : List (List UInt8 × Int × Bool))).length) c_8_14) rfl) ?_
           refine .nil ?_
           refine ad (by kernel_rfl) ?_
           exact ⟨b_8_2, s_8_3, q_8_3, b_8_4, r_8_6, q_8_6, r_8_10, q_8_10, b_8_13, A_8_14, c_8_14, ⟨rfl, rfl, rfl, rfl, trivial⟩, p31, p32, p33, p34, p35, p36, (hs44.pick [1, 0, 2, 3, 4] rfl (by decide))⟩
         · refine one_ rfl ?_
           refine cl trivial rfl (pick (rb := rb) (Ab := Ab) (cb := cb) (bs := bs) (p := q_8_6) (n := 3) (w := _) (hr := (blk_heap hs41 3 rfl)) (hb := (hb.up hs41 (fun _ h => h) (fun _ h => .inl h))) (hbn := (by first | assumption | (simp; omega))) (hp := (by omega))) ?_
           rintro _ w44 ⟨r_8_10, q_8_10, rfl, p37, p38, hs45'⟩
           have hs45 : SH w w44 [rb] [.own Ag3 zs.length cg3 83 3 (zs.flatMap gRule), oI b_8_4 ([0, 80, 443] : List Int) 3 3, .own (some ⟨b_8_2, 0, none⟩) (([[], [46, 111, 114, 103], [111, 114, 103], [46, 49], [120, 46, 111, 114, 103], [110, 101, 116]] : List (List UInt8)).length) 6 9 1 (([[], [46, 111, 114, 103], [111, 114, 103], [46, 49], [120, 46, 111, 114, 103], [110, 101, 116]] : List (List UInt8)).map Str), .blk rb 74 [.slice Ab bs.length cb, I ((q_8_10 : Nat) : Int)]] := hs41.callM 3 rfl hs45' (by intro k hk; simp at hk; exact hk.symm)
           clear hs45'
           refine nl (kq ⟨_, hs45, trivial⟩ ?_)
           refine tk (fuel := 5) (is := [11]) (.cons rfl (.nil)) (by kernel_rfl) (by kernel_rfl) ⟨_, hs45, trivial⟩ ?_
           refine .op trivial rfl rfl (fun wq _ => gtr (k := .i64) (a := r_8_10) (b := 0) rfl rfl) ?_
           refine .nil ?_
           refine a1 (i := 8) (by kernel_rfl) ?_
           refine one_ rfl ?_
           refine q trivial rfl rfl (ldo1n (g := I) (ys := ([0, 80, 443] : List Int)) (o := r_8_6.toNat) 0 hs45 1 rfl rfl (by first | omega | (simp; done) | (simp; omega)) one3) ?_
           refine nl (kq ⟨_, hs45, trivial⟩ ?_)
           refine tk (fuel := 3) (is := [12]) (.cons rfl (.nil)) (by kernel_rfl) (by kernel_rfl) ⟨_, hs45, trivial⟩ ?_
           refine .op trivial rfl rfl (fun wq _ => bdv (v := .agg #[Str s_8_3, I (([0, 80, 443] : List Int).getD r_8_6.toNat 0), .bool (decide ((0 : Int) < r_8_10))]) [(0, Str s_8_3), (1, I (([0, 80, 443] : List Int).getD r_8_6.toNat 0)), (2, .bool (decide ((0 : Int) < r_8_10)))] rfl (fun _ => by kernel_rfl)) ?_
           refine .nil ?_
           refine a1 (i := 13) (by kernel_rfl) ?_
           refine one_ rfl ?_
           refine bsk hs45 sl42 [.agg #[Str s_8_3, I (([0, 80, 443] : List Int).getD r_8_6.toNat 0), .bool (decide ((0 : Int) < r_8_10))]] [Str s_8_3, I (([0, 80, 443] : List Int).getD r_8_6.toNat 0), .bool (decide ((0 : Int) < r_8_10))] trivial rfl (fun b_8_13 w45 (hs46 : SH w w45 [rb] [.own Ag3 zs.length cg3 83 3 (zs.flatMap gRule), oI b_8_4 ([0, 80, 443] : List Int) 3 3, .own (some ⟨b_8_2, 0, none⟩) (([[], [46, 111, 114, 103], [111, 114, 103], [46, 49], [120, 46, 111, 114, 103], [110, 101, 116]] : List (List UInt8)).length) 6 9 1 (([[], [46, 111, 114, 103], [111, 114, 103], [46, 49], [120, 46, 111, 114, 103], [110, 101, 116]] : List (List UInt8)).map Str), .blk rb 74 [.slice Ab bs.length cb, I ((q_8_10 : Nat) : Int)], .own (some ⟨b_8_13, 0, none⟩) (([((s_8_3, ([0, 80, 443] : List Int).getD r_8_6.toNat 0, (decide ((0 : Int) < r_8_10))) : List UInt8 × Int × Bool)] : List (List UInt8 × Int × Bool)).length) 1 83 3 (([((s_8_3, ([0, 80, 443] : List Int).getD r_8_6.toNat 0, (decide ((0 : Int) < r_8_10))) : List UInt8 × Int × Bool)] : List (List UInt8 × Int × Bool)).flatMap gRule)]) => ?_)
           refine nl (kq ⟨_, hs46, trivial⟩ ?_)
           refine a1 (i := 14) (by kernel_rfl) ?_
           refine one_ rfl ?_
           refine apf (g := gRule) (ys := zs) (zs := ([((s_8_3, ([0, 80, 443] : List Int).getD r_8_6.toNat 0, (decide ((0 : Int) < r_8_10))) : List UInt8 × Int × Bool)] : List (List UInt8 × Int × Bool))) hs46 0 rfl sl42 rfl (by decide) rfl rfl (hs46.sl0 4 rfl) (fun _ => rfl) (by unfold maxLen; first | omega | (simp; done) | (simp; omega)) (by first | omega | (simp; done) | (simp; omega)) trivial rfl (fun A_8_14 c_8_14 w46 (hs47 : SH w w46 [rb] [oI b_8_4 ([0, 80, 443] : List Int) 3 3, .own (some ⟨b_8_2, 0, none⟩) (([[], [46, 111, 114, 103], [111, 114, 103], [46, 49], [120, 46, 111, 114, 103], [110, 101, 116]] : List (List UInt8)).length) 6 9 1 (([[], [46, 111, 114, 103], [111, 114, 103], [46, 49], [120, 46, 111, 114, 103], [110, 101, 116]] : List (List UInt8)).map Str), .blk rb 74 [.slice Ab bs.length cb, I ((q_8_10 : Nat) : Int)], .own (some ⟨b_8_13, 0, none⟩) (([((s_8_3, ([0, 80, 443] : List Int).getD r_8_6.toNat 0, (decide ((0 : Int) < r_8_10))) : List UInt8 × Int × Bool)] : List (List UInt8 × Int × Bool)).length) 1 83 3 (([((s_8_3, ([0, 80, 443] : List Int).getD r_8_6.toNat 0, (decide ((0 : Int) < r_8_10))) : List UInt8 × Int × Bool)] : List (List UInt8 × Int × Bool)).flatMap gRule), .own A_8_14 ((zs ++ ([((s_8_3, ([0, 80, 443] : List Int).getD r_8_6.toNat 0, (decide ((0 : Int) < r_8_10))) : List UInt8 × Int × Bool)] : List (List UInt8 × Int × Bool))).length) c_8_14 83 3 ((zs ++ ([((s_8_3, ([0, 80, 443] : List Int).getD r_8_6.toNat 0, (decide ((0 : Int) < r_8_10))) : List UInt8 × Int × Bool)] : List (List UInt8 × Int × Bool))).flatMap gRule)]) => ?_)
           refine nl (kq ⟨_, hs47, trivial⟩ ?_)
           refine tk (fuel := 0) (is := [15]) (.cons rfl (.nil)) (by kernel_rfl) (by kernel_rfl) ⟨_, hs47, trivial⟩ ?_
           refine .op trivial rfl rfl (fun wq _ => asg (v := .slice A_8_14 ((zs ++ ([((s_8_3, ([0, 80, 443] : List Int).getD r_8_6.toNat 0, (decide ((0 : Int) < r_8_10))) : List UInt8 × Int × Bool)] : List (List UInt8 × Int × Bool))).length) c_8_14) rfl) ?_
           refine .nil ?_
           refine ad (by kernel_rfl) ?_
           exact ⟨b_8_2, s_8_3, q_8_3, b_8_4, r_8_6, q_8_6, r_8_10, q_8_10, b_8_13, A_8_14, c_8_14, ⟨rfl, rfl, rfl, rfl, trivial⟩, p31, p32, p33, p34, p37, p38, (hs47.pick [1, 0, 2, 3, 4] rfl (by decide))⟩
     rintro f w47 ⟨b_8_2, s_8_3, q_8_3, b_8_4, r_8_6, q_8_6, r_8_10, q_8_10, b_8_13, A_8_14, c_8_14, hf, p39, p40, p41, p42, p43, p44, hs48⟩
     obtain ⟨g2, rfl⟩ := has_upd hf
     clear hf
     refine bN ?_
     refine nN ?_
     have hs49 : SH w w47 [rb] [.blk rb 74 [.slice Ab bs.length cb, I ((q_8_10 : Nat) : Int)], .own A_8_14 ((zs ++ ([((s_8_3, ([0, 80, 443] : List Int).getD r_8_6.toNat 0, (decide ((0 : Int) < r_8_10))) : List UInt8 × Int × Bool)] : List (List UInt8 × Int × Bool))).length) c_8_14 83 3 ((zs ++ ([((s_8_3, ([0, 80, 443] : List Int).getD r_8_6.toNat 0, (decide ((0 : Int) < r_8_10))) : List UInt8 × Int × Bool)] : List (List UInt8 × Int × Bool))).flatMap gRule)] := hs48.pick [2, 4] rfl (by decide)
     refine rg ?_
     refine q trivial rfl rfl (mv (v := I ((k : Nat) : Int)) rfl) ?_
     refine q trivial rfl rfl (add (a := ((k : Nat) : Int)) (b := 1) rfl rfl (by exact ⟨by omega, by omega⟩)) ?_
     refine q trivial rfl rfl (asg (v := I (((k : Nat) : Int) + 1)) rfl) ?_
     refine nl ?_
     refine nN ?_
     refine ⟨(A_8_14, c_8_14, q_8_10, k + 1, (zs ++ ([((s_8_3, ([0, 80, 443] : List Int).getD r_8_6.toNat 0, (decide ((0 : Int) < r_8_10))) : List UInt8 × Int × Bool)] : List (List UInt8 × Int × Bool)))), ⟨⟨rfl, rfl, rfl, rfl, trivial⟩, (by omega), (by simp; omega), (rules_app he (words5 (by assumption))), (by omega), (hs49.pick [1, 0] rfl (by decide))⟩, ?_⟩
     show 7 - (k + 1) < 7 - k
     omega
   · refine ex (tE (tE (bE ?_)))
     refine nN ?_
     refine sq ?_
     refine sq ?_
     refine rg ?_
     refine q trivial rfl rfl (mv (v := I (6 + r3)) rfl) ?_
     refine q trivial rfl rfl (gtr (k := .i64) (a := 6 + r3) (b := 0) rfl rfl) ?_
     refine q trivial rfl rfl (mv (v := .bool (decide ((0 : Int) < (6 + r3)))) rfl) ?_
     refine spd (p := (0 : Int) < (6 + r3)) 37 rfl (fun h3 => ?_) (fun h3 => ?_)
     · refine q ⟨_, rfl, rfl⟩ rfl rfl (mv (v := pB rb) rfl) ?_
       refine cl ⟨_, rfl, rfl⟩ rfl (pick (rb := rb) (Ab := Ab) (cb := cb) (bs := bs) (p := q0) (n := 24) (w := _) (hr := (blk_heap hs5 1 rfl)) (hb := (hb.up hs5 (fun _ h => h) (fun _ h => .inl h))) (hbn := (by first | assumption | (simp; omega))) (hp := (by omega))) ?_
       rintro _ w48 ⟨r4, q4, rfl, p45, p46, hs50'⟩
       have hs50 : SH w w48 [rb] [.own Ag3 zs.length cg3 83 3 (zs.flatMap gRule), .blk rb 74 [.slice Ab bs.length cb, I ((q4 : Nat) : Int)]] := hs5.callM 1 rfl hs50' (by intro k hk; simp at hk; exact hk.symm)
       clear hs50'
       refine q ⟨_, rfl, rfl⟩ rfl rfl (eqi (k := .i64) (a := r4) (b := 0) rfl rfl) ?_
       refine q trivial rfl rfl (pt (v := .bool (decide (r4 = 0))) rfl rfl) ?_
       refine nl ?_
       refine nN ?_
       refine cdd (p := r4 = 0) rfl (fun h4 => ?_) (fun h4 => ?_)
       · refine rg ?_
         refine q trivial rfl rfl (mv (v := .slice Ag3 zs.length cg3) rfl) ?_
         refine q trivial rfl rfl (mv (v := pB rb) rfl) ?_
         refine bsk hs50 sl77 [Str [65], Str [97, 32, 98]] [Str [65], Str [97, 32, 98]] trivial rfl (fun b2 w49 (hs51 : SH w w49 [rb] [.own Ag3 zs.length cg3 83 3 (zs.flatMap gRule), .blk rb 74 [.slice Ab bs.length cb, I ((q4 : Nat) : Int)], .own (some ⟨b2, 0, none⟩) (([[65], [97, 32, 98]] : List (List UInt8)).length) 2 9 1 (([[65], [97, 32, 98]] : List (List UInt8)).map Str)]) => ?_)
         refine cl trivial rfl (rdOf (rb := rb) (Ab := Ab) (cb := cb) (bs := bs) (p := q4) (Ass := (some ⟨b2, 0, none⟩)) (css := 2) (ss := ([[65], [97, 32, 98]] : List (List UInt8))) (w := _) (hr := (blk_heap hs51 1 rfl)) (hb := (hb.up hs51 (fun _ h => h) (fun _ h => .inl h))) (hbn := (by first | assumption | (simp; omega))) (hp := (by omega)) (hss := (hs51.sl 2 rfl (by intro k hk; simp at hk; subst hk; exact ⟨_, memi 1 rfl, rfl⟩))) (hne := (by first | omega | assumption | (simp; done) | (simp; omega)))) ?_
         rintro _ w50 ⟨s1, q5, rfl, p47, p48, hs52'⟩
         have hs52 : SH w w50 [rb] [.own Ag3 zs.length cg3 83 3 (zs.flatMap gRule), .own (some ⟨b2, 0, none⟩) (([[65], [97, 32, 98]] : List (List UInt8)).length) 2 9 1 (([[65], [97, 32, 98]] : List (List UInt8)).map Str), .blk rb 74 [.slice Ab bs.length cb, I ((q5 : Nat) : Int)]] := hs51.callM 1 rfl hs52' (by intro k hk; simp at hk; exact hk.symm)
         clear hs52'
         obtain ⟨b3, rfl⟩ := own_form hs52 0 rfl (by first | omega | (simp; done) | (simp; omega))
         refine q trivial rfl rfl (ixo 0 sl42 rfl rfl (by first | omega | (simp; done) | (simp; omega))) ?_
         refine q trivial rfl rfl (fa 0 fo83_0 rfl) ?_
         refine stoff (g := gRule) (ys := zs) (o := 0) (off := 0) (u := ((s1, (zs.getD 0 rule0).2.1, ((zs.getD 0 rule0).2.2)) : List UInt8 × Int × Bool)) (v := Str s1) rule0 (fun _ => rfl) hs52 0 rfl rfl rfl (by first | omega | (simp; done) | (simp; omega)) (by first | omega | (simp; done) | (simp; omega)) rfl rfl rfl one9 trivial (fun w51 (hs53 : SH w w51 [rb] [.own (some ⟨b2, 0, none⟩) (([[65], [97, 32, 98]] : List (List UInt8)).length) 2 9 1 (([[65], [97, 32, 98]] : List (List UInt8)).map Str), .blk rb 74 [.slice Ab bs.length cb, I ((q5 : Nat) : Int)], .own (some ⟨b3, 0, none⟩) zs.length cg3 83 3 ((zs.set 0 ((s1, (zs.getD 0 rule0).2.1, ((zs.getD 0 rule0).2.2)) : List UInt8 × Int × Bool)).flatMap gRule)]) => ?_)
         refine nl ?_
         refine nN ?_
         refine sq ?_
         refine rg ?_
         refine q trivial rfl rfl (mv (v := sb b3 zs.length cg3) rfl) ?_
         refine q trivial rfl rfl (asg (v := sb b3 zs.length cg3) rfl) ?_
         refine nl ?_
         refine nN ?_
         refine rt ?_
         refine fret (v := sb b3 zs.length cg3) (.tmp .nil) rfl ?_
         have e1 : zs.length = (zs.set 0 ((s1, (zs.getD 0 rule0).2.1, ((zs.getD 0 rule0).2.2)) : List UInt8 × Int × Bool)).length := by first | rfl | (simp; done) | (simp; omega) | omega
         exact ⟨(some ⟨b3, 0, none⟩), cg3, zs.set 0 ((s1, (zs.getD 0 rule0).2.1, ((zs.getD 0 rule0).2.2)) : List UInt8 × Int × Bool), q5, (slv rfl e1 rfl), (by first | omega | (simp; omega)), (by first | assumption | exact rules_set he (words2 (by assumption))), (by omega), ((hs53.pick [1, 2] rfl (by decide)).cast (lc rfl (lc (own_eqf (g := gRule) rfl e1 rfl rfl) rfl)))⟩
       · refine sk ?_
         refine nN ?_
         refine sq ?_
         refine rg ?_
         refine q trivial rfl rfl (mv (v := .slice Ag3 zs.length cg3) rfl) ?_
         refine q trivial rfl rfl (asg (v := .slice Ag3 zs.length cg3) rfl) ?_
         refine nl ?_
         refine nN ?_
         refine rt ?_
         refine fret (v := .slice Ag3 zs.length cg3) (.tmp .nil) rfl ?_
         exact ⟨Ag3, cg3, zs, q4, rfl, (by first | omega | (simp; omega)), (by first | assumption | exact rules_set he (words2 (by assumption))), (by omega), (hs50.pick [1, 0] rfl (by decide))⟩
     · refine gk false rfl rfl rfl rfl rfl ?_
       refine gk false rfl rfl rfl rfl rfl ?_
       refine gk false rfl rfl rfl rfl rfl ?_
       refine q trivial rfl rfl (pf (v := .bool false) rfl rfl) ?_
       refine nl ?_
       refine nN ?_
       refine cdf rfl ?_
       refine sk ?_
       refine nN ?_
       refine sq ?_
       refine rg ?_
       refine q trivial rfl rfl (mv (v := .slice Ag3 zs.length cg3) rfl) ?_
       refine q trivial rfl rfl (asg (v := .slice Ag3 zs.length cg3) rfl) ?_
       refine nl ?_
       refine nN ?_
       refine rt ?_
       refine fret (v := .slice Ag3 zs.length cg3) (.tmp .nil) rfl ?_
       exact ⟨Ag3, cg3, zs, q0, rfl, (by first | omega | (simp; omega)), (by first | assumption | exact rules_set he (words2 (by assumption))), (by omega), (hs5.pick [1, 0] rfl (by decide))⟩
 · refine sk ?_
   refine nN ?_
   refine sq ?_
   refine sq ?_
   refine rg ?_
   refine q trivial rfl rfl (asg (v := I 0) rfl) ?_
   refine nl ?_
   refine nN ?_
   refine bl ?_
   refine lp (σ := (Option Addr) × Nat × Nat × Nat × (List (List UInt8 × Int × Bool))) (fun ⟨Ag3, cg3, q0, k, zs⟩ f w' => Has f [(0, pB rb), (3, .slice Ag3 zs.length cg3), (4, I r1), (5, I ((k : Nat) : Int))] ∧ (k ≤ 7) ∧ (zs.length = k) ∧ (∀ u ∈ zs, u.1.length ≤ 5) ∧ (q0 ≤ p + 3 + 4 * k) ∧ SH w w' [rb] [.own Ag3 zs.length cg3 83 3 (zs.flatMap gRule), .blk rb 74 [.slice Ab bs.length cb, I ((q0 : Nat) : Int)]]) (fun ⟨Ag3, cg3, q0, k, zs⟩ => 7 - k) ((some ⟨b1, 0, none⟩), 0, q2, 0, ([] : List (List UInt8 × Int × Bool))) ⟨⟨rfl, rfl, rfl, rfl, trivial⟩, (by omega), (rfl), (by simp), (by omega), hs3⟩ ?_
   rintro ⟨Ag3, cg3, q0, k, zs⟩ f w52 ⟨hf, hk, hz, he, hq, hs54⟩
   obtain ⟨g3, rfl⟩ := has_upd hf
   clear hf
   refine sq ?_
   refine sq ?_
   refine rg ?_
   refine q trivial rfl rfl (mv (v := I ((k : Nat) : Int)) rfl) ?_
   refine q trivial rfl rfl (mv (v := I r1) rfl) ?_
   refine q trivial rfl rfl (lss (k := .i64) (a := ((k : Nat) : Int)) (b := r1) rfl rfl) ?_
   refine nl ?_
   refine nN ?_
   refine cdd (p := ((k : Nat) : Int) < r1) rfl (fun h5 => ?_) (fun h5 => ?_)
   · refine sk ?_
     refine nN ?_
     refine sq ?_
     refine bl ?_
     refine raJ (fun w' => ∃ L, SH w w' [rb] L ∧ True) (fun f w' => ∃ b_8_2 : Nat, ∃ s_8_3 : List UInt8, ∃ q_8_3 : Nat, ∃ b_8_4 : Nat, ∃ r_8_6 : Int, ∃ q_8_6 : Nat, ∃ r_8_10 : Int, ∃ q_8_10 : Nat, ∃ b_8_13 : Nat, ∃ A_8_14 : Option Addr, ∃ c_8_14 : Nat, Has f [(0, pB rb), (3, .slice A_8_14 ((zs ++ ([((s_8_3, ([0, 80, 443] : List Int).getD r_8_6.toNat 0, (decide ((0 : Int) < r_8_10))) : List UInt8 × Int × Bool)] : List (List UInt8 × Int × Bool))).length) c_8_14), (4, I r1), (5, I ((k : Nat) : Int))] ∧ (s_8_3 ∈ ([[], [46, 111, 114, 103], [111, 114, 103], [46, 49], [120, 46, 111, 114, 103], [110, 101, 116]] : List (List UInt8))) ∧ (q_8_3 ≤ q0 + 1) ∧ (0 ≤ r_8_6 ∧ (r_8_6 < 3 ∨ r_8_6 = 0)) ∧ (q_8_6 ≤ q_8_3 + 1) ∧ (0 ≤ r_8_10 ∧ (r_8_10 < 3 ∨ r_8_10 = 0)) ∧ (q_8_10 ≤ q_8_6 + 1) ∧ SH w w' [rb] [.own (some ⟨b_8_2, 0, none⟩) (([[], [46, 111, 114, 103], [111, 114, 103], [46, 49], [120, 46, 111, 114, 103], [110, 101, 116]] : List (List UInt8)).length) 6 9 1 (([[], [46, 111, 114, 103], [111, 114, 103], [46, 49], [120, 46, 111, 114, 103], [110, 101, 116]] : List (List UInt8)).map Str), oI b_8_4 ([0, 80, 443] : List Int) 3 3, .blk rb 74 [.slice Ab bs.length cb, I ((q_8_10 : Nat) : Int)], .own (some ⟨b_8_13, 0, none⟩) (([((s_8_3, ([0, 80, 443] : List Int).getD r_8_6.toNat 0, (decide ((0 : Int) < r_8_10))) : List UInt8 × Int × Bool)] : List (List UInt8 × Int × Bool)).length) 1 83 3 (([((s_8_3, ([0, 80, 443] : List Int).getD r_8_6.toNat 0, (decide ((0 : Int) < r_8_10))) : List UInt8 × Int × Bool)] : List (List UInt8 × Int × Bool)).flatMap gRule), .own A_8_14 ((zs ++ ([((s_8_3, ([0, 80, 443] : List Int).getD r_8_6.toNat 0, (decide ((0 : Int) < r_8_10))) : List UInt8 × Int × Bool)] : List (List UInt8 × Int × Bool))).length) c_8_14 83 3 ((zs ++ ([((s_8_3, ([0, 80, 443] : List Int).getD r_8_6.toNat 0, (decide ((0 : Int) < r_8_10))) : List UInt8 × Int × Bool)] : List (List UInt8 × Int × Bool))).flatMap gRule)]) mixed ?_ ?_
     · have hs55 := hs54.drew
       refine tk (fuel := 12) (is := [0, 1, 5, 9]) (.cons rfl (.cons rfl (.cons rfl (.cons rfl (.nil))))) (by kernel_rfl) (by kernel_rfl) ⟨_, hs55, trivial⟩ ?_
       refine .op trivial rfl rfl (fun wq _ => mv (v := .slice Ag3 zs.length cg3) rfl) ?_
       refine .op trivial rfl rfl (fun wq _ => mv (v := pB rb) rfl) ?_
       refine .op trivial rfl rfl (fun wq _ => mv (v := pB rb) rfl) ?_
       refine .op trivial rfl rfl (fun wq _ => mv (v := pB rb) rfl) ?_
       refine .nil ?_
       refine a2 (i := 2) (j := 4) (by kernel_rfl) ?_ ?_
       · refine one_ rfl ?_
         refine bsk hs55 sl77 [Str [], Str [46, 111, 114, 103], Str [111, 114, 103], Str [46, 49], Str [120, 46, 111, 114, 103], Str [110, 101, 116]] [Str [], Str [46, 111, 114, 103], Str [111, 114, 103], Str [46, 49], Str [120, 46, 111, 114, 103], Str [110, 101, 116]] trivial rfl (fun b_8_2 w53 (hs56 : SH w w53 [rb] [.own Ag3 zs.length cg3 83 3 (zs.flatMap gRule), .blk rb 74 [.slice Ab bs.length cb, I ((q0 : Nat) : Int)], .own (some ⟨b_8_2, 0, none⟩) (([[], [46, 111, 114, 103], [111, 114, 103], [46, 49], [120, 46, 111, 114, 103], [110, 101, 116]] : List (List UInt8)).length) 6 9 1 (([[], [46, 111, 114, 103], [111, 114, 103], [46, 49], [120, 46, 111, 114, 103], [110, 101, 116]] : List (List UInt8)).map Str)]) => ?_)
         refine nl (kq ⟨_, hs56, trivial⟩ ?_)
         refine a2 (i := 3) (j := 4) (by kernel_rfl) ?_ ?_
         · refine one_ rfl ?_
           refine cl trivial rfl (rdOf (rb := rb) (Ab := Ab) (cb := cb) (bs := bs) (p := q0) (Ass := (some ⟨b_8_2, 0, none⟩)) (css := 6) (ss := ([[], [46, 111, 114, 103], [111, 114, 103], [46, 49], [120, 46, 111, 114, 103], [110, 101, 116]] : List (List UInt8))) (w := _) (hr := (blk_heap hs56 1 rfl)) (hb := (hb.up hs56 (fun _ h => h) (fun _ h => .inl h))) (hbn := (by first | assumption | (simp; omega))) (hp := (by omega)) (hss := (hs56.sl 2 rfl (by intro k hk; simp at hk; subst hk; exact ⟨_, memi 1 rfl, rfl⟩))) (hne := (by first | omega | assumption | (simp; done) | (simp; omega)))) ?_
           rintro _ w54 ⟨s_8_3, q_8_3, rfl, p49, p50, hs57'⟩
           have hs57 : SH w w54 [rb] [.own Ag3 zs.length cg3 83 3 (zs.flatMap gRule), .own (some ⟨b_8_2, 0, none⟩) (([[], [46, 111, 114, 103], [111, 114, 103], [46, 49], [120, 46, 111, 114, 103], [110, 101, 116]] : List (List UInt8)).length) 6 9 1 (([[], [46, 111, 114, 103], [111, 114, 103], [46, 49], [120, 46, 111, 114, 103], [110, 101, 116]] : List (List UInt8)).map Str), .blk rb 74 [.slice Ab bs.length cb, I ((q_8_3 : Nat) : Int)]] := hs56.callM 1 rfl hs57' (by intro k hk; simp at hk; exact hk.symm)
           clear hs57'
           refine nl (kq ⟨_, hs57, trivial⟩ ?_)
           refine a2 (i := 4) (j := 6) (by kernel_rfl) ?_ ?_
           · refine one_ rfl ?_
             refine bsk hs57 sl23 [I 0, I 80, I 443] [I 0, I 80, I 443] trivial rfl (fun b_8_4 w55 (hs58 : SH w w55 [rb] [.own Ag3 zs.length cg3 83 3 (zs.flatMap gRule), .own (some ⟨b_8_2, 0, none⟩) (([[], [46, 111, 114, 103], [111, 114, 103], [46, 49], [120, 46, 111, 114, 103], [110, 101, 116]] : List (List UInt8)).length) 6 9 1 (([[], [46, 111, 114, 103], [111, 114, 103], [46, 49], [120, 46, 111, 114, 103], [110, 101, 116]] : List (List UInt8)).map Str), .blk rb 74 [.slice Ab bs.length cb, I ((q_8_3 : Nat) : Int)], oI b_8_4 ([0, 80, 443] : List Int) 3 3]) => ?_)
             refine nl (kq ⟨_, hs58, trivial⟩ ?_)
             refine a1 (i := 6) (by kernel_rfl) ?_
             refine one_ rfl ?_
             refine cl trivial rfl (pick (rb := rb) (Ab := Ab) (cb := cb) (bs := bs) (p := q_8_3) (n := 3) (w := _) (hr := (blk_heap hs58 2 rfl)) (hb := (hb.up hs58 (fun _ h => h) (fun _ h => .inl h))) (hbn := (by first | assumption | (simp; omega))) (hp := (by omega))) ?_
             rintro _ w56 ⟨r_8_6, q_8_6, rfl, p51, p52, hs59'⟩
             have hs59 : SH w w56 [rb] [.own Ag3 zs.length cg3 83 3 (zs.flatMap gRule), .own (some ⟨b_8_2, 0, none⟩) (([[], [46, 111, 114, 103], [111, 114, 103], [46, 49], [120, 46, 111, 114, 103], [110, 101, 116]] : List (List UInt8)).length) 6 9 1 (([[], [46, 111, 114, 103], [111, 114, 103], [46, 49], [120, 46, 111, 114, 103], [110, 101, 116]] : List (List UInt8)).map Str), oI b_8_4 ([0, 80, 443] : List Int) 3 3, .blk rb 74 [.slice Ab bs.length cb, I ((q_8_6 : Nat) : Int)]] := hs58.callM 2 rfl hs59' (by intro k hk; simp at hk; exact hk.symm)
             clear hs59'
             refine nl (kq ⟨_, hs59, trivial⟩ ?_)
             refine tk (fuel := 7) (is := [7]) (.cons rfl (.nil)) (by kernel_rfl) (by kernel_rfl) ⟨_, hs59, trivial⟩ ?_
             refine .op trivial rfl rfl (fun wq _ => ixo r_8_6.toNat sl23 rfl (ieq (x := r_8_6) (by omega)) (by first | omega | (simp; done) | (simp; omega))) ?_
             refine .nil ?_
             refine a2 (i := 8) (j := 10) (by kernel_rfl) ?_ ?_
             · refine one_ rfl ?_
               refine q trivial rfl rfl (ldo1n (g := I) (ys := ([0, 80, 443] : List Int)) (o := r_8_6.toNat) 0 hs59 2 rfl rfl (by first | omega | (simp; done) | (simp; omega)) one3) ?_
               refine nl (kq ⟨_, hs59, trivial⟩ ?_)
               refine a1 (i := 10) (by kernel_rfl) ?_
               refine one_ rfl ?_
               refine cl trivial rfl (pick (rb := rb) (Ab := Ab) (cb := cb) (bs := bs) (p := q_8_6) (n := 3) (w := _) (hr := (blk_heap hs59 3 rfl)) (hb := (hb.up hs59 (fun _ h => h) (fun _ h => .inl h))) (hbn := (by first | assumption | (simp; omega))) (hp := (by omega))) ?_
               rintro _ w57 ⟨r_8_10, q_8_10, rfl, p53, p54, hs60'⟩
               have hs60 : SH w w57 [rb] [.own Ag3 zs.length cg3 83 3 (zs.flatMap gRule), .own (some ⟨b_8_2, 0, none⟩) (([[], [46, 111, 114, 103], [111, 114, 103], [46, 49], [120, 46, 111, 114, 103], [110, 101, 116]] : List (List UInt8)).length) 6 9 1 (([[], [46, 111, 114, 103], [111, 114, 103], [46, 49], [120, 46, 111, 114, 103], [110, 101, 116]] : List (List UInt8)).map Str), oI b_8_4 ([0, 80, 443] : List Int) 3 3, .blk rb 74 [.slice Ab bs.length cb, I ((q_8_10 : Nat) : Int)]] := hs59.callM 3 rfl hs60' (by intro k hk; simp at hk; exact hk.symm)
               clear hs60'
               refine nl (kq ⟨_, hs60, trivial⟩ ?_)
               refine tk (fuel := 3) (is := [11, 12]) (.cons rfl (.cons rfl (.nil))) (by kernel_rfl) (by kernel_rfl) ⟨_, hs60, trivial⟩ ?_
               refine .op trivial rfl rfl (fun wq _ => gtr (k := .i64) (a := r_8_10) (b := 0) rfl rfl) ?_
               refine .op trivial rfl rfl (fun wq _ => bdv (v := .agg #[Str s_8_3, I (([0, 80, 443] : List Int).getD r_8_6.toNat 0), .bool (decide ((0 : Int) < r_8_10))]) [(0, Str s_8_3), (1, I (([0, 80, 443] : List Int).getD r_8_6.toNat 0)), (2, .bool (decide ((0 : Int) < r_8_10)))] rfl (fun _ => by kernel_rfl)) ?_
               refine .nil ?_
               refine a1 (i := 13) (by kernel_rfl) ?_
               refine one_ rfl ?_
               refine bsk hs60 sl42 [.agg #[Str s_8_3, I (([0, 80, 443] : List Int).getD r_8_6.toNat 0), .bool (decide ((0 : Int) < r_8_10))]] [Str s_8_3, I (([0, 80, 443] : List Int).getD r_8_6.toNat 0), .bool (decide ((0 : Int) < r_8_10))] trivial rfl (fun b_8_13 w58 (hs61 : SH w w58 [rb] [.own Ag3 zs.length cg3 83 3 (zs.flatMap gRule), .own (some ⟨b_8_2, 0, none⟩) (([[], [46, 111, 114, 103], [111, 114, 103], [46, 49], [120, 46, 111, 114, 103], [110, 101, 116]] : List (List UInt8)).length) 6 9 1 (([[], [46, 111, 114, 103], [111, 114, 103], [46, 49], [120, 46, 111, 114, 103], [110, 101, 116]] : List (List UInt8)).map Str), oI b_8_4 ([0, 80, 443] : List Int) 3 3, .blk rb 74 [.slice Ab bs.length cb, I ((q_8_10 : Nat) : Int)], .own (some ⟨b_8_13, 0, none⟩) (([((s_8_3, ([0, 80, 443] : List Int).getD r_8_6.toNat 0, (decide ((0 : Int) < r_8_10))) : List UInt8 × Int × Bool)] : List (List UInt8 × Int × Bool)).length) 1 83 3 (([((s_8_3, ([0, 80, 443] : List Int).getD r_8_6.toNat 0, (decide ((0 : Int) < r_8_10))) : List UInt8 × Int × Bool)] : List (List UInt8 × Int × Bool)).flatMap gRule)]) => ?_)
               refine nl (kq ⟨_, hs61, trivial⟩ ?_)
               refine a1 (i := 14) (by kernel_rfl) ?_
               refine one_ rfl ?_
               refine apf (g := gRule) (ys := zs) (zs := ([((s_8_3, ([0, 80, 443] : List Int).getD r_8_6.toNat 0, (decide ((0 : Int) < r_8_10))) : List UInt8 × Int × Bool)] : List (List UInt8 × Int × Bool))) hs61 0 rfl sl42 rfl (by decide) rfl rfl (hs61.sl0 4 rfl) (fun _ => rfl) (by unfold maxLen; first | omega | (simp; done) | (simp; omega)) (by first | omega | (simp; done) | (simp; omega)) trivial rfl (fun A_8_14 c_8_14 w59 (hs62 : SH w w59 [rb] [.own (some ⟨b_8_2, 0, none⟩) (([[], [46, 111, 114, 103], [111, 114, 103], [46, 49], [120, 46, 111, 114, 103], [110, 101, 116]] : List (List UInt8)).length) 6 9 1 (([[], [46, 111, 114, 103], [111, 114, 103], [46, 49], [120, 46, 111, 114, 103], [110, 101, 116]] : List (List UInt8)).map Str), oI b_8_4 ([0, 80, 443] : List Int) 3 3, .blk rb 74 [.slice Ab bs.length cb, I ((q_8_10 : Nat) : Int)], .own (some ⟨b_8_13, 0, none⟩) (([((s_8_3, ([0, 80, 443] : List Int).getD r_8_6.toNat 0, (decide ((0 : Int) < r_8_10))) : List UInt8 × Int × Bool)] : List (List UInt8 × Int × Bool)).length) 1 83 3 (([((s_8_3, ([0, 80, 443] : List Int).getD r_8_6.toNat 0, (decide ((0 : Int) < r_8_10))) : List UInt8 × Int × Bool)] : List (List UInt8 × Int × Bool)).flatMap gRule), .own A_8_14 ((zs ++ ([((s_8_3, ([0, 80, 443] : List Int).getD r_8_6.toNat 0, (decide ((0 : Int) < r_8_10))) : List UInt8 × Int × Bool)] : List (List UInt8 × Int × Bool))).length) c_8_14 83 3 ((zs ++ ([((s_8_3, ([0, 80, 443] : List Int).getD r_8_6.toNat 0, (decide ((0 : Int) < r_8_10))) : List UInt8 × Int × Bool)] : List (List UInt8 × Int × Bool))).flatMap gRule)]) => ?_)
               refine nl (kq ⟨_, hs62, trivial⟩ ?_)
               refine tk (fuel := 0) (is := [15]) (.cons rfl (.nil)) (by kernel_rfl) (by kernel_rfl) ⟨_, hs62, trivial⟩ ?_
               refine .op trivial rfl rfl (fun wq _ => asg (v := .slice A_8_14 ((zs ++ ([((s_8_3, ([0, 80, 443] : List Int).getD r_8_6.toNat 0, (decide ((0 : Int) < r_8_10))) : List UInt8 × Int × Bool)] : List (List UInt8 × Int × Bool))).length) c_8_14) rfl) ?_
               refine .nil ?_
               refine ad (by kernel_rfl) ?_
               exact ⟨b_8_2, s_8_3, q_8_3, b_8_4, r_8_6, q_8_6, r_8_10, q_8_10, b_8_13, A_8_14, c_8_14, ⟨rfl, rfl, rfl, rfl, trivial⟩, p49, p50, p51, p52, p53, p54, hs62⟩
             · refine one_ rfl ?_
               refine cl trivial rfl (pick (rb := rb) (Ab := Ab) (cb := cb) (bs := bs) (p := q_8_6) (n := 3) (w := _) (hr := (blk_heap hs59 3 rfl)) (hb := (hb.up hs59 (fun _ h => h) (fun _ h => .inl h))) (hbn := (by first | assumption | (simp; omega))) (hp := (by omega))) ?_
               rintro _ w60 ⟨r_8_10, q_8_10, rfl, p55, p56, hs63'⟩
               have hs63 : SH w w60 [rb] [.own Ag3 zs.length cg3 83 3 (zs.flatMap gRule), .own (some ⟨b_8_2, 0, none⟩) (([[], [46, 111, 114, 103], [111, 114, 103], [46, 49], [120, 46, 111, 114, 103], [110, 101, 116]] : List (List UInt8)).length) 6 9 1 (([[], [46, 111, 114, 103], [111, 114, 103], [46, 49], [120, 46, 111, 114, 103], [110, 101, 116]] : List (List UInt8)).map Str), oI b_8_4 ([0, 80, 443] : List Int) 3 3, .blk rb 74 [.slice Ab bs.length cb, I ((q_8_10 : Nat) : Int)]] := hs59.callM 3 rfl hs63' (by intro k hk; simp at hk; exact hk.symm)
               clear hs63'
               refine nl (kq ⟨_, hs63, trivial⟩ ?_)
               refine tk (fuel := 5) (is := [11]) (.cons rfl (.nil)) (by kernel_rfl) (by kernel_rfl) ⟨_, hs63, trivial⟩ ?_
               refine .op trivial rfl rfl (fun wq _ => gtr (k := .i64) (a := r_8_10) (b := 0) rfl rfl) ?_
               refine .nil ?_
               refine a1 (i := 8) (by kernel_rfl) ?_
               refine one_ rfl ?_
               refine q trivial rfl rfl (ldo1n (g := I) (ys := ([0, 80, 443] : List Int)) (o := r_8_6.toNat) 0 hs63 2 rfl rfl (by first | omega | (simp; done) | (simp; omega)) one3) ?_
               refine nl (kq ⟨_, hs63, trivial⟩ ?_)
               refine tk (fuel := 3) (is := [12]) (.cons rfl (.nil)) (by kernel_rfl) (by kernel_rfl) ⟨_, hs63, trivial⟩ ?_
               refine .op trivial rfl rfl (fun wq _ => bdv (v := .agg #[Str s_8_3, I (([0, 80, 443] : List Int).getD r_8_6.toNat 0), .bool (decide ((0 : Int) < r_8_10))]) [(0, Str s_8_3), (1, I (([0, 80, 443] : List Int).getD r_8_6.toNat 0)), (2, .bool (decide ((0 : Int) < r_8_10)))] rfl (fun _ => by kernel_rfl)) ?_
               refine .nil ?_
               refine a1 (i := 13) (by kernel_rfl) ?_
               refine one_ rfl ?_
               refine bsk hs63 sl42 [.agg #[Str s_8_3, I (([0, 80, 443] : List Int).getD r_8_6.toNat 0), .bool (decide ((0 : Int) < r_8_10))]] [Str s_8_3, I (([0, 80, 443] : List Int).getD r_8_6.toNat 0), .bool (decide ((0 : Int) < r_8_10))] trivial rfl (fun b_8_13 w61 (hs64 : SH w w61 [rb] [.own Ag3 zs.length cg3 83 3 (zs.flatMap gRule), .own (some ⟨b_8_2, 0, none⟩) (([[], [46, 111, 114, 103], [111, 114, 103], [46, 49], [120, 46, 111, 114, 103], [110, 101, 116]] : List (List UInt8)).length) 6 9 1 (([[], [46, 111, 114, 103], [111, 114, 103], [46, 49], [120, 46, 111, 114, 103], [110, 101, 116]] : List (List UInt8)).map Str), oI b_8_4 ([0, 80, 443] : List Int) 3 3, .blk rb 74 [.slice Ab bs.length cb, I ((q_8_10 : Nat) : Int)], .own (some ⟨b_8_13, 0, none⟩) (([((s_8_3, ([0, 80, 443] : List Int).getD r_8_6.toNat 0, (decide ((0 : Int) < r_8_10))) : List UInt8 × Int × Bool)] : List (List UInt8 × Int × Bool)).length) 1 83 3 (([((s_8_3, ([0, 80, 443] : List Int).getD r_8_6.toNat 0, (decide ((0 : Int) < r_8_10))) : List UInt8 × Int × Bool)] : List (List UInt8 × Int × Bool)).flatMap gRule)]) => ?_)
               refine nl (kq ⟨_, hs64, trivial⟩ ?_)
               refine a1 (i := 14) (by kernel_rfl) ?_
               refine one_ rfl ?_
               refine apf (g := gRule) (ys := zs) (zs := ([((s_8_3, ([0, 80, 443] : List Int).getD r_8_6.toNat 0, (decide ((0 : Int) < r_8_10))) : List UInt8 × Int × Bool)] : List (List UInt8 × Int × Bool))) hs64 0 rfl sl42 rfl (by decide) rfl rfl (hs64.sl0 4 rfl) (fun _ => rfl) (by unfold maxLen; first | omega | (simp; done) | (simp; omega)) (by first | omega | (simp; done) | (simp; omega)) trivial rfl (fun A_8_14 c_8_14 w62 (hs65 : SH w w62 [rb] [.own (some ⟨b_8_2, 0, none⟩) (([[], [46, 111, 114, 103], [111, 114, 103], [46, 49], [120, 46, 111, 114, 103], [110, 101, 116]] : List (List UInt8)).length) 6 9 1 (([[], [46, 111, 114, 103], [111, 114, 103], [46, 49], [120, 46, 111, 114, 103], [110, 101, 116]] : List (List UInt8)).map Str), oI b_8_4 ([0, 80, 443] : List Int) 3 3, .blk rb 74 [.slice Ab bs.length cb, I ((q_8_10 : Nat) : Int)], .own (some ⟨b_8_13, 0, none⟩) (([((s_8_3, ([0, 80, 443] : List Int).getD r_8_6.toNat 0, (decide ((0 : Int) < r_8_10))) : List UInt8 × Int × Bool)] : List (List UInt8 × Int × Bool)).length) 1 83 3 (([((s_8_3, ([0, 80, 443] : List Int).getD r_8_6.toNat 0, (decide ((0 : Int) < r_8_10))) : List UInt8 × Int × Bool)] : List (List UInt8 × Int × Bool)).flatMap gRule), .own A_8_14 ((zs ++ ([((s_8_3, ([0, 80, 443] : List Int).getD r_8_6.toNat 0, (decide ((0 : Int) < r_8_10))) : List UInt8 × Int × Bool)] : List (List UInt8 × Int × Bool))).length) c_8_14 83 3 ((zs ++ ([((s_8_3, ([0, 80, 443] : List Int).getD r_8_6.toNat 0, (decide ((0 : Int) < r_8_10))) : List UInt8 × Int × Bool)] : List (List UInt8 × Int × Bool))).flatMap gRule)]) => ?_)
               refine nl (kq ⟨_, hs65, trivial⟩ ?_)
               refine tk (fuel := 0) (is := [15]) (.cons rfl (.nil)) (by kernel_rfl) (by kernel_rfl) ⟨_, hs65, trivial⟩ ?_
               refine .op trivial rfl rfl (fun wq _ => asg (v := .slice A_8_14 ((zs ++ ([((s_8_3, ([0, 80, 443] : List Int).getD r_8_6.toNat 0, (decide ((0 : Int) < r_8_10))) : List UInt8 × Int × Bool)] : List (List UInt8 × Int × Bool))).length) c_8_14) rfl) ?_
               refine .nil ?_
               refine ad (by kernel_rfl) ?_
               exact ⟨b_8_2, s_8_3, q_8_3, b_8_4, r_8_6, q_8_6, r_8_10, q_8_10, b_8_13, A_8_14, c_8_14, ⟨rfl, rfl, rfl, rfl, trivial⟩, p49, p50, p51, p52, p55, p56, hs65⟩
           · refine one_ rfl ?_
             refine cl trivial rfl (pick (rb := rb) (Ab := Ab) (cb := cb) (bs := bs) (p := q_8_3) (n := 3) (w := _) (hr := (blk_heap hs57 2 rfl)) (hb := (hb.up hs57 (fun _ h => h) (fun _ h => .inl h))) (hbn := (by first | assumption | (simp; omega))) (hp := (by omega))) ?_
             rintro _ w63 ⟨r_8_6, q_8_6, rfl, p57, p58, hs66'⟩
             have hs66 : SH w w63 [rb] [.own Ag3 zs.length cg3 83 3 (zs.flatMap gRule), .own (some ⟨b_8_2, 0, none⟩) (([[], [46, 111, 114, 103], [111, 114, 103], [46, 49], [120, 46, 111, 114, 103], [110, 101, 116]] : List (List UInt8)).length) 6 9 1 (([[], [46, 111, 114, 103], [111, 114, 103], [46, 49], [120, 46, 111, 114, 103], [110, 101, 116]] : List (List UInt8)).map Str), .blk rb 74 [.slice Ab bs.length cb, I ((q_8_6 : Nat) : Int)]] := hs57.callM 2 rfl hs66' (by intro k hk; simp at hk; exact hk.symm)
             clear hs66'
             refine nl (kq ⟨_, hs66, trivial⟩ ?_)
             refine a2 (i := 4) (j := 10) (by kernel_rfl) ?_ ?_
             · refine one_ rfl ?_
               refine bsk hs66 sl23 [I 0, I 80, I 443] [I 0, I 80, I 443] trivial rfl (fun b_8_4 w64 (hs67 : SH w w64 [rb] [.own Ag3 zs.length cg3 83 3 (zs.flatMap gRule), .own (some ⟨b_8_2, 0, none⟩) (([[], [46, 111, 114, 103], [111, 114, 103], [46, 49], [120, 46, 111, 114, 103], [110, 101, 116]] : List (List UInt8)).length) 6 9 1 (([[], [46, 111, 114, 103], [111, 114, 103], [46, 49], [120, 46, 111, 114, 103], [110, 101, 116]] : List (List UInt8)).map Str), .blk rb 74 [.slice Ab bs.length cb, I ((q_8_6 : Nat) : Int)], oI b_8_4 ([0, 80, 443] : List Int) 3 3]) => ?_)
               refine nl (kq ⟨_, hs67, trivial⟩ ?_)
               refine tk (fuel := 7) (is := [7]) (.cons rfl (.nil)) (by kernel_rfl) (by kernel_rfl) ⟨_, hs67, trivial⟩ ?_
               refine .op trivial rfl rfl (fun wq _ => ixo r_8_6.toNat sl23 rfl (ieq (x := r_8_6) (by omega)) (by first | omega | (simp; done) | (simp; omega))) ?_
               refine .nil ?_
               refine a2 (i := 8) (j := 10) (by kernel_rfl) ?_ ?_
               · refine one_ rfl ?_
                 refine q trivial rfl rfl (ldo1n (g := I) (ys := ([0, 80, 443] : List Int)) (o := r_8_6.toNat) 0 hs67 3 rfl rfl (by first | omega | (simp; done) | (simp; omega)) one3) ?_
                 refine nl (kq ⟨_, hs67, trivial⟩ ?_)
                 refine a1 (i := 10) (by kernel_rfl) ?_
                 refine one_ rfl ?_
                 refine cl trivial rfl (pick (rb := rb) (Ab := Ab) (cb := cb) (bs := bs) (p := q_8_6) (n := 3) (w := _) (hr := (blk_heap hs67 2 rfl)) (hb := (hb.up hs67 (fun _ h => h) (fun _ h => .inl h))) (hbn := (by first | assumption | (simp; omega))) (hp := (by omega))) ?_
                 rintro _ w65 ⟨r_8_10, q_8_10, rfl, p59, p60, hs68'⟩
                 have hs68 : SH w w65 [rb] [.own Ag3 zs.length cg3 83 3 (zs.flatMap gRule), .own (some ⟨b_8_2, 0, none⟩) (([[], [46, 111, 114, 103], [111, 114, 103], [46, 49], [120, 46, 111, 114, 103], [110, 101, 116]] : List (List UInt8)).length) 6 9 1 (([[], [46, 111, 114, 103], [111, 114, 103], [46, 49], [120, 46, 111, 114, 103], [110, 101, 116]] : List (List UInt8)).map Str), oI b_8_4 ([0, 80, 443] : List Int) 3 3, .blk rb 74 [.slice Ab bs.length cb, I ((q_8_10 : Nat) : Int)]] := hs67.callM 2 rfl hs68' (by intro k hk; simp at hk; exact hk.symm)
                 clear hs68'
                 refine nl (kq ⟨_, hs68, trivial⟩ ?_)
                 refine tk (fuel := 3) (is := [11, 12]) (.cons rfl (.cons rfl (.nil))) (by kernel_rfl) (by kernel_rfl) ⟨_, hs68, trivial⟩ ?_
                 refine .op trivial rfl rfl (fun wq _ => gtr (k := .i64) (a := r_8_10) (b := 0) rfl rfl) ?_
                 refine .op trivial rfl rfl (fun wq _ => bdv (v := .agg #[Str s_8_3, I (([0, 80, 443] : List Int).getD r_8_6.toNat 0), .bool (decide ((0 : Int) < r_8_10))]) [(0, Str s_8_3), (1, I (([0, 80, 443] : List Int).getD r_8_6.toNat 0)), (2, .bool (decide ((0 : Int) < r_8_10)))] rfl (fun _ => by kernel_rfl)) ?_
                 refine .nil ?_
                 refine a1 (i := 13) (by kernel_rfl) ?_
                 refine one_ rfl ?_
                 refine bsk hs68 sl42 [.agg #[Str s_8_3, I (([0, 80, 443] : List Int).getD r_8_6.toNat 0), .bool (decide ((0 : Int) < r_8_10))]] [Str s_8_3, I (([0, 80, 443] : List Int).getD r_8_6.toNat 0), .bool (decide ((0 : Int) < r_8_10))] trivial rfl (fun b_8_13 w66 (hs69 : SH w w66 [rb] [.own Ag3 zs.length cg3 83 3 (zs.flatMap gRule), .own (some ⟨b_8_2, 0, none⟩) (([[], [46, 111, 114, 103], [111, 114, 103], [46, 49], [120, 46, 111, 114, 103], [110, 101, 116]] : List (List UInt8)).length) 6 9 1 (([[], [46, 111, 114, 103], [111, 114, 103], [46, 49], [120, 46, 111, 114, 103], [110, 101, 116]] : List (List UInt8)).map Str), oI b_8_4 ([0, 80, 443] : List Int) 3 3, .blk rb 74 [.slice Ab bs.length cb, I ((q_8_10 : Nat) : Int)], .own (some ⟨b_8_13, 0, none⟩) (([((s_8_3, ([0, 80, 443] : List Int).getD r_8_6.toNat 0, (decide ((0 : Int) < r_8_10))) : List UInt8 × Int × Bool)] : List (List UInt8 × Int × Bool)).length) 1 83 3 (([((s_8_3, ([0, 80, 443] : List Int).getD r_8_6.toNat 0, (decide ((0 : Int) < r_8_10))) : List UInt8 × Int × Bool)] : List (List UInt8 × Int × Bool)).flatMap gRule)]) => ?_)
                 refine nl (kq ⟨_, hs69, trivial⟩ ?_)
                 refine a1 (i := 14) (by kernel_rfl) ?_
                 refine one_ rfl ?_
                 refine apf (g := gRule) (ys := zs) (zs := ([((s_8_3, ([0, 80, 443] : List Int).getD r_8_6.toNat 0, (decide ((0 : Int) < r_8_10))) : List UInt8 × Int × Bool)] : List (List UInt8 × Int × Bool))) hs69 0 rfl sl42 rfl (by decide) rfl rfl (hs69.sl0 4 rfl) (fun _ => rfl) (by unfold maxLen; first | omega | (simp; done) | (simp; omega)) (by first | omega | (simp; done) | (simp; omega)) trivial rfl (fun A_8_14 c_8_14 w67 (hs70 : SH w w67 [rb] [.own (some ⟨b_8_2, 0, none⟩) (([[], [46, 111, 114, 103], [111, 114, 103], [46, 49], [120, 46, 111, 114, 103], [110, 101, 116]] : List (List UInt8)).length) 6 9 1 (([[], [46, 111, 114, 103], [111, 114, 103], [46, 49], [120, 46, 111, 114, 103], [110, 101, 116]] : List (List UInt8)).map Str), oI b_8_4 ([0, 80, 443] : List Int) 3 3, .blk rb 74 [.slice Ab bs.length cb, I ((q_8_10 : Nat) : Int)], .own (some ⟨b_8_13, 0, none⟩) (([((s_8_3, ([0, 80, 443] : List Int).getD r_8_6.toNat 0, (decide ((0 : Int) < r_8_10))) : List UInt8 × Int × Bool)] : List (List UInt8 × Int × Bool)).length) 1 83 3 (([((s_8_3, ([0, 80, 443] : List Int).getD r_8_6.toNat 0, (decide ((0 : Int) < r_8_10))) : List UInt8 × Int × Bool)] : List (List UInt8 × Int × Bool)).flatMap gRule), .own A_8_14 ((zs ++ ([((s_8_3, ([0, 80, 443] : List Int).getD r_8_6.toNat 0, (decide ((0 : Int) < r_8_10))) : List UInt8 × Int × Bool)] : List (List UInt8 × Int × Bool))).length) c_8_14 83 3 ((zs ++ ([((s_8_3, ([0, 80, 443] : List Int).getD r_8_6.toNat 0, (decide ((0 : Int) < r_8_10))) : List UInt8 × Int × Bool)] : List (List UInt8 × Int × Bool))).flatMap gRule)]) => ?_)
                 refine nl (kq ⟨_, hs70, trivial⟩ ?_)
                 refine tk (fuel := 0) (is := [15]) (.cons rfl (.nil)) (by kernel_rfl) (by kernel_rfl) ⟨_, hs70, trivial⟩ ?_
                 refine .op trivial rfl rfl (fun wq _ => asg (v := .slice A_8_14 ((zs ++ ([((s_8_3, ([0, 80, 443] : List Int).getD r_8_6.toNat 0, (decide ((0 : Int) < r_8_10))) : List UInt8 × Int × Bool)] : List (List UInt8 × Int × Bool))).length) c_8_14) rfl) ?_
                 refine .nil ?_
                 refine ad (by kernel_rfl) ?_
                 exact ⟨b_8_2, s_8_3, q_8_3, b_8_4, r_8_6, q_8_6, r_8_10, q_8_10, b_8_13, A_8_14, c_8_14, ⟨rfl, rfl, rfl, rfl, trivial⟩, p49, p50, p57, p58, p59, p60, hs70⟩
               · refine one_ rfl ?_
                 refine cl trivial rfl (pick (rb := rb) (Ab := Ab) (cb := cb) (bs := bs) (p := q_8_6) (n := 3) (w := _) (hr := (blk_heap hs67 2 rfl)) (hb := (hb.up hs67 (fun _ h => h) (fun _ h => .inl h))) (hbn := (by first | assumption | (simp; omega))) (hp := (by omega))) ?_
                 rintro _ w68 ⟨r_8_10, q_8_10, rfl, p61, p62, hs71'⟩
                 have hs71 : SH w w68 [rb] [.own Ag3 zs.length cg3 83 3 (zs.flatMap gRule), .own (some ⟨b_8_2, 0, none⟩) (([[], [46, 111, 114, 103], [111, 114, 103], [46, 49], [120, 46, 111, 114, 103], [110, 101, 116]] : List (List UInt8)).length) 6 9 1 (([[], [46, 111, 114, 103], [111, 114, 103], [46, 49], [120, 46, 111, 114, 103], [110, 101, 116]] : List (List UInt8)).map Str), oI b_8_4 ([0, 80, 443] : List Int) 3 3, .blk rb 74 [.slice Ab bs.length cb, I ((q_8_10 : Nat) : Int)]] := hs67.callM 2 rfl hs71' (by intro k hk; simp at hk; exact hk.symm)
                 clear hs71'
                 refine nl (kq ⟨_, hs71, trivial⟩ ?_)
                 refine tk (fuel := 5) (is := [11]) (.cons rfl (.nil)) (by kernel_rfl) (by kernel_rfl) ⟨_, hs71, trivial⟩ ?_
                 refine .op trivial rfl rfl (fun wq _ => gtr (k := .i64) (a := r_8_10) (b := 0) rfl rfl) ?_
                 refine .nil ?_
                 refine a1 (i := 8) (by kernel_rfl) ?_
                 refine one_ rfl ?_
                 refine q trivial rfl rfl (ldo1n (g := I) (ys := ([0, 80, 443] : List Int)) (o := r_8_6.toNat) 0 hs71 2 rfl rfl (by first | omega | (simp; done) | (simp; omega)) one3) ?_
                 refine nl (kq ⟨_, hs71, trivial⟩ ?_)
                 refine tk (fuel := 3) (is := [12]) (.cons rfl (.nil)) (by kernel_rfl) (by kernel_rfl) ⟨_, hs71, trivial⟩ ?_
                 refine .op trivial rfl rfl (fun wq _ => bdv (v := .agg #[Str s_8_3, I (([0, 80, 443] : List Int).getD r_8_6.toNat 0), .bool (decide ((0 : Int) < r_8_10))]) [(0, Str s_8_3), (1, I (([0, 80, 443] : List Int).getD r_8_6.toNat 0)), (2, .bool (decide ((0 : Int) < r_8_10)))] rfl (fun _ => by kernel_rfl)) ?_
                 refine .nil ?_
                 refine a1 (i := 13) (by kernel_rfl) ?_
                 refine one_ rfl ?_
                 refine bsk hs71 sl42 [.agg #[Str s_8_3, I (([0, 80, 443] : List Int).getD r_8_6.toNat 0), .bool (decide ((0 : Int) < r_8_10))]] [Str s_8_3, I (([0, 80, 443] : List Int).getD r_8_6.toNat 0), .bool (decide ((0 : Int) < r_8_10))] trivial rfl (fun b_8_13 w69 (hs72 : SH w w69 [rb] [.own Ag3 zs.length cg3 83 3 (zs.flatMap gRule), .own (some ⟨b_8_2, 0, none⟩) (([[], [46, 111, 114, 103], [111, 114, 103], [46, 49], [120, 46, 111, 114, 103], [110, 101, 116]] : List (List UInt8)).length) 6 9 1 (([[], [46, 111, 114, 103], [111, 114, 103], [46, 49], [120, 46, 111, 114, 103], [110, 101, 116]] : List (List UInt8)).map Str), oI b_8_4 ([0, 80, 443] : List Int) 3 3, .blk rb 74 [.slice Ab bs.length cb, I ((q_8_10 : Nat) : Int)], .own (some ⟨b_8_13, 0, none⟩) (([((s_8_3, ([0, 80, 443] : List Int).getD r_8_6.toNat 0, (decide ((0 : Int) < r_8_10))) : List UInt8 × Int × Bool)] : List (List UInt8 × Int × Bool)).length) 1 83 3 (([((s_8_3, ([0, 80, 443] : List Int).getD r_8_6.toNat 0, (decide ((0 : Int) < r_8_10))) : List UInt8 × Int × Bool)] : List (List UInt8 × Int × Bool)).flatMap gRule)]) => ?_)
                 refine nl (kq ⟨_, hs72, trivial⟩ ?_)
                 refine a1 (i := 14) (by kernel_rfl) ?_
                 refine one_ rfl ?_
                 refine apf (g := gRule) (ys := zs) (zs := ([((s_8_3, ([0, 80, 443] : List Int).getD r_8_6.toNat 0, (decide ((0 : Int) < r_8_10))) : List UInt8 × Int × Bool)] : List (List UInt8 × Int × Bool))) hs72 0 rfl sl42 rfl (by decide) rfl rfl (hs72.sl0 4 rfl) (fun _ => rfl) (by unfold maxLen; first | omega | (simp; done) | (simp; omega)) (by first | omega | (simp; done) | (simp; omega)) trivial rfl (fun A_8_14 c_8_14 w70 (hs73 : SH w w70 [rb] [.own (some ⟨b_8_2, 0, none⟩) (([[], [46, 111, 114, 103], [111, 114, 103], [46, 49], [120, 46, 111, 114, 103], [110, 101, 116]] : List (List UInt8)).length) 6 9 1 (([[], [46, 111, 114, 103], [111, 114, 103], [46, 49], [120, 46, 111, 114, 103], [110, 101, 116]] : List (List UInt8)).map Str), oI b_8_4 ([0, 80, 443] : List Int) 3 3, .blk rb 74 [.slice Ab bs.length cb, I ((q_8_10 : Nat) : Int)], .own (some ⟨b_8_13, 0, none⟩) (([((s_8_3, ([0, 80, 443] : List Int).getD r_8_6.toNat 0, (decide ((0 : Int) < r_8_10))) : List UInt8 × Int × Bool)] : List (List UInt8 × Int × Bool)).length) 1 83 3 (([((s_8_3, ([0, 80, 443] : List Int).getD r_8_6.toNat 0, (decide ((0 : Int) < r_8_10))) : List UInt8 × Int × Bool)] : List (List UInt8 × Int × Bool)).flatMap gRule), .own A_8_14 ((zs ++ ([((s_8_3, ([0, 80, 443] : List Int).getD r_8_6.toNat 0, (decide ((0 : Int) < r_8_10))) : List UInt8 × Int × Bool)] : List (List UInt8 × Int × Bool))).length) c_8_14 83 3 ((zs ++ ([((s_8_3, ([0, 80, 443] : List Int).getD r_8_6.toNat 0, (decide ((0 : Int) < r_8_10))) : List UInt8 × Int × Bool)] : List (List UInt8 × Int × Bool))).flatMap gRule)]) => ?_)
                 refine nl (kq ⟨_, hs73, trivial⟩ ?_)
                 refine tk (fuel := 0) (is := [15]) (.cons rfl (.nil)) (by kernel_rfl) (by kernel_rfl) ⟨_, hs73, trivial⟩ ?_
                 refine .op trivial rfl rfl (fun wq _ => asg (v := .slice A_8_14 ((zs ++ ([((s_8_3, ([0, 80, 443] : List Int).getD r_8_6.toNat 0, (decide ((0 : Int) < r_8_10))) : List UInt8 × Int × Bool)] : List (List UInt8 × Int × Bool))).length) c_8_14) rfl) ?_
                 refine .nil ?_
                 refine ad (by kernel_rfl) ?_
                 exact ⟨b_8_2, s_8_3, q_8_3, b_8_4, r_8_6, q_8_6, r_8_10, q_8_10, b_8_13, A_8_14, c_8_14, ⟨rfl, rfl, rfl, rfl, trivial⟩, p49, p50, p57, p58, p61, p62, hs73⟩
             · refine one_ rfl ?_
               refine cl trivial rfl (pick (rb := rb) (Ab := Ab) (cb := cb) (bs := bs) (p := q_8_6) (n := 3) (w := _) (hr := (blk_heap hs66 2 rfl)) (hb := (hb.up hs66 (fun _ h => h) (fun _ h => .inl h))) (hbn := (by first | assumption | (simp; omega))) (hp := (by omega))) ?_
               rintro _ w71 ⟨r_8_10, q_8_10, rfl, p63, p64, hs74'⟩
               have hs74 : SH w w71 [rb] [.own Ag3 zs.length cg3 83 3 (zs.flatMap gRule), .own (some ⟨b_8_2, 0, none⟩) (([[], [46, 111, 114, 103], [111, 114, 103], [46, 49], [120, 46, 111, 114, 103], [110, 101, 116]] : List (List UInt8)).length) 6 9 1 (([[], [46, 111, 114, 103], [111, 114, 103], [46, 49], [120, 46, 111, 114, 103], [110, 101, 116]] : List (List UInt8)).map Str), .blk rb 74 [.slice Ab bs.length cb, I ((q_8_10 : Nat) : Int)]] := hs66.callM 2 rfl hs74' (by intro k hk; simp at hk; exact hk.symm)
               clear hs74'
               refine nl (kq ⟨_, hs74, trivial⟩ ?_)
               refine tk (fuel := 7) (is := [11]) (.cons rfl (.nil)) (by kernel_rfl) (by kernel_rfl) ⟨_, hs74, trivial⟩ ?_
               refine .op trivial rfl rfl (fun wq _ => gtr (k := .i64) (a := r_8_10) (b := 0) rfl rfl) ?_
               refine .nil ?_
               refine a1 (i := 4) (by kernel_rfl) ?_
               refine one_ rfl ?_
               refine bsk hs74 sl23 [I 0, I 80, I 443] [I 0, I 80, I 443] trivial rfl (fun b_8_4 w72 (hs75 : SH w w72 [rb] [.own Ag3 zs.length cg3 83 3 (zs.flatMap gRule), .own (some ⟨b_8_2, 0, none⟩) (([[], [46, 111, 114, 103], [111, 114, 103], [46, 49], [120, 46, 111, 114, 103], [110, 101, 116]] : List (List UInt8)).length) 6 9 1 (([[], [46, 111, 114, 103], [111, 114, 103], [46, 49], [120, 46, 111, 114, 103], [110, 101, 116]] : List (List UInt8)).map Str), .blk rb 74 [.slice Ab bs.length cb, I ((q_8_10 : Nat) : Int)], oI b_8_4 ([0, 80, 443] : List Int) 3 3]) => ?_)
               refine nl (kq ⟨_, hs75, trivial⟩ ?_)
               refine tk (fuel := 5) (is := [7]) (.cons rfl (.nil)) (by kernel_rfl) (by kernel_rfl) ⟨_, hs75, trivial⟩ ?_
               refine .op trivial rfl rfl (fun wq _ => ixo r_8_6.toNat sl23 rfl (ieq (x := r_8_6) (by omega)) (by first | omega | (simp; done) | (simp; omega))) ?_
               refine .nil ?_
               refine a1 (i := 8) (by kernel_rfl) ?_
               refine one_ rfl ?_
               refine q trivial rfl rfl (ldo1n (g := I) (ys := ([0, 80, 443] : List Int)) (o := r_8_6.toNat) 0 hs75 3 rfl rfl (by first | omega | (simp; done) | (simp; omega)) one3) ?_
               refine nl (kq ⟨_, hs75, trivial⟩ ?_)
               refine tk (fuel := 3) (is := [12]) (.cons rfl (.nil)) (by kernel_rfl) (by kernel_rfl) ⟨_, hs75, trivial⟩ ?_
               refine .op trivial rfl rfl (fun wq _ => bdv (v := .agg #[Str s_8_3, I (([0, 80, 443] : List Int).getD r_8_6.toNat 0), .bool (decide ((0 : Int) < r_8_10))]) [(0, Str s_8_3), (1, I (([0, 80, 443] : List Int).getD r_8_6.toNat 0)), (2, .bool (decide ((0 : Int) < r_8_10)))] rfl (fun _ => by kernel_rfl)) ?_
               refine .nil ?_
               refine a1 (i := 13) (by kernel_rfl) ?_
               refine one_ rfl ?_
               refine bsk hs75 sl42 [.agg #[Str s_8_3, I (([0, 80, 443] : List Int).getD r_8_6.toNat 0), .bool (decide ((0 : Int) < r_8_10))]] [Str s_8_3, I (([0, 80, 443] : List Int).getD r_8_6.toNat 0), .bool (decide ((0 : Int) < r_8_10))] trivial rfl (fun b_8_13 w73 (hs76 : SH w w73 [rb] [.own Ag3 zs.length cg3 83 3 (zs.flatMap gRule), .own (some ⟨b_8_2, 0, none⟩) (([[], [46, 111, 114, 103], [111, 114, 103], [46, 49], [120, 46, 111, 114, 103], [110, 101, 116]] : List (List UInt8)).length) 6 9 1 (([[], [46, 111, 114, 103], [111, 114, 103], [46, 49], [120, 46, 111, 114, 103], [110, 101, 116]] : List (List UInt8)).map Str), .blk rb 74 [.slice Ab bs.length cb, I ((q_8_10 : Nat) : Int)], oI b_8_4 ([0, 80, 443] : List Int) 3 3, .own (some ⟨b_8_13, 0, none⟩) (([((s_8_3, ([0, 80, 443] : List Int).getD r_8_6.toNat 0, (decide ((0 : Int) < r_8_10))) : List UInt8 × Int × Bool)] : List (List UInt8 × Int × Bool)).length) 1 83 3 (([((s_8_3, ([0, 80, 443] : List Int).getD r_8_6.toNat 0, (decide ((0 : Int) < r_8_10))) : List UInt8 × Int × Bool)] : List (List UInt8 × Int × Bool)).flatMap gRule)]) => ?_)
               refine nl (kq ⟨_, hs76, trivial⟩ ?_)
               refine a1 (i := 14) (by kernel_rfl) ?_
               refine one_ rfl ?_
               refine apf (g := gRule) (ys := zs) (zs := ([((s_8_3, ([0, 80, 443] : List Int).getD r_8_6.toNat 0, (decide ((0 : Int) < r_8_10))) : List UInt8 × Int × Bool)] : List (List UInt8 × Int × Bool))) hs76 0 rfl sl42 rfl (by decide) rfl rfl (hs76.sl0 4 rfl) (fun _ => rfl) (by unfold maxLen; first | omega | (simp; done) | (simp; omega)) (by first | omega | (simp; done) | (simp; omega)) trivial rfl (fun A_8_14 c_8_14 w74 (hs77 : SH w w74 [rb] [.own (some ⟨b_8_2, 0, none⟩) (([[], [46, 111, 114, 103], [111, 114, 103], [46, 49], [120, 46, 111, 114, 103], [110, 101, 116]] : List (List UInt8)).length) 6 9 1 (([[], [46, 111, 114, 103], [111, 114, 103], [46, 49], [120, 46, 111, 114, 103], [110, 101, 116]] : List (List UInt8)).map Str), .blk rb 74 [.slice Ab bs.length cb, I ((q_8_10 : Nat) : Int)], oI b_8_4 ([0, 80, 443] : List Int) 3 3, .own (some ⟨b_8_13, 0, none⟩) (([((s_8_3, ([0, 80, 443] : List Int).getD r_8_6.toNat 0, (decide ((0 : Int) < r_8_10))) : List UInt8 × Int × Bool)] : List (List UInt8 × Int × Bool)).length) 1 83 3 (([((s_8_3, ([0, 80, 443] : List Int).getD r_8_6.toNat 0, (decide ((0 : Int) < r_8_10))) : List UInt8 × Int × Bool)] : List (List UInt8 × Int × Bool)).flatMap gRule), .own A_8_14 ((zs ++ ([((s_8_3, ([0, 80, 443] : List Int).getD r_8_6.toNat 0, (decide ((0 : Int) < r_8_10))) : List UInt8 × Int × Bool)] : List (List UInt8 × Int × Bool))).length) c_8_14 83 3 ((zs ++ ([((s_8_3, ([0, 80, 443] : List Int).getD r_8_6.toNat 0, (decide ((0 : Int) < r_8_10))) : List UInt8 × Int × Bool)] : List (List UInt8 × Int × Bool))).flatMap gRule)]) => ?_)
               refine nl (kq ⟨_, hs77, trivial⟩ ?_)
               refine tk (fuel := 0) (is := [15]) (.cons rfl (.nil)) (by kernel_rfl) (by kernel_rfl) ⟨_, hs77, trivial⟩ ?_
               refine .op trivial rfl rfl (fun wq _ => asg (v := .slice A_8_14 ((zs ++ ([((s_8_3, ([0, 80, 443] : List Int).getD r_8_6.toNat 0, (decide ((0 : Int) < r_8_10))) : List UInt8 × Int × Bool)] : List (List UInt8 × Int × Bool))).length) c_8_14) rfl) ?_
               refine .nil ?_
               refine ad (by kernel_rfl) ?_
               exact ⟨b_8_2, s_8_3, q_8_3, b_8_4, r_8_6, q_8_6, r_8_10, q_8_10, b_8_13, A_8_14, c_8_14, ⟨rfl, rfl, rfl, rfl, trivial⟩, p49, p50, p57, p58, p63, p64, (hs77.pick [0, 2, 1, 3, 4] rfl (by decide))⟩
         · refine one_ rfl ?_
           refine bsk hs56 sl23 [I 0, I 80, I 443] [I 0, I 80, I 443] trivial rfl (fun b_8_4 w75 (hs78 : SH w w75 [rb] [.own Ag3 zs.length cg3 83 3 (zs.flatMap gRule), .blk rb 74 [.slice Ab bs.length cb, I ((q0 : Nat) : Int)], .own (some ⟨b_8_2, 0, none⟩) (([[], [46, 111, 114, 103], [111, 114, 103], [46, 49], [120, 46, 111, 114, 103], [110, 101, 116]] : List (List UInt8)).length) 6 9 1 (([[], [46, 111, 114, 103], [111, 114, 103], [46, 49], [120, 46, 111, 114, 103], [110, 101, 116]] : List (List UInt8)).map Str), oI b_8_4 ([0, 80, 443] : List Int) 3 3]) => ?_)
           refine nl (kq ⟨_, hs78, trivial⟩ ?_)
           refine a1 (i := 3) (by kernel_rfl) ?_
           refine one_ rfl ?_
           refine cl trivial rfl (rdOf (rb := rb) (Ab := Ab) (cb := cb) (bs := bs) (p := q0) (Ass := (some ⟨b_8_2, 0, none⟩)) (css := 6) (ss := ([[], [46, 111, 114, 103], [111, 114, 103], [46, 49], [120, 46, 111, 114, 103], [110, 101, 116]] : List (List UInt8))) (w := _) (hr := (blk_heap hs78 1 rfl)) (hb := (hb.up hs78 (fun _ h => h) (fun _ h => .inl h))) (hbn := (by first | assumption | (simp; omega))) (hp := (by omega)) (hss := (hs78.sl 2 rfl (by intro k hk; simp at hk; subst hk; exact ⟨_, memi 1 rfl, rfl⟩))) (hne := (by first | omega | assumption | (simp; done) | (simp; omega)))) ?_
           rintro _ w76 ⟨s_8_3, q_8_3, rfl, p65, p66, hs79'⟩
           have hs79 : SH w w76 [rb] [.own Ag3 zs.length cg3 83 3 (zs.flatMap gRule), .own (some ⟨b_8_2, 0, none⟩) (([[], [46, 111, 114, 103], [111, 114, 103], [46, 49], [120, 46, 111, 114, 103], [110, 101, 116]] : List (List UInt8)).length) 6 9 1 (([[], [46, 111, 114, 103], [111, 114, 103], [46, 49], [120, 46, 111, 114, 103], [110, 101, 116]] : List (List UInt8)).map Str), oI b_8_4 ([0, 80, 443] : List Int) 3 3, .blk rb 74 [.slice Ab bs.length cb, I ((q_8_3 : Nat) : Int)]] := hs78.callM 1 rfl hs79' (by intro k hk; simp at hk; exact hk.symm)
           clear hs79'
           refine nl (kq ⟨_, hs79, trivial⟩ ?_)
           refine a1 (i := 6) (by kernel_rfl) ?_
           refine one_ rfl ?_
           refine cl trivial rfl (pick (rb := rb) (Ab := Ab) (cb := cb) (bs := bs) (p := q_8_3) (n := 3) (w := _) (hr := (blk_heap hs79 3 rfl)) (hb := (hb.up hs79 (fun _ h => h) (fun _ h => .inl h))) (hbn := (by first | assumption | (simp; omega))) (hp := (by omega))) ?_
           rintro _ w77 ⟨r_8_6, q_8_6, rfl, p67, p68, hs80'⟩
           have hs80 : SH w w77 [rb] [.own Ag3 zs.length cg3 83 3 (zs.flatMap gRule), .own (some ⟨b_8_2, 0, none⟩) (([[], [46, 111, 114, 103], [111, 114, 103], [46, 49], [120, 46, 111, 114, 103], [110, 101, 116]] : List (List UInt8)).length) 6 9 1 (([[], [46, 111, 114, 103], [111, 114, 103], [46, 49], [120, 46, 111, 114, 103], [110, 101, 116]] : List (List UInt8)).map Str), oI b_8_4 ([0, 80, 443] : List Int) 3 3, .blk rb 74 [.slice Ab bs.length cb, I ((q_8_6 : Nat) : Int)]] := hs79.callM 3 rfl hs80' (by intro k hk; simp at hk; exact hk.symm)
           clear hs80'
           refine nl (kq ⟨_, hs80, trivial⟩ ?_)
           refine tk (fuel := 7) (is := [7]) (.cons rfl (.nil)) (by kernel_rfl) (by kernel_rfl) ⟨_, hs80, trivial⟩ ?_
           refine .op trivial rfl rfl (fun wq _ => ixo r_8_6.toNat sl23 rfl (ieq (x := r_8_6) (by omega)) (by first | omega | (simp; done) | (simp; omega))) ?_
           refine .nil ?_
           refine a2 (i := 8) (j := 10) (by kernel_rfl) ?_ ?_
           · refine one_ rfl ?_
             refine q trivial rfl rfl (ldo1n (g := I) (ys := ([0, 80, 443] : List Int)) (o := r_8_6.toNat) 0 hs80 2 rfl rfl (by first | omega | (simp; done) | (simp; omega)) one3) ?_
             refine nl (kq ⟨_, hs80, trivial⟩ ?_)
             refine a1 (i := 10) (by kernel_rfl) ?_
             refine one_ rfl ?_
             refine cl trivial rfl (pick (rb := rb) (Ab := Ab) (cb := cb) (bs := bs) (p := q_8_6) (n := 3) (w := _) (hr := (blk_heap hs80 3 rfl)) (hb := (hb.up hs80 (fun _ h => h) (fun _ h => .inl h))) (hbn := (by first | assumption | (simp; omega))) (hp := (by omega))) ?_
             rintro _ w78 ⟨r_8_10, q_8_10, rfl, p69, p70, hs81'⟩
             have hs81 : SH w w78 [rb] [.own Ag3 zs.length cg3 83 3 (zs.flatMap gRule), .own (some ⟨b_8_2, 0, none⟩) (([[], [46, 111, 114, 103], [111, 114, 103], [46, 49], [120, 46, 111, 114, 103], [110, 101, 116]] : List (List UInt8)).length) 6 9 1 (([[], [46, 111, 114, 103], [111, 114, 103], [46, 49], [120, 46, 111, 114, 103], [110, 101, 116]] : List (List UInt8)).map Str), oI b_8_4 ([0, 80, 443] : List Int) 3 3, .blk rb 74 [.slice Ab bs.length cb, I ((q_8_10 : Nat) : Int)]] := hs80.callM 3 rfl hs81' (by intro k hk; simp at hk; exact hk.symm)
             clear hs81'
             refine nl (kq ⟨_, hs81, trivial⟩ ?_)
             refine tk (fuel := 3) (is := [11, 12]) (.cons rfl (.cons rfl (.nil))) (by kernel_rfl) (by kernel_rfl) ⟨_, hs81, trivial⟩ ?_
             refine .op trivial rfl rfl (fun wq _ => gtr (k := .i64) (a := r_8_10) (b := 0) rfl rfl) ?_
             refine .op trivial rfl rfl (fun wq _ => bdv (v := .agg #[Str s_8_3, I (([0, 80, 443] : List Int).getD r_8_6.toNat 0), .bool (decide ((0 : Int) < r_8_10))]) [(0, Str s_8_3), (1, I (([0, 80, 443] : List Int).getD r_8_6.toNat 0)), (2, .bool (decide ((0 : Int) < r_8_10)))] rfl (fun _ => by kernel_rfl)) ?_
             refine .nil ?_
             refine a1 (i := 13) (by kernel_rfl) ?_
             refine one_ rfl ?_
             refine bsk hs81 sl42 [.agg #[Str s_8_3, I (([0, 80, 443] : List Int).getD r_8_6.toNat 0), .bool (decide ((0 : Int) < r_8_10))]] [Str s_8_3, I (([0, 80, 443] : List Int).getD r_8_6.toNat 0), .bool (decide ((0 : Int) < r_8_10))] trivial rfl (fun b_8_13 w79 (hs82 : SH w w79 [rb] [.own Ag3 zs.length cg3 83 3 (zs.flatMap gRule), .own (some ⟨b_8_2, 0, none⟩) (([[], [46, 111, 114, 103], [111, 114, 103], [46, 49], [120, 46, 111, 114, 103], [110, 101, 116]] : List (List UInt8)).length) 6 9 1 (([[], [46, 111, 114, 103], [111, 114, 103], [46, 49], [120, 46, 111, 114, 103], [110, 101, 116]] : List (List UInt8)).map Str), oI b_8_4 ([0, 80, 443] : List Int) 3 3, .blk rb 74 [.slice Ab bs.length cb, I ((q_8_10 : Nat) : Int)], .own (some ⟨b_8_13, 0, none⟩) (([((s_8_3, ([0, 80, 443] : List Int).getD r_8_6.toNat 0, (decide ((0 : Int) < r_8_10))) : List UInt8 × Int × Bool)] : List (List UInt8 × Int × Bool)).length) 1 83 3 (([((s_8_3, ([0, 80, 443] : List Int).getD r_8_6.toNat 0, (decide ((0 : Int) < r_8_10))) : List UInt8 × Int × Bool)] : List (List UInt8 × Int × Bool)).flatMap gRule)]) => ?_)
             refine nl (kq ⟨_, hs82, trivial⟩ ?_)
             refine a1 (i := 14) (by kernel_rfl) ?_
             refine one_ rfl ?_
             refine apf (g := gRule) (ys := zs) (zs := ([((s_8_3, ([0, 80, 443] : List Int).getD r_8_6.toNat 0, (decide ((0 : Int) < r_8_10))) : List UInt8 × Int × Bool)] : List (List UInt8 × Int × Bool))) hs82 0 rfl sl42 rfl (by decide) rfl rfl (hs82.sl0 4 rfl) (fun _ => rfl) (by unfold maxLen; first | omega | (simp; done) | (simp; omega)) (by first | omega | (simp; done) | (simp; omega)) trivial rfl (fun A_8_14 c_8_14 w80 (hs83 : SH w w80 [rb] [.own (some ⟨b_8_2, 0, none⟩) (([[], [46, 111, 114, 103], [111, 114, 103], [46, 49], [120, 46, 111, 114, 103], [110, 101, 116]] : List (List UInt8)).length) 6 9 1 (([[], [46, 111, 114, 103], [111, 114, 103], [46, 49], [120, 46, 111, 114, 103], [110, 101, 116]] : List (List UInt8)).map Str), oI b_8_4 ([0, 80, 443] : List Int) 3 3, .blk rb 74 [.slice Ab bs.length cb, I ((q_8_10 : Nat) : Int)], .own (some ⟨b_8_13, 0, none⟩) (([((s_8_3, ([0, 80, 443] : List Int).getD r_8_6.toNat 0, (decide ((0 : Int) < r_8_10))) : List UInt8 × Int × Bool)] : List (List UInt8 × Int × Bool)).length) 1 83 3 (([((s_8_3, ([0, 80, 443] : List Int).getD r_8_6.toNat 0, (decide ((0 : Int) < r_8_10))) : List UInt8 × Int × Bool)] : List (List UInt8 × Int × Bool)).flatMap gRule), .own A_8_14 ((zs ++ ([((s_8_3, ([0, 80, 443] : List Int).getD r_8_6.toNat 0, (decide ((0 : Int) < r_8_10))) : List UInt8 × Int × Bool)] : List (List UInt8 × Int × Bool))).length) c_8_14 83 3 ((zs ++ ([((s_8_3, ([0, 80, 443] : List Int).getD r_8_6.toNat 0, (decide ((0 : Int) < r_8_10))) : List UInt8 × Int × Bool)] : List (List UInt8 × Int × Bool))).flatMap gRule)]) => ?_)
             refine nl (kq ⟨_, hs83, trivial⟩ ?_)
             refine tk (fuel := 0) (is := [15]) (.cons rfl (.nil)) (by kernel_rfl) (by kernel_rfl) ⟨_, hs83, trivial⟩ ?_
             refine .op trivial rfl rfl (fun wq _ => asg (v := .slice A_8_14 ((zs ++ ([((s_8_3, ([0, 80, 443] : List Int).getD r_8_6.toNat 0, (decide ((0 : Int) < r_8_10))) : List UInt8 × Int × Bool)] : List (List UInt8 × Int × Bool))).length) c_8_14) rfl) ?_
             refine .nil ?_
             refine ad (by kernel_rfl) ?_
             exact ⟨b_8_2, s_8_3, q_8_3, b_8_4, r_8_6, q_8_6, r_8_10, q_8_10, b_8_13, A_8_14, c_8_14, ⟨rfl, rfl, rfl, rfl, trivial⟩, p65, p66, p67, p68, p69, p70, hs83⟩
           · refine one_ rfl ?_
             refine cl trivial rfl (pick (rb := rb) (Ab := Ab) (cb := cb) (bs := bs) (p := q_8_6) (n := 3) (w := _) (hr := (blk_heap hs80 3 rfl)) (hb := (hb.up hs80 (fun _ h => h) (fun _ h => .inl h))) (hbn := (by first | assumption | (simp; omega))) (hp := (by omega))) ?_
             rintro _ w81 ⟨r_8_10, q_8_10, rfl, p71, p72, hs84'⟩
             have hs84 : SH w w81 [rb] [.own Ag3 zs.length cg3 83 3 (zs.flatMap gRule), .own (some ⟨b_8_2, 0, none⟩) (([[], [46, 111, 114, 103], [111, 114, 103], [46, 49], [120, 46, 111, 114, 103], [110, 101, 116]] : List (List UInt8)).length) 6 9 1 (([[], [46, 111, 114, 103], [111, 114, 103], [46, 49], [120, 46, 111, 114, 103], [110, 101, 116]] : List (List UInt8)).map Str), oI b_8_4 ([0, 80, 443] : List Int) 3 3, .blk rb 74 [.slice Ab bs.length cb, I ((q_8_10 : Nat) : Int)]] := hs80.callM 3 rfl hs84' (by intro k hk; simp at hk; exact hk.symm)
             clear hs84'
             refine nl (kq ⟨_, hs84, trivial⟩ ?_)
             refine tk (fuel := 5) (is := [11]) (.cons rfl (.nil)) (by kernel_rfl) (by kernel_rfl) ⟨_, hs84, trivial⟩ ?_
             refine .op trivial rfl rfl (fun wq _ => gtr (k := .i64) (a := r_8_10) (b := 0) rfl rfl) ?_
             refine .nil ?_
             refine a1 (i := 8) (by kernel_rfl) ?_
             refine one_ rfl ?_
             refine q trivial rfl rfl (ldo1n (g := I) (ys := ([0, 80, 443] : List Int)) (o := r_8_6.toNat) 0 hs84 2 rfl rfl (by first | omega | (simp; done) | (simp; omega)) one3) ?_
             refine nl (kq ⟨_, hs84, trivial⟩ ?_)
             refine tk (fuel := 3) (is := [12]) (.cons rfl (.nil)) (by kernel_rfl) (by kernel_rfl) ⟨_, hs84, trivial⟩ ?_
             refine .op trivial rfl rfl (fun wq _ => bdv (v := .agg #[Str s_8_3, I (([0, 80, 443] : List Int).getD r_8_6.toNat 0), .bool (decide ((0 : Int) < r_8_10))]) [(0, Str s_8_3), (1, I (([0, 80, 443] : List Int).getD r_8_6.toNat 0)), (2, .bool (decide ((0 : Int) < r_8_10)))] rfl (fun _ => by kernel_rfl)) ?_
             refine .nil ?_
             refine a1 (i := 13) (by kernel_rfl) ?_
             refine one_ rfl ?_
             refine bsk hs84 sl42 [.agg #[Str s_8_3, I (([0, 80, 443] : List Int).getD r_8_6.toNat 0), .bool (decide ((0 : Int) < r_8_10))]] [Str s_8_3, I (([0, 80, 443] : List Int).getD r_8_6.toNat 0), .bool (decide ((0 : Int) < r_8_10))] trivial rfl (fun b_8_13 w82 (hs85 : SH w w82 [rb] [.own Ag3 zs.length cg3 83 3 (zs.flatMap gRule), .own (some ⟨b_8_2, 0, none⟩) (([[], [46, 111, 114, 103], [111, 114, 103], [46, 49], [120, 46, 111, 114, 103], [110, 101, 116]] : List (List UInt8)).length) 6 9 1 (([[], [46, 111, 114, 103], [111, 114, 103], [46, 49], [120, 46, 111, 114, 103], [110, 101, 116]] : List (List UInt8)).map Str), oI b_8_4 ([0, 80, 443] : List Int) 3 3, .blk rb 74 [.slice Ab bs.length cb, I ((q_8_10 : Nat) : Int)], .own (some ⟨b_8_13, 0, none⟩) (([((s_8_3, ([0, 80, 443] : List Int).getD r_8_6.toNat 0, (decide ((0 : Int) < r_8_10))) : List UInt8 × Int × Bool)] : List (List UInt8 × Int × Bool)).length) 1 83 3 (([((s_8_3, ([0, 80, 443] : List Int).getD r_8_6.toNat 0, (decide ((0 : Int) < r_8_10))) : List UInt8 × Int × Bool)] : List (List UInt8 × Int × Bool)).flatMap gRule)]) => ?_)
             refine nl (kq ⟨_, hs85, trivial⟩ ?_)
             refine a1 (i := 14) (by kernel_rfl) ?_
             refine one_ rfl ?_
             refine apf (g := gRule) (ys := zs) (zs := ([((s_8_3, ([0, 80, 443] : List Int).getD r_8_6.toNat 0, (decide ((0 : Int) < r_8_10))) : List UInt8 × Int × Bool)] : List (List UInt8 × Int × Bool))) hs85 0 rfl sl42 rfl (by decide) rfl rfl (hs85.sl0 4 rfl) (fun _ => rfl) (by unfold maxLen; first | omega | (simp; done) | (simp; omega)) (by first | omega | (simp; done) | (simp; omega)) trivial rfl (fun A_8_14 c_8_14 w83 (hs86 : SH w w83 [rb] [.own (some ⟨b_8_2, 0, none⟩) (([[], [46, 111, 114, 103], [111, 114, 103], [46, 49], [120, 46, 111, 114, 103], [110, 101, 116]] : List (List UInt8)).length) 6 9 1 (([[], [46, 111, 114, 103], [111, 114, 103], [46, 49], [120, 46, 111, 114, 103], [110, 101, 116]] : List (List UInt8)).map Str), oI b_8_4 ([0, 80, 443] : List Int) 3 3, .blk rb 74 [.slice Ab bs.length cb, I ((q_8_10 : Nat) : Int)], .own (some ⟨b_8_13, 0, none⟩) (([((s_8_3, ([0, 80, 443] : List Int).getD r_8_6.toNat 0, (decide ((0 : Int) < r_8_10))) : List UInt8 × Int × Bool)] : List (List UInt8 × Int × Bool)).length) 1 83 3 (([((s_8_3, ([0, 80, 443] : List Int).getD r_8_6.toNat 0, (decide ((0 : Int) < r_8_10))) : List UInt8 × Int × Bool)] : List (List UInt8 × Int × Bool)).flatMap gRule), .own A_8_14 ((zs ++ ([((s_8_3, ([0, 80, 443] : List Int).getD r_8_6.toNat 0, (decide ((0 : Int) < r_8_10))) : List UInt8 × Int × Bool)] : List (List UInt8 × Int × Bool))).length) c_8_14 83 3 ((zs ++ ([((s_8_3, ([0, 80, 443] : List Int).getD r_8_6.toNat 0, (decide ((0 : Int) < r_8_10))) : List UInt8 × Int × Bool)] : List (List UInt8 × Int × Bool))).flatMap gRule)]) => ?_)
             refine nl (kq ⟨_, hs86, trivial⟩ ?_)
             refine tk (fuel := 0) (is := [15]) (.cons rfl (.nil)) (by kernel_rfl) (by kernel_rfl) ⟨_, hs86, trivial⟩ ?_
             refine .op trivial rfl rfl (fun wq _ => asg (v := .slice A_8_14 ((zs ++ ([((s_8_3, ([0, 80, 443] : List Int).getD r_8_6.toNat 0, (decide ((0 : Int) < r_8_10))) : List UInt8 × Int × Bool)] : List (List UInt8 × Int × Bool))).length) c_8_14) rfl) ?_
             refine .nil ?_
             refine ad (by kernel_rfl) ?_
             exact ⟨b_8_2, s_8_3, q_8_3, b_8_4, r_8_6, q_8_6, r_8_10, q_8_10, b_8_13, A_8_14, c_8_14, ⟨rfl, rfl, rfl, rfl, trivial⟩, p65, p66, p67, p68, p71, p72, hs86⟩
       · refine one_ rfl ?_
         refine bsk hs55 sl23 [I 0, I 80, I 443] [I 0, I 80, I 443] trivial rfl (fun b_8_4 w84 (hs87 : SH w w84 [rb] [.own Ag3 zs.length cg3 83 3 (zs.flatMap gRule), .blk rb 74 [.slice Ab bs.length cb, I ((q0 : Nat) : Int)], oI b_8_4 ([0, 80, 443] : List Int) 3 3]) => ?_)
         refine nl (kq ⟨_, hs87, trivial⟩ ?_)
         refine a1 (i := 2) (by kernel_rfl) ?_
         refine one_ rfl ?_
         refine bsk hs87 sl77 [Str [], Str [46, 111, 114, 103], Str [111, 114, 103], Str [46, 49], Str [120, 46, 111, 114, 103], Str [110, 101, 116]] [Str [], Str [46, 111, 114, 103], Str [111, 114, 103], Str [46, 49], Str [120, 46, 111, 114, 103], Str [110, 101, 116]] trivial rfl (fun b_8_2 w85 (hs88 : SH w w85 [rb] [.own Ag3 zs.length cg3 83 3 (zs.flatMap gRule), .blk rb 74 [.slice Ab bs.length cb, I ((q0 : Nat) : Int)], oI b_8_4 ([0, 80, 443] : List Int) 3 3, .own (some ⟨b_8_2, 0, none⟩) (([[], [46, 111, 114, 103], [111, 114, 103], [46, 49], [120, 46, 111, 114, 103], [110, 101, 116]] : List (List UInt8)).length) 6 9 1 (([[], [46, 111, 114, 103], [111, 114, 103], [46, 49], [120, 46, 111, 114, 103], [110, 101, 116]] : List (List UInt8)).map Str)]) => ?_)
         refine nl (kq ⟨_, hs88, trivial⟩ ?_)
         refine a1 (i := 3) (by kernel_rfl) ?_
         refine one_ rfl ?_
         refine cl trivial rfl (rdOf (rb := rb) (Ab := Ab) (cb := cb) (bs := bs) (p := q0) (Ass := (some ⟨b_8_2, 0, none⟩)) (css := 6) (ss := ([[], [46, 111, 114, 103], [111, 114, 103], [46, 49], [120, 46, 111, 114, 103], [110, 101, 116]] : List (List UInt8))) (w := _) (hr := (blk_heap hs88 1 rfl)) (hb := (hb.up hs88 (fun _ h => h) (fun _ h => .inl h))) (hbn := (by first | assumption | (simp; omega))) (hp := (by omega)) (hss := (hs88.sl 3 rfl (by intro k hk; simp at hk; subst hk; exact ⟨_, memi 1 rfl, rfl⟩))) (hne := (by first | omega | assumption | (simp; done) | (simp; omega)))) ?_
         rintro _ w86 ⟨s_8_3, q_8_3, rfl, p73, p74, hs89'⟩
         have hs89 : SH w w86 [rb] [.own Ag3 zs.length cg3 83 3 (zs.flatMap gRule), oI b_8_4 ([0, 80, 443] : List Int) 3 3, .own (some ⟨b_8_2, 0, none⟩) (([[], [46, 111, 114, 103], [111, 114, 103], [46, 49], [120, 46, 111, 114, 103], [110, 101, 116]] : List (List UInt8)).length) 6 9 1 (([[], [46, 111, 114, 103], [111, 114, 103], [46, 49], [120, 46, 111, 114, 103], [110, 101, 116]] : List (List UInt8)).map Str), .blk rb 74 [.slice Ab bs.length cb, I ((q_8_3 : Nat) : Int)]] := hs88.callM 1 rfl hs89' (by intro k hk; simp at hk; exact hk.symm)
         clear hs89'
         refine nl (kq ⟨_, hs89, trivial⟩ ?_)
         refine a1 (i := 6) (by kernel_rfl) ?_
         refine one_ rfl ?_
         refine cl trivial rfl (pick (rb := rb) (Ab := Ab) (cb := cb) (bs := bs) (p := q_8_3) (n := 3) (w := _) (hr := (blk_heap hs89 3 rfl)) (hb := (hb.up hs89 (fun _ h => h) (fun _ h => .inl h))) (hbn := (by first | assumption | (simp; omega))) (hp := (by omega))) ?_
         rintro _ w87 ⟨r_8_6, q_8_6, rfl, p75, p76, hs90'⟩
         have hs90 : SH w w87 [rb] [.own Ag3 zs.length cg3 83 3 (zs.flatMap gRule), oI b_8_4 ([0, 80, 443] : List Int) 3 3, .own (some ⟨b_8_2, 0, none⟩) (([[], [46, 111, 114, 103], [111, 114, 103], [46, 49], [120, 46, 111, 114, 103], [110, 101, 116]] : List (List UInt8)).length) 6 9 1 (([[], [46, 111, 114, 103], [111, 114, 103], [46, 49], [120, 46, 111, 114, 103], [110, 101, 116]] : List (List UInt8)).map Str), .blk rb 74 [.slice Ab bs.length cb, I ((q_8_6 : Nat) : Int)]] := hs89.callM 3 rfl hs90' (by intro k hk; simp at hk; exact hk.symm)
         clear hs90'
         refine nl (kq ⟨_, hs90, trivial⟩ ?_)
         refine tk (fuel := 7) (is := [7]) (.cons rfl (.nil)) (by kernel_rfl) (by kernel_rfl) ⟨_, hs90, trivial⟩ ?_
         refine .op trivial rfl rfl (fun wq _ => ixo r_8_6.toNat sl23 rfl (ieq (x := r_8_6) (by omega)) (by first | omega | (simp; done) | (simp; omega))) ?_
         refine .nil ?_
         refine a2 (i := 8) (j := 10) (by kernel_rfl) ?_ ?_
         · refine one_ rfl ?_
           refine q trivial rfl rfl (ldo1n (g := I) (ys := ([0, 80, 443] : List Int)) (o := r_8_6.toNat) 0 hs90 1 rfl rfl (by first | omega | (simp; done) | (simp; omega)) one3) ?_
           refine nl (kq ⟨_, hs90, trivial⟩ ?_)
           refine a1 (i := 10) (by kernel_rfl) ?_
           refine one_ rfl ?_
           refine cl trivial rfl (pick (rb := rb) (Ab := Ab) (cb := cb) (bs := bs) (p := q_8_6) (n := 3) (w := _) (hr := (blk_heap hs90 3 rfl)) (hb := (hb.up hs90 (fun _ h => h) (fun _ h => .inl h))) (hbn := (by first | assumption | (simp; omega))) (hp := (by omega))) ?_
           rintro _ w88 ⟨r_8_10, q_8_10, rfl, p77, p78, hs91'⟩
           have hs91 : SH w w88 [rb] [.own Ag3 zs.length cg3 83 3 (zs.flatMap gRule), oI b_8_4 ([0, 80, 443] : List Int) 3 3, .own (some ⟨b_8_2, 0, none⟩) (([[], [46, 111, 114, 103], [111, 114, 103], [46, 49], [120, 46, 111, 114, 103], [110, 101, 116]] : List (List UInt8)).length) 6 9 1 (([[], [46, 111, 114, 103], [111, 114, 103], [46, 49], [120, 46, 111, 114, 103], [110, 101, 116]] : List (List UInt8)).map Str), .blk rb 74 [.slice Ab bs.length cb, I ((q_8_10 : Nat) : Int)]] := hs90.callM 3 rfl hs91' (by intro k hk; simp at hk; exact hk.symm)
           clear hs91'
           refine nl (kq ⟨_, hs91, trivial⟩ ?_)
           refine tk (fuel := 3) (is := [11, 12]) (.cons rfl (.cons rfl (.nil))) (by kernel_rfl) (by kernel_rfl) ⟨_, hs91, trivial⟩ ?_
           refine .op trivial rfl rfl (fun wq _ => gtr (k := .i64) (a := r_8_10) (b := 0) rfl rfl) ?_
           refine .op trivial rfl rfl (fun wq _ => bdv (v := .agg #[Str s_8_3, I (([0, 80, 443] : List Int).getD r_8_6.toNat 0), .bool (decide ((0 : Int) < r_8_10))]) [(0, Str s_8_3), (1, I (([0, 80, 443] : List Int).getD r_8_6.toNat 0)), (2, .bool (decide ((0 : Int) < r_8_10)))] rfl (fun _ => by kernel_rfl)) ?_
           refine .nil ?_
           refine a1 (i := 13) (by kernel_rfl) ?_
           refine one_ rfl ?_
           refine bsk hs91 sl42 [.agg #[Str s_8_3, I (([0, 80, 443] : List Int).getD r_8_6.toNat 0), .bool (decide ((0 : Int) < r_8_10))]] [Str s_8_3, I (([0, 80, 443] : List Int).getD r_8_6.toNat 0), .bool (decide ((0 : Int) < r_8_10))] trivial rfl (fun b_8_13 w89 (hs92 : SH w w89 [rb] [.own Ag3 zs.length cg3 83 3 (zs.flatMap gRule), oI b_8_4 ([0, 80, 443] : List Int) 3 3, .own (some ⟨b_8_2, 0, none⟩) (([[], [46, 111, 114, 103], [111, 114, 103], [46, 49], [120, 46, 111, 114, 103], [110, 101, 116]] : List (List UInt8)).length) 6 9 1 (([[], [46, 111, 114, 103], [111, 114, 103], [46, 49], [120, 46, 111, 114, 103], [110, 101, 116]] : List (List UInt8)).map Str), .blk rb 74 [.slice Ab bs.length cb, I ((q_8_10 : Nat) : Int)], .own (some ⟨b_8_13, 0, none⟩) (([((s_8_3, ([0, 80, 443] : List Int).getD r_8_6.toNat 0, (decide ((0 : Int) < r_8_10))) : List UInt8 × Int × Bool)] : List (List UInt8 × Int × Bool)).length) 1 83 3 (([((s_8_3, ([0, 80, 443] : List Int).getD r_8_6.toNat 0, (decide ((0 : Int) < r_8_10))) : List UInt8 × Int × Bool)] : List (List UInt8 × Int × Bool)).flatMap gRule)]) => ?_)
           refine nl (kq ⟨_, hs92, trivial⟩ ?_)
           refine a1 (i := 14) (by kernel_rfl) ?_
           refine one_ rfl ?_
           refine apf (g := gRule) (ys := zs) (zs := ([((s_8_3, ([0, 80, 443] : List Int).getD r_8_6.toNat 0, (decide ((0 : Int) < r_8_10))) : List UInt8 × Int × Bool)] : List (List UInt8 × Int × Bool))) hs92 0 rfl sl42 rfl (by decide) rfl rfl (hs92.sl0 4 rfl) (fun _ => rfl) (by unfold maxLen; first | omega | (simp; done) | (simp; omega)) (by first | omega | (simp; done) | (simp; omega)) trivial rfl (fun A_8_14 c_8_14 w90 (hs93 : SH w w90 [rb] [oI b_8_4 ([0, 80, 443] : List Int) 3 3, .own (some ⟨b_8_2, 0, none⟩) (([[], [46, 111, 114, 103], [111, 114, 103], [46, 49], [120, 46, 111, 114, 103], [110, 101, 116]] : List (List UInt8)).length) 6 9 1 (([[], [46, 111, 114, 103], [111, 114, 103], [46, 49], [120, 46, 111, 114, 103], [110, 101, 116]] : List (List UInt8)).map Str), .blk rb 74 [.slice Ab bs.length cb, I ((q_8_10 : Nat) : Int)], .own (some ⟨b_8_13, 0, none⟩) (([((s_8_3, ([0, 80, 443] : List Int).getD r_8_6.toNat 0, (decide ((0 : Int) < r_8_10))) : List UInt8 × Int × Bool)] : List (List UInt8 × Int × Bool)).length) 1 83 3 (([((s_8_3, ([0, 80, 443] : List Int).getD r_8_6.toNat 0, (decide ((0 : Int) < r_8_10))) : List UInt8 × Int × Bool)] : List (List UInt8 × Int × Bool)).flatMap gRule), .own A_8_14 ((zs ++ ([((s_8_3, ([0, 80, 443] : List Int).getD r_8_6.toNat 0, (decide ((0 : Int) < r_8_10))) : List UInt8 × Int × Bool)] : List (List UInt8 × Int × Bool))).length) c_8_14 83 3 ((zs ++ ([((s_8_3, ([0, 80, 443] : List Int).getD r_8_6.toNat 0, (decide ((0 : Int) < r_8_10))) : List UInt8 × Int × Bool)] : List (List UInt8 × Int × Bool))).flatMap gRule)]) => ?_)
           refine nl (kq ⟨_, hs93, trivial⟩ ?_)
           refine tk (fuel := 0) (is := [15]) (.cons rfl (.nil)) (by kernel_rfl) (by kernel_rfl) ⟨_, hs93, trivial⟩ ?_
           refine .op trivial rfl rfl (fun wq _ => asg (v := .slice A_8_14 ((zs ++ ([((s_8_3, ([0, 80, 443] : List Int).getD r_8_6.toNat 0, (decide ((0 : Int) < r_8_10))) : List UInt8 × Int × Bool)] : List (List UInt8 × Int × Bool))).length) c_8_14) rfl) ?_
           refine .nil ?_
           refine ad (by kernel_rfl) ?_
           exact ⟨b_8_2, s_8_3, q_8_3, b_8_4, r_8_6, q_8_6, r_8_10, q_8_10, b_8_13, A_8_14, c_8_14, ⟨rfl, rfl, rfl, rfl, trivial⟩, p73, p74, p75, p76, p77, p78, (hs93.pick [1, 0, 2, 3, 4] rfl (by decide))⟩
         · refine one_ rfl ?_
           refine cl trivial rfl (pick (rb := rb) (Ab := Ab) (cb := cb) (bs := bs) (p := q_8_6) (n := 3) (w := _) (hr := (blk_heap hs90 3 rfl)) (hb := (hb.up hs90 (fun _ h => h) (fun _ h => .inl h))) (hbn := (by first | assumption | (simp; omega))) (hp := (by omega))) ?_
           rintro _ w91 ⟨r_8_10, q_8_10, rfl, p79, p80, hs94'⟩
           have hs94 : SH w w91 [rb] [.own Ag3 zs.length cg3 83 3 (zs.flatMap gRule), oI b_8_4 ([0, 80, 443] : List Int) 3 3, .own (some ⟨b_8_2, 0, none⟩) (([[], [46, 111, 114, 103], [111, 114, 103], [46, 49], [120, 46, 111, 114, 103], [110, 101, 116]] : List (List UInt8)).length) 6 9 1 (([[], [46, 111, 114, 103], [111, 114, 103], [46, 49], [120, 46, 111, 114, 103], [110, 101, 116]] : List (List UInt8)).map Str), .blk rb 74 [.slice Ab bs.length cb, I ((q_8_10 : Nat) : Int)]] := hs90.callM 3 rfl hs94' (by intro k hk; simp at hk; exact hk.symm)
           clear hs94'
           refine nl (kq ⟨_, hs94, trivial⟩ ?_)
           refine tk (fuel := 5) (is := [11]) (.cons rfl (.nil)) (by kernel_rfl) (by kernel_rfl) ⟨_, hs94, trivial⟩ ?_
           refine .op trivial rfl rfl (fun wq _ => gtr (k := .i64) (a := r_8_10) (b := 0) rfl rfl) ?_
           refine .nil ?_
           refine a1 (i := 8) (by kernel_rfl) ?_
           refine one_ rfl ?_
           refine q trivial rfl rfl (ldo1n (g := I) (ys := ([0, 80, 443] : List Int)) (o := r_8_6.toNat) 0 hs94 1 rfl rfl (by first | omega | (simp; done) | (simp; omega)) one3) ?_
           refine nl (kq ⟨_, hs94, trivial⟩ ?_)
           refine tk (fuel := 3) (is := [12]) (.cons rfl (.nil)) (by kernel_rfl) (by kernel_rfl) ⟨_, hs94, trivial⟩ ?_
           refine .op trivial rfl rfl (fun wq _ => bdv (v := .agg #[Str s_8_3, I (([0, 80, 443] : List Int).getD r_8_6.toNat 0), .bool (decide ((0 : Int) < r_8_10))]) [(0, Str s_8_3), (1, I (([0, 80, 443] : List Int).getD r_8_6.toNat 0)), (2, .bool (decide ((0 : Int) < r_8_10)))] rfl (fun _ => by kernel_rfl)) ?_
           refine .nil ?_
           refine a1 (i := 13) (by kernel_rfl) ?_
           refine one_ rfl ?_
           refine bsk hs94 sl42 [.agg #[Str s_8_3, I (([0, 80, 443] : List Int).getD r_8_6.toNat 0), .bool (decide ((0 : Int) < r_8_10))]] [Str s_8_3, I (([0, 80, 443] : List Int).getD r_8_6.toNat 0), .bool (decide ((0 : Int) < r_8_10))] trivial rfl (fun b_8_13 w92 (hs95 : SH w w92 [rb] [.own Ag3 zs.length cg3 83 3 (zs.flatMap gRule), oI b_8_4 ([0, 80, 443] : List Int) 3 3, .own (some ⟨b_8_2, 0, none⟩) (([[], [46, 111, 114, 103], [111, 114, 103], [46, 49], [120, 46, 111, 114, 103], [110, 101, 116]] : List (List UInt8)).length) 6 9 1 (([[], [46, 111, 114, 103], [111, 114, 103], [46, 49], [120, 46, 111, 114, 103], [110, 101, 116]] : List (List UInt8)).map Str), .blk rb 74 [.slice Ab bs.length cb, I ((q_8_10 : Nat) : Int)], .own (some ⟨b_8_13, 0, none⟩) (([((s_8_3, ([0, 80, 443] : List Int).getD r_8_6.toNat 0, (decide ((0 : Int) < r_8_10))) : List UInt8 × Int × Bool)] : List (List UInt8 × Int × Bool)).length) 1 83 3 (([((s_8_3, ([0, 80, 443] : List Int).getD r_8_6.toNat 0, (decide ((0 : Int) < r_8_10))) : List UInt8 × Int × Bool)] : List (List UInt8 × Int × Bool)).flatMap gRule)]) => ?_)
           refine nl (kq ⟨_, hs95, trivial⟩ ?_)
           refine a1 (i := 14) (by kernel_rfl) ?_
           refine one_ rfl ?_
           refine apf (g := gRule) (ys := zs) (zs := ([((s_8_3, ([0, 80, 443] : List Int).getD r_8_6.toNat 0, (decide ((0 : Int) < r_8_10))) : List UInt8 × Int × Bool)] : List (List UInt8 × Int × Bool))) hs95 0 rfl sl42 rfl (by decide) rfl rfl (hs95.sl0 4 rfl) (fun _ => rfl) (by unfold maxLen; first | omega | (simp; done) | (simp; omega)) (by first | omega | (simp; done) | (simp; omega)) trivial rfl (fun A_8_14 c_8_14 w93 (hs96 : SH w w93 [rb] [oI b_8_4 ([0, 80, 443] : List Int) 3 3, .own (some ⟨b_8_2, 0, none⟩) (([[], [46, 111, 114, 103], [111, 114, 103], [46, 49], [120, 46, 111, 114, 103], [110, 101, 116]] : List (List UInt8)).length) 6 9 1 (([[], [46, 111, 114, 103], [111, 114, 103], [46, 49], [120, 46, 111, 114, 103], [110, 101, 116]] : List (List UInt8)).map Str), .blk rb 74 [.slice Ab bs.length cb, I ((q_8_10 : Nat) : Int)], .own (some ⟨b_8_13, 0, none⟩) (([((s_8_3, ([0, 80, 443] : List Int).getD r_8_6.toNat 0, (decide ((0 : Int) < r_8_10))) : List UInt8 × Int × Bool)] : List (List UInt8 × Int × Bool)).length) 1 83 3 (([((s_8_3, ([0, 80, 443] : List Int).getD r_8_6.toNat 0, (decide ((0 : Int) < r_8_10))) : List UInt8 × Int × Bool)] : List (List UInt8 × Int × Bool)).flatMap gRule), .own A_8_14 ((zs ++ ([((s_8_3, ([0, 80, 443] : List Int).getD r_8_6.toNat 0, (decide ((0 : Int) < r_8_10))) : List UInt8 × Int × Bool)] : List (List UInt8 × Int × Bool))).length) c_8_14 83 3 ((zs ++ ([((s_8_3, ([0, 80, 443] : List Int).getD r_8_6.toNat 0, (decide ((0 : Int) < r_8_10))) : List UInt8 × Int × Bool)] : List (List UInt8 × Int × Bool))).flatMap gRule)]) => ?_)
           refine nl (kq ⟨_, hs96, trivial⟩ ?_)
           refine tk (fuel := 0) (is := [15]) (.cons rfl (.nil)) (by kernel_rfl) (by kernel_rfl) ⟨_, hs96, trivial⟩ ?_
           refine .op trivial rfl rfl (fun wq _ => asg (v := .slice A_8_14 ((zs ++ ([((s_8_3, ([0, 80, 443] : List Int).getD r_8_6.toNat 0, (decide ((0 : Int) < r_8_10))) : List UInt8 × Int × Bool)] : List (List UInt8 × Int × Bool))).length) c_8_14) rfl) ?_
           refine .nil ?_
           refine ad (by kernel_rfl) ?_
           exact ⟨b_8_2, s_8_3, q_8_3, b_8_4, r_8_6, q_8_6, r_8_10, q_8_10, b_8_13, A_8_14, c_8_14, ⟨rfl, rfl, rfl, rfl, trivial⟩, p73, p74, p75, p76, p79, p80, (hs96.pick [1, 0, 2, 3, 4] rfl (by decide))⟩
     rintro f w94 ⟨b_8_2, s_8_3, q_8_3, b_8_4, r_8_6, q_8_6, r_8_10, q_8_10, b_8_13, A_8_14, c_8_14, hf, p81, p82, p83, p84, p85, p86, hs97⟩
     obtain ⟨g4, rfl⟩ := has_upd hf
     clear hf
     refine bN ?_
     refine nN ?_
     have hs98 : SH w w94 [rb] [.blk rb 74 [.slice Ab bs.length cb, I ((q_8_10 : Nat) : Int)], .own A_8_14 ((zs ++ ([((s_8_3, ([0, 80, 443] : List Int).getD r_8_6.toNat 0, (decide ((0 : Int) < r_8_10))) : List UInt8 × Int × Bool)] : List (List UInt8 × Int × Bool))).length) c_8_14 83 3 ((zs ++ ([((s_8_3, ([0, 80, 443] : List Int).getD r_8_6.toNat 0, (decide ((0 : Int) < r_8_10))) : List UInt8 × Int × Bool)] : List (List UInt8 × Int × Bool))).flatMap gRule)] := hs97.pick [2, 4] rfl (by decide)
     refine rg ?_
     refine q trivial rfl rfl (mv (v := I ((k : Nat) : Int)) rfl) ?_
     refine q trivial rfl rfl (add (a := ((k : Nat) : Int)) (b := 1) rfl rfl (by exact ⟨by omega, by omega⟩)) ?_
     refine q trivial rfl rfl (asg (v := I (((k : Nat) : Int) + 1)) rfl) ?_
     refine nl ?_
     refine nN ?_
     refine ⟨(A_8_14, c_8_14, q_8_10, k + 1, (zs ++ ([((s_8_3, ([0, 80, 443] : List Int).getD r_8_6.toNat 0, (decide ((0 : Int) < r_8_10))) : List UInt8 × Int × Bool)] : List (List UInt8 × Int × Bool)))), ⟨⟨rfl, rfl, rfl, rfl, trivial⟩, (by omega), (by simp; omega), (rules_app he (words5 (by assumption))), (by omega), (hs98.pick [1, 0] rfl (by decide))⟩, ?_⟩
     show 7 - (k + 1) < 7 - k
     omega
   · refine ex (tE (tE (bE ?_)))
     refine nN ?_
     refine sq ?_
     refine sq ?_
     refine rg ?_
     refine q trivial rfl rfl (mv (v := I r1) rfl) ?_
     refine q trivial rfl rfl (gtr (k := .i64) (a := r1) (b := 0) rfl rfl) ?_
     refine q trivial rfl rfl (mv (v := .bool (decide ((0 : Int) < r1))) rfl) ?_
     refine spd (p := (0 : Int) < r1) 37 rfl (fun h6 => ?_) (fun h6 => ?_)
     · refine q ⟨_, rfl, rfl⟩ rfl rfl (mv (v := pB rb) rfl) ?_
       refine cl ⟨_, rfl, rfl⟩ rfl (pick (rb := rb) (Ab := Ab) (cb := cb) (bs := bs) (p := q0) (n := 24) (w := _) (hr := (blk_heap hs54 1 rfl)) (hb := (hb.up hs54 (fun _ h => h) (fun _ h => .inl h))) (hbn := (by first | assumption | (simp; omega))) (hp := (by omega))) ?_
       rintro _ w95 ⟨r5, q6, rfl, p87, p88, hs99'⟩
       have hs99 : SH w w95 [rb] [.own Ag3 zs.length cg3 83 3 (zs.flatMap gRule), .blk rb 74 [.slice Ab bs.length cb, I ((q6 : Nat) : Int)]] := hs54.callM 1 rfl hs99' (by intro k hk; simp at hk; exact hk.symm)
       clear hs99'
       refine q ⟨_, rfl, rfl⟩ rfl rfl (eqi (k := .i64) (a := r5) (b := 0) rfl rfl) ?_
       refine q trivial rfl rfl (pt (v := .bool (decide (r5 = 0))) rfl rfl) ?_
       refine nl ?_
       refine nN ?_
       refine cdd (p := r5 = 0) rfl (fun h7 => ?_) (fun h7 => ?_)
       · refine rg ?_
         refine q trivial rfl rfl (mv (v := .slice Ag3 zs.length cg3) rfl) ?_
         refine q trivial rfl rfl (mv (v := pB rb) rfl) ?_
         refine bsk hs99 sl77 [Str [65], Str [97, 32, 98]] [Str [65], Str [97, 32, 98]] trivial rfl (fun b4 w96 (hs100 : SH w w96 [rb] [.own Ag3 zs.length cg3 83 3 (zs.flatMap gRule), .blk rb 74 [.slice Ab bs.length cb, I ((q6 : Nat) : Int)], .own (some ⟨b4, 0, none⟩) (([[65], [97, 32, 98]] : List (List UInt8)).length) 2 9 1 (([[65], [97, 32, 98]] : List (List UInt8)).map Str)]) => ?_)
         refine cl trivial rfl (rdOf (rb := rb) (Ab := Ab) (cb := cb) (bs := bs) (p := q6) (Ass := (some ⟨b4, 0, none⟩)) (css := 2) (ss := ([[65], [97, 32, 98]] : List (List UInt8))) (w := _) (hr := (blk_heap hs100 1 rfl)) (hb := (hb.up hs100 (fun _ h => h) (fun _ h => .inl h))) (hbn := (by first | assumption | (simp; omega))) (hp := (by omega)) (hss := (hs100.sl 2 rfl (by intro k hk; simp at hk; subst hk; exact ⟨_, memi 1 rfl, rfl⟩))) (hne := (by first | omega | assumption | (simp; done) | (simp; omega)))) ?_
         rintro _ w97 ⟨s2, q7, rfl, p89, p90, hs101'⟩
         have hs101 : SH w w97 [rb] [.own Ag3 zs.length cg3 83 3 (zs.flatMap gRule), .own (some ⟨b4, 0, none⟩) (([[65], [97, 32, 98]] : List (List UInt8)).length) 2 9 1 (([[65], [97, 32, 98]] : List (List UInt8)).map Str), .blk rb 74 [.slice Ab bs.length cb, I ((q7 : Nat) : Int)]] := hs100.callM 1 rfl hs101' (by intro k hk; simp at hk; exact hk.symm)
         clear hs101'
         obtain ⟨b5, rfl⟩ := own_form hs101 0 rfl (by first | omega | (simp; done) | (simp; omega))
         refine q trivial rfl rfl (ixo 0 sl42 rfl rfl (by first | omega | (simp; done) | (simp; omega))) ?_
         refine q trivial rfl rfl (fa 0 fo83_0 rfl) ?_
         refine stoff (g := gRule) (ys := zs) (o := 0) (off := 0) (u := ((s2, (zs.getD 0 rule0).2.1, ((zs.getD 0 rule0).2.2)) : List UInt8 × Int × Bool)) (v := Str s2) rule0 (fun _ => rfl) hs101 0 rfl rfl rfl (by first | omega | (simp; done) | (simp; omega)) (by first | omega | (simp; done) | (simp; omega)) rfl rfl rfl one9 trivial (fun w98 (hs102 : SH w w98 [rb] [.own (some ⟨b4, 0, none⟩) (([[65], [97, 32, 98]] : List (List UInt8)).length) 2 9 1 (([[65], [97, 32, 98]] : List (List UInt8)).map Str), .blk rb 74 [.slice Ab bs.length cb, I ((q7 : Nat) : Int)], .own (some ⟨b5, 0, none⟩) zs.length cg3 83 3 ((zs.set 0 ((s2, (zs.getD 0 rule0).2.1, ((zs.getD 0 rule0).2.2)) : List UInt8 × Int × Bool)).flatMap gRule)]) => ?_)
         refine nl ?_
         refine nN ?_
         refine sq ?_
         refine rg ?_
         refine q trivial rfl rfl (mv (v := sb b5 zs.length cg3) rfl) ?_
         refine q trivial rfl rfl (asg (v := sb b5 zs.length cg3) rfl) ?_
         refine nl ?_
         refine nN ?_
         refine rt ?_
         refine fret (v := sb b5 zs.length cg3) (.tmp .nil) rfl ?_
         have e2 : zs.length = (zs.set 0 ((s2, (zs.getD 0 rule0).2.1, ((zs.getD 0 rule0).2.2)) : List UInt8 × Int × Bool)).length := by first | rfl | (simp; done) | (simp; omega) | omega
         exact ⟨(some ⟨b5, 0, none⟩), cg3, zs.set 0 ((s2, (zs.getD 0 rule0).2.1, ((zs.getD 0 rule0).2.2)) : List UInt8 × Int × Bool), q7, (slv rfl e2 rfl), (by first | omega | (simp; omega)), (by first | assumption | exact rules_set he (words2 (by assumption))), (by omega), ((hs102.pick [1, 2] rfl (by decide)).cast (lc rfl (lc (own_eqf (g := gRule) rfl e2 rfl rfl) rfl)))⟩
       · refine sk ?_
         refine nN ?_
         refine sq ?_
         refine rg ?_
         refine q trivial rfl rfl (mv (v := .slice Ag3 zs.length cg3) rfl) ?_
         refine q trivial rfl rfl (asg (v := .slice Ag3 zs.length cg3) rfl) ?_
         refine nl ?_
         refine nN ?_
         refine rt ?_
         refine fret (v := .slice Ag3 zs.length cg3) (.tmp .nil) rfl ?_
         exact ⟨Ag3, cg3, zs, q6, rfl, (by first | omega | (simp; omega)), (by first | assumption | exact rules_set he (words2 (by assumption))), (by omega), (hs99.pick [1, 0] rfl (by decide))⟩
     · refine gk false rfl rfl rfl rfl rfl ?_
       refine gk false rfl rfl rfl rfl rfl ?_
       refine gk false rfl rfl rfl rfl rfl ?_
       refine q trivial rfl rfl (pf (v := .bool false) rfl rfl) ?_
       refine nl ?_
       refine nN ?_
       refine cdf rfl ?_
       refine sk ?_
       refine nN ?_
       refine sq ?_
       refine rg ?_
       refine q trivial rfl rfl (mv (v := .slice Ag3 zs.length cg3) rfl) ?_
       refine q trivial rfl rfl (asg (v := .slice Ag3 zs.length cg3) rfl) ?_
       refine nl ?_
       refine nN ?_
       refine rt ?_
       refine fret (v := .slice Ag3 zs.length cg3) (.tmp .nil) rfl ?_
       exact ⟨Ag3, cg3, zs, q0, rfl, (by first | omega | (simp; omega)), (by first | assumption | exact rules_set he (words2 (by assumption))), (by omega), (hs54.pick [1, 0] rfl (by decide))⟩

theorem szIntS {Axs : Option Addr} {cxs : Nat} (xs : List Int) (z : Int) (w : World) (hxs : Sl w [] 1 Axs xs.length cxs (xs.map I)) (hz : 0 ≤ z ∧ z ≤ 1099511627776) : Does Tryd.prog 37 [.slice Axs xs.length cxs, I z] w (fun v w' => v = .int .i64 (szI xs.length z) ∧ SH w w' [] []) := by
 refine fn_enter (N := 12) Tryd.func37 rfl (by kernel_rfl) rfl rfl rfl ?_
 have hs0 : SH w w [] [] := SH.refl w []
 have hxs_m : xs.length ≤ 9223372036854775807 := Nat.le_trans hxs.cap hxs.capMax
 refine sq ?_
 refine rg ?_
 refine q trivial rfl rfl (asg (v := I 0) rfl) ?_
 refine nl ?_
 refine nN ?_
 refine sq ?_
 refine rg ?_
 refine q trivial rfl rfl (mv (v := I z) rfl) ?_
 refine q trivial rfl rfl (mv (v := .slice Axs xs.length cxs) rfl) ?_
 refine q trivial rfl rfl (lnA (n := xs.length) sl23 rfl) ?_
 refine q trivial rfl rfl (sub (a := z) (b := ((xs.length : Nat) : Int)) rfl rfl (by exact ⟨by omega, by omega⟩)) ?_
 refine q trivial rfl rfl (asg (v := I (z - ((xs.length : Nat) : Int))) rfl) ?_
 refine nl ?_
 refine nN ?_
 refine sq ?_
 refine sq ?_
 refine rg ?_
 refine q trivial rfl rfl (mv (v := I (z - ((xs.length : Nat) : Int))) rfl) ?_
 refine q trivial rfl rfl (lss (k := .i64) (a := z - ((xs.length : Nat) : Int)) (b := 0) rfl rfl) ?_
 refine nl ?_
 refine nN ?_
 refine cdd (p := (z - ((xs.length : Nat) : Int)) < 0) rfl (fun h1 => ?_) (fun h1 => ?_)
 · refine sq ?_
   refine rg ?_
   refine q trivial rfl rfl (asg (v := I (-1)) rfl) ?_
   refine nl ?_
   refine nN ?_
   refine rt (tR ?_)
   refine fret (v := I (-1)) (.tmp .nil) rfl ?_
   have e1 : (-1) = szI xs.length z := by simp [szI] <;> omega
   exact ⟨(congrArg (Value.int .i64) e1), hs0⟩
 · refine sk ?_
   refine nN ?_
   refine sq ?_
   refine rg ?_
   refine q trivial rfl rfl (mv (v := I (z - ((xs.length : Nat) : Int))) rfl) ?_
   refine q trivial rfl rfl (asg (v := I (z - ((xs.length : Nat) : Int))) rfl) ?_
   refine nl ?_
   refine nN ?_
   refine rt ?_
   refine fret (v := I (z - ((xs.length : Nat) : Int))) (.tmp .nil) rfl ?_
   have e2 : z - ((xs.length : Nat) : Int) = szI xs.length z := by simp [szI] <;> omega
   exact ⟨(congrArg (Value.int .i64) e2), hs0⟩

theorem slIndexS (l : List UInt8) (c : UInt8) (w : World)  : Does Tryd.prog 111 [Str l, Str [c]] w (fun v w' => v = .int .i64 (idxB l c) ∧ SH w w' [] []) := by
 refine fn_enter (N := 143) Tryd.func111 rfl (by kernel_rfl) rfl rfl rfl ?_
 have hs0 : SH w w [] [] := SH.refl w []
 refine sq ?_
 refine rg ?_
 refine q trivial rfl rfl (asg (v := I 0) rfl) ?_
 refine nl ?_
 refine nN ?_
 refine sq ?_
 refine rg ?_
 refine q trivial rfl rfl (mv (v := Str [c]) rfl) ?_
 refine q trivial rfl rfl (lnS (l := [c]) st9 rfl) ?_
 refine q trivial rfl rfl (asg (v := I (([c].length : Nat) : Int)) rfl) ?_
 refine nl ?_
 refine nN ?_
 refine sq ?_
 refine bl ?_
 refine sq ?_
 refine rg ?_
 refine q trivial rfl rfl (mv (v := I (([c].length : Nat) : Int)) rfl) ?_
 refine q trivial rfl rfl (eqi (k := .i64) (a := (([c].length : Nat) : Int)) (b := 0) rfl rfl) ?_
 refine q trivial rfl rfl (mv (v := .bool (decide ((([c].length : Nat) : Int) = 0))) rfl) ?_
 refine spd (p := (([c].length : Nat) : Int) = 0) 19 rfl (fun h1 => absurd h1 (by simp)) (fun h1 => ?_)
 refine q ⟨_, rfl, rfl⟩ rfl rfl (mv (v := Str [c]) rfl) ?_
 refine q ⟨_, rfl, rfl⟩ rfl rfl (mv (v := Str l) rfl) ?_
 refine q ⟨_, rfl, rfl⟩ rfl rfl (eqs (l := [c]) (m := l) rfl rfl) ?_
 refine q trivial rfl rfl (pf (v := .bool (decide ([c] = l))) rfl rfl) ?_
 refine q trivial rfl rfl (asg (v := .bool (decide ([c] = l))) rfl) ?_
 refine nl ?_
 refine nN ?_
 refine cdd (p := [c] = l) rfl (fun h2 => ?_) (fun h2 => ?_)
 · refine sq ?_
   refine rg ?_
   refine q trivial rfl rfl (asg (v := I 0) rfl) ?_
   refine nl ?_
   refine nN ?_
   refine rt (bR (tR ?_))
   refine fret (v := I 0) (.tmp .nil) rfl ?_
   have e1 : 0 = idxB l c := by subst h2; exact (idxB_self c).symm
   exact ⟨(congrArg (Value.int .i64) e1), hs0⟩
 · refine sq ?_
   refine rg ?_
   refine q trivial rfl rfl (mv (v := I (([c].length : Nat) : Int)) rfl) ?_
   refine q trivial rfl rfl (eqi (k := .i64) (a := (([c].length : Nat) : Int)) (b := 1) rfl rfl) ?_
   refine q trivial rfl rfl (asg (v := .bool (decide ((([c].length : Nat) : Int) = 1))) rfl) ?_
   refine nl ?_
   refine nN ?_
   refine cdd (p := (([c].length : Nat) : Int) = 1) rfl (fun h3 => ?_) (fun h3 => absurd (by rfl) h3)
   refine sq ?_
   refine rg ?_
   refine q trivial rfl rfl (mv (v := Str l) rfl) ?_
   refine q trivial rfl rfl (mv (v := Str [c]) rfl) ?_
   refine q trivial rfl rfl (ixs (l := [c]) 0 st9 rfl rfl (by first | omega | (simp; done) | (simp; omega))) ?_
   refine cl trivial rfl (slIndexByte (l := l) (c := ([c].getD 0 0)) (w := _)) ?_
   rintro _ w1 ⟨rfl, hs1'⟩
   have hs1 : SH w w1 [] [] := hs0.call0 hs1'
   clear hs1'
   refine q trivial rfl rfl (asg (v := I (idxB l ([c].getD 0 0))) rfl) ?_
   refine nl ?_
   refine nN ?_
   refine rt (bR (tR ?_))
   refine fret (v := I (idxB l ([c].getD 0 0))) (.tmp .nil) rfl ?_
   have e2 : idxB l ([c].getD 0 0) = idxB l c := by rfl
   exact ⟨(congrArg (Value.int .i64) e2), hs1⟩

theorem stIndex (l : List UInt8) (c : UInt8) (w : World)  : Does Tryd.prog 102 [Str l, Str [c]] w (fun v w' => v = .int .i64 (idxB l c) ∧ SH w w' [] []) := by
 refine fn_enter (N := 8) Tryd.func102 rfl (by kernel_rfl) rfl rfl rfl ?_
 have hs0 : SH w w [] [] := SH.refl w []
 refine sq ?_
 refine rg ?_
 refine q trivial rfl rfl (asg (v := I 0) rfl) ?_
 refine nl ?_
 refine nN ?_
 refine sq ?_
 refine rg ?_
 refine q trivial rfl rfl (mv (v := Str l) rfl) ?_
 refine q trivial rfl rfl (mv (v := Str [c]) rfl) ?_
 refine cl trivial rfl (slIndexS (l := l) (c := c) (w := _)) ?_
 rintro _ w1 ⟨rfl, hs1'⟩
 have hs1 : SH w w1 [] [] := hs0.call0 hs1'
 clear hs1'
 refine q trivial rfl rfl (asg (v := I (idxB l c)) rfl) ?_
 refine nl ?_
 refine nN ?_
 refine rt ?_
 refine fret (v := I (idxB l c)) (.tmp .nil) rfl ?_
 exact ⟨rfl, hs1⟩

theorem stCount (l : List UInt8) (c : UInt8) (w : World)  : Does Tryd.prog 101 [Str l, Str [c]] w (fun v w' => v = .int .i64 ((l.count c : Nat) : Int) ∧ SH w w' [] []) := by
 refine fn_enter (N := 34) Tryd.func101 rfl (by kernel_rfl) rfl rfl rfl ?_
 have hs0 : SH w w [] [] := SH.refl w []
 refine sq ?_
 refine rg ?_
 refine q trivial rfl rfl (asg (v := I 0) rfl) ?_
 refine nl ?_
 refine nN ?_
 refine sq ?_
 refine sq ?_
 refine rg ?_
 refine q trivial rfl rfl (mv (v := Str [c]) rfl) ?_
 refine q trivial rfl rfl (lnS (l := [c]) st9 rfl) ?_
 refine q trivial rfl rfl (eqi (k := .i64) (a := (([c].length : Nat) : Int)) (b := 0) rfl rfl) ?_
 refine nl ?_
 refine nN ?_
 refine cdd (p := (([c].length : Nat) : Int) = 0) rfl (fun h1 => absurd h1 (by simp)) (fun h1 => ?_)
 refine sk ?_
 refine nN ?_
 refine sq ?_
 refine sq ?_
 refine rg ?_
 refine q trivial rfl rfl (mv (v := Str [c]) rfl) ?_
 refine q trivial rfl rfl (lnS (l := [c]) st9 rfl) ?_
 refine q trivial rfl rfl (eqi (k := .i64) (a := (([c].length : Nat) : Int)) (b := 1) rfl rfl) ?_
 refine nl ?_
 refine nN ?_
 refine cdd (p := (([c].length : Nat) : Int) = 1) rfl (fun h2 => ?_) (fun h2 => absurd (by rfl) h2)
 refine sq ?_
 refine rg ?_
 refine q trivial rfl rfl (mv (v := Str l) rfl) ?_
 refine q trivial rfl rfl (mv (v := Str [c]) rfl) ?_
 refine q trivial rfl rfl (ixs (l := [c]) 0 st9 rfl rfl (by first | omega | (simp; done) | (simp; omega))) ?_
 refine q trivial rfl rfl (csc (l := l) (c := ([c].getD 0 0)) Tryd.func110 (by kernel_rfl) rfl (by kernel_rfl) (by kernel_rfl) rfl rfl) ?_
 refine q trivial rfl rfl (asg (v := I ((l.count ([c].getD 0 0) : Nat) : Int)) rfl) ?_
 refine nl ?_
 refine nN ?_
 refine rt (tR ?_)
 refine fret (v := I ((l.count ([c].getD 0 0) : Nat) : Int)) (.tmp .nil) rfl ?_
 have e1 : ((l.count ([c].getD 0 0) : Nat) : Int) = ((l.count c : Nat) : Int) := by first | rfl | (simp; done) | (simp_all; done) | omega
 exact ⟨(congrArg (Value.int .i64) e1), hs0⟩

theorem genSplit (l : List UInt8) (c : UInt8) (w : World) (hl_n : l.length ≤ 1099511627776) : Does Tryd.prog 95 [Str l, Str [c], I 0, I (-1)] w (fun v w' => ∃ Ar : Option Addr, ∃ cr : Nat, v = .slice Ar (splitB c l).length cr ∧ SH w w' [] [.own Ar ((splitB c l).length) cr 9 1 ((splitB c l).map Str)]) := by
 refine fn_enter (N := 66) Tryd.func95 rfl (by kernel_rfl) rfl rfl rfl ?_
 have hs0 : SH w w [] [] := SH.refl w []
 refine sq ?_
 refine rg ?_
 refine q trivial rfl rfl (asg (v := ns) rfl) ?_
 refine nl ?_
 refine nN ?_
 refine sq ?_
 refine sq ?_
 refine rg ?_
 refine q trivial rfl rfl (mv (v := I (-1)) rfl) ?_
 refine q trivial rfl rfl (eqi (k := .i64) (a := (-1)) (b := 0) rfl rfl) ?_
 refine nl ?_
 refine nN ?_
 refine cdd (p := ((-1) : Int) = 0) rfl (fun h1 => absurd h1 (by decide)) (fun h1 => ?_)
 refine sk ?_
 refine nN ?_
 refine sq ?_
 refine sq ?_
 refine rg ?_
 refine q trivial rfl rfl (mv (v := Str [c]) rfl) ?_
 refine q trivial rfl rfl (eqs (l := [c]) (m := []) rfl rfl) ?_
 refine nl ?_
 refine nN ?_
 refine cdd (p := [c] = []) rfl (fun h2 => absurd h2 (by simp)) (fun h2 => ?_)
 refine sk ?_
 refine nN ?_
 refine sq ?_
 refine sq ?_
 refine rg ?_
 refine q trivial rfl rfl (mv (v := I (-1)) rfl) ?_
 refine q trivial rfl rfl (lss (k := .i64) (a := (-1)) (b := 0) rfl rfl) ?_
 refine nl ?_
 refine nN ?_
 refine cdd (p := (-1) < 0) rfl (fun h3 => ?_) (fun h3 => absurd (by decide) h3)
 refine rg ?_
 refine q trivial rfl rfl (mv (v := Str l) rfl) ?_
 refine q trivial rfl rfl (mv (v := Str [c]) rfl) ?_
 refine cl trivial rfl (stCount (l := l) (c := c) (w := _)) ?_
 rintro _ w1 ⟨rfl, hs1'⟩
 have hs1 : SH w w1 [] [] := hs0.call0 hs1'
 clear hs1'
 refine q trivial rfl rfl (add (a := ((l.count c : Nat) : Int)) (b := 1) rfl rfl (by first | (exact ⟨by omega, by omega⟩) | (have hsl := splitB_len c l; have hcl := List.count_le_length (a := c) (l := l); exact ⟨by omega, by omega⟩) | (have hsl := splitB_len c l; have hcl := List.count_le_length (a := c) (l := l); have hib := idxB_lt s c; (try have e1 : [c].length = 1 := rfl); exact ⟨by omega, by omega⟩))) ?_
 refine q trivial rfl rfl (asg (v := I (((l.count c : Nat) : Int) + 1)) rfl) ?_
 refine nl ?_
 refine nN ?_
 refine sq ?_
 refine rg ?_
 refine q trivial rfl rfl (mv (v := I (((l.count c : Nat) : Int) + 1)) rfl) ?_
 refine q trivial rfl rfl (mv (v := Str l) rfl) ?_
 refine q trivial rfl rfl (lnS (l := l) st9 rfl) ?_
 refine q trivial rfl rfl (add (a := ((l.length : Nat) : Int)) (b := 1) rfl rfl (by first | (exact ⟨by omega, by omega⟩) | (have hsl := splitB_len c l; have hcl := List.count_le_length (a := c) (l := l); exact ⟨by omega, by omega⟩) | (have hsl := splitB_len c l; have hcl := List.count_le_length (a := c) (l := l); have hib := idxB_lt s c; (try have e1 : [c].length = 1 := rfl); exact ⟨by omega, by omega⟩))) ?_
 refine q trivial rfl rfl (mnI (a := ((l.count c : Nat) : Int) + 1) (b := ((l.length : Nat) : Int) + 1) rfl rfl) ?_
 refine q trivial rfl rfl (asg (v := I (min (((l.count c : Nat) : Int) + 1) (((l.length : Nat) : Int) + 1))) rfl) ?_
 refine nl ?_
 refine nN ?_
 refine sq ?_
 refine rg ?_
 refine q trivial rfl rfl (mv (v := I (min (((l.count c : Nat) : Int) + 1) (((l.length : Nat) : Int) + 1))) rfl) ?_
 refine mkm (g := Str) (z := []) (n := (min (((l.count c : Nat) : Int) + 1) (((l.length : Nat) : Int) + 1)).toNat) hs1 sl77 rfl (ieq (x := min (((l.count c : Nat) : Int) + 1) (((l.length : Nat) : Int) + 1)) (by first | (omega) | (have hsl := splitB_len c l; have hcl := List.count_le_length (a := c) (l := l); omega) | (have hsl := splitB_len c l; have hcl := List.count_le_length (a := c) (l := l); have hib := idxB_lt s c; (try have e1 : [c].length = 1 := rfl); omega))) (ieq (x := min (((l.count c : Nat) : Int) + 1) (((l.length : Nat) : Int) + 1)) (by first | (omega) | (have hsl := splitB_len c l; have hcl := List.count_le_length (a := c) (l := l); omega) | (have hsl := splitB_len c l; have hcl := List.count_le_length (a := c) (l := l); have hib := idxB_lt s c; (try have e1 : [c].length = 1 := rfl); omega))) (by first | (omega) | (have hsl := splitB_len c l; have hcl := List.count_le_length (a := c) (l := l); omega)) (by unfold maxLen; first | (omega) | (have hsl := splitB_len c l; have hcl := List.count_le_length (a := c) (l := l); omega)) trivial rfl (fun b1 w2 (hs2 : SH w w2 [] [.own (some ⟨b1, 0, none⟩) ((List.replicate ((min (((l.count c : Nat) : Int) + 1) (((l.length : Nat) : Int) + 1)).toNat) ([] : List UInt8)).length) ((min (((l.count c : Nat) : Int) + 1) (((l.length : Nat) : Int) + 1)).toNat) 9 1 ((List.replicate ((min (((l.count c : Nat) : Int) + 1) (((l.length : Nat) : Int) + 1)).toNat) ([] : List UInt8)).map Str)]) => ?_)
 refine q trivial rfl rfl (asg (v := sb b1 ((List.replicate ((min (((l.count c : Nat) : Int) + 1) (((l.length : Nat) : Int) + 1)).toNat) ([] : List UInt8)).length) ((min (((l.count c : Nat) : Int) + 1) (((l.length : Nat) : Int) + 1)).toNat)) rfl) ?_
 refine nl ?_
 refine nN ?_
 refine sq ?_
 refine rg ?_
 refine q trivial rfl rfl (mv (v := I (min (((l.count c : Nat) : Int) + 1) (((l.length : Nat) : Int) + 1))) rfl) ?_
 refine q trivial rfl rfl (sub (a := min (((l.count c : Nat) : Int) + 1) (((l.length : Nat) : Int) + 1)) (b := 1) rfl rfl (by first | (exact ⟨by omega, by omega⟩) | (have hsl := splitB_len c l; have hcl := List.count_le_length (a := c) (l := l); exact ⟨by omega, by omega⟩))) ?_
 refine q trivial rfl rfl (asg (v := I ((min (((l.count c : Nat) : Int) + 1) (((l.length : Nat) : Int) + 1)) - 1)) rfl) ?_
 refine nl ?_
 refine nN ?_
 refine sq ?_
 refine rg ?_
 refine q trivial rfl rfl (asg (v := I 0) rfl) ?_
 refine nl ?_
 refine nN ?_
 refine sq ?_
 refine bl ?_
 have e1 : List.replicate ((min (((l.count c : Nat) : Int) + 1) (((l.length : Nat) : Int) + 1)).toNat) ([] : List UInt8) = (splitB c l).take 0 ++ List.replicate ((splitB c l).length - 0) ([] : List UInt8) := by have hsl := splitB_len c l; have hcl := List.count_le_length (a := c) (l := l); rw [show (min (((l.count c : Nat) : Int) + 1) (((l.length : Nat) : Int) + 1)).toNat = (splitB c l).length by omega]; simp
 have e2 : (List.replicate ((min (((l.count c : Nat) : Int) + 1) (((l.length : Nat) : Int) + 1)).toNat) ([] : List UInt8)).length = (splitB c l).length := by first | (first | rfl | (simp; done) | (simp; omega) | omega) | (have hsl := splitB_len c l; have hcl := List.count_le_length (a := c) (l := l); first | rfl | (simp; done) | (simp; omega) | omega)
 refine lp (σ := (Option Addr) × Nat × Nat × (List UInt8)) (fun ⟨Ag9, cg9, k, s⟩ f w' => Has f [(0, Str s), (1, Str [c]), (2, I 0), (3, I ((l.count c : Nat) : Int)), (9, .slice Ag9 ((splitB c l).length) cg9), (10, I ((k : Nat) : Int))] ∧ (k < (splitB c l).length) ∧ (splitB c s = (splitB c l).drop k) ∧ (s.length ≤ l.length) ∧ SH w w' [] [.own Ag9 ((splitB c l).length) cg9 9 1 (((splitB c l).take k ++ List.replicate ((splitB c l).length - k) ([] : List UInt8)).map Str)]) (fun ⟨Ag9, cg9, k, s⟩ => l.length + 1 - k) ((some ⟨b1, 0, none⟩), (min (((l.count c : Nat) : Int) + 1) (((l.length : Nat) : Int) + 1)).toNat, 0, l) ⟨⟨rfl, rfl, rfl, (show (I ((min (((l.count c : Nat) : Int) + 1) (((l.length : Nat) : Int) + 1)) - 1) : Value) = I ((l.count c : Nat) : Int) from congrArg (Value.int .i64) (by have hsl := splitB_len c l; have hcl := List.count_le_length (a := c) (l := l); omega)), (show (.slice (some ⟨b1, 0, none⟩) ((List.replicate ((min (((l.count c : Nat) : Int) + 1) (((l.length : Nat) : Int) + 1)).toNat) ([] : List UInt8)).length) ((min (((l.count c : Nat) : Int) + 1) (((l.length : Nat) : Int) + 1)).toNat) : Value) = .slice (some ⟨b1, 0, none⟩) ((splitB c l).length) ((min (((l.count c : Nat) : Int) + 1) (((l.length : Nat) : Int) + 1)).toNat) from slv rfl e2 rfl), rfl, trivial⟩, (by have hsl := splitB_len c l; have hcl := List.count_le_length (a := c) (l := l); omega), (by simp), (Nat.le_refl _), (hs2.cast (lc (own_eq (g := Str) rfl e2 rfl e1) rfl))⟩ ?_
 rintro ⟨Ag9, cg9, k, s⟩ f w3 ⟨hf, hk, hs_, hsn, hs3⟩
 obtain ⟨g1, rfl⟩ := has_upd hf
 clear hf
 refine sq ?_
 refine sq ?_
 refine rg ?_
 refine q trivial rfl rfl (mv (v := I ((k : Nat) : Int)) rfl) ?_
 refine q trivial rfl rfl (mv (v := I ((l.count c : Nat) : Int)) rfl) ?_
 refine q trivial rfl rfl (lss (k := .i64) (a := ((k : Nat) : Int)) (b := ((l.count c : Nat) : Int)) rfl rfl) ?_
 refine nl ?_
 refine nN ?_
 refine cdd (p := ((k : Nat) : Int) < ((l.count c : Nat) : Int)) rfl (fun h4 => ?_) (fun h4 => ?_)
 · refine sk ?_
   refine nN ?_
   refine bl ?_
   refine sq ?_
   refine rg ?_
   refine q trivial rfl rfl (mv (v := Str s) rfl) ?_
   refine q trivial rfl rfl (mv (v := Str [c]) rfl) ?_
   refine cl trivial rfl (stIndex (l := s) (c := c) (w := _)) ?_
   rintro _ w4 ⟨rfl, hs4'⟩
   have hs4 : SH w w4 [] [.own Ag9 ((splitB c l).length) cg9 9 1 (((splitB c l).take k ++ List.replicate ((splitB c l).length - k) ([] : List UInt8)).map Str)] := hs3.call0 hs4'
   clear hs4'
   refine q trivial rfl rfl (asg (v := I (idxB s c)) rfl) ?_
   refine nl ?_
   refine nN ?_
   refine sq ?_
   refine sq ?_
   refine rg ?_
   refine q trivial rfl rfl (mv (v := I (idxB s c)) rfl) ?_
   refine q trivial rfl rfl (lss (k := .i64) (a := idxB s c) (b := 0) rfl rfl) ?_
   refine nl ?_
   refine nN ?_
   refine cdd (p := (idxB s c) < 0) rfl (fun h5 => ?_) (fun h5 => ?_)
   · refine ex (tE (bX rfl (tE (bE ?_))))
     refine nN ?_
     refine sq ?_
     refine rg ?_
     refine q trivial rfl rfl (mv (v := .slice Ag9 ((splitB c l).length) cg9) rfl) ?_
     refine q trivial rfl rfl (mv (v := I ((k : Nat) : Int)) rfl) ?_
     refine q trivial rfl rfl (mv (v := Str s) rfl) ?_
     obtain ⟨b2, rfl⟩ := own_form hs4 0 rfl (by first | (first | omega | (simp; done) | (simp; omega)) | (have hsl := splitB_len c l; have hcl := List.count_le_length (a := c) (l := l); first | omega | (simp; done) | (simp; omega)))
     refine q trivial rfl rfl (ixo k sl77 rfl rfl (by first | (first | omega | (simp; done) | (simp; omega)) | (have hsl := splitB_len c l; have hcl := List.count_le_length (a := c) (l := l); first | omega | (simp; done) | (simp; omega)))) ?_
     refine stomn (g := Str) (ys := (splitB c l).take k ++ List.replicate ((splitB c l).length - k) ([] : List UInt8)) (o := k) (u := s) hs4 0 rfl rfl rfl rfl (by first | (first | omega | (simp; done) | (simp; omega)) | (have hsl := splitB_len c l; have hcl := List.count_le_length (a := c) (l := l); first | omega | (simp; done) | (simp; omega))) rfl one9 trivial (fun w5 (hs5 : SH w w5 [] [.own (some ⟨b2, 0, none⟩) ((splitB c l).length) cg9 9 1 ((((splitB c l).take k ++ List.replicate ((splitB c l).length - k) ([] : List UInt8)).set k s).map Str)]) => ?_)
     refine nl ?_
     refine nN ?_
     refine sq ?_
     refine rg ?_
     refine q trivial rfl rfl (mv (v := sb b2 ((splitB c l).length) cg9) rfl) ?_
     refine q trivial rfl rfl (mv (v := I ((k : Nat) : Int)) rfl) ?_
     refine q trivial rfl rfl (add (a := ((k : Nat) : Int)) (b := 1) rfl rfl (by first | (exact ⟨by omega, by omega⟩) | (have hsl := splitB_len c l; have hcl := List.count_le_length (a := c) (l := l); exact ⟨by omega, by omega⟩) | (have hsl := splitB_len c l; have hcl := List.count_le_length (a := c) (l := l); have hib := idxB_lt s c; (try have e1 : [c].length = 1 := rfl); exact ⟨by omega, by omega⟩))) ?_
     have e3 : ((((splitB c l).take k ++ List.replicate ((splitB c l).length - k) ([] : List UInt8)).set k s).map Str).take ((k + 1) * 1) = ((((splitB c l).take k ++ List.replicate ((splitB c l).length - k) ([] : List UInt8)).set k s).take (k + 1)).map Str := by first | rfl | simp [List.map_take]
     have hs6 : SH w w5 [] [.own (some ⟨b2, 0, none⟩) (k + 1) cg9 9 1 (((((splitB c l).take k ++ List.replicate ((splitB c l).length - k) ([] : List UInt8)).set k s).take (k + 1)).map Str)] := e3 ▸ SH.trunc hs5 0 (k + 1) rfl (by first | (first | omega | (simp; omega)) | (have hsl := splitB_len c l; have hcl := List.count_le_length (a := c) (l := l); first | omega | (simp; omega)) | (have hsl := splitB_len c l; have hcl := List.count_le_length (a := c) (l := l); have hib := idxB_lt s c; (try have e1 : [c].length = 1 := rfl); first | omega | (simp; omega)))
     refine q trivial rfl rfl (cuh (k + 1) sl77 rfl rfl (Nat.le_trans (by first | (first | omega | (simp; omega)) | (have hsl := splitB_len c l; have hcl := List.count_le_length (a := c) (l := l); first | omega | (simp; omega)) | (have hsl := splitB_len c l; have hcl := List.count_le_length (a := c) (l := l); have hib := idxB_lt s c; (try have e1 : [c].length = 1 := rfl); first | omega | (simp; omega))) (own_cap hs5 0 rfl).1)) ?_
     refine q trivial rfl rfl (asg (v := sb b2 (k + 1) cg9) rfl) ?_
     have e4 : k + 1 = ((((splitB c l).take k ++ List.replicate ((splitB c l).length - k) ([] : List UInt8)).set k s).take (k + 1)).length := by first | (first | rfl | (simp; done) | (simp; omega) | (simp at *; omega)) | (have hsl := splitB_len c l; have hcl := List.count_le_length (a := c) (l := l); first | rfl | (simp; done) | (simp; omega) | (simp at *; omega))
     have hs7 : SH w w5 [] [.own (some ⟨b2, 0, none⟩) (((((splitB c l).take k ++ List.replicate ((splitB c l).length - k) ([] : List UInt8)).set k s).take (k + 1)).length) cg9 9 1 (((((splitB c l).take k ++ List.replicate ((splitB c l).length - k) ([] : List UInt8)).set k s).take (k + 1)).map Str)] := (hs6.cast (lc (own_eq (g := Str) rfl e4 rfl rfl) rfl))
     refine re 8 (v := sb b2 (((((splitB c l).take k ++ List.replicate ((splitB c l).length - k) ([] : List UInt8)).set k s).take (k + 1)).length) cg9) (show (sb b2 (k + 1) cg9 : Value) = sb b2 (((((splitB c l).take k ++ List.replicate ((splitB c l).length - k) ([] : List UInt8)).set k s).take (k + 1)).length) cg9 from slv rfl e4 rfl) ?_
     refine nl ?_
     refine nN ?_
     refine rt ?_
     refine fret (v := sb b2 (((((splitB c l).take k ++ List.replicate ((splitB c l).length - k) ([] : List UInt8)).set k s).take (k + 1)).length) cg9) (.tmp .nil) rfl ?_
     have e5 : (((splitB c l).take k ++ List.replicate ((splitB c l).length - k) ([] : List UInt8)).set k s).take (k + 1) = splitB c l := by exact split_end (split_stop hs_ (by omega))
     have e6 : ((((splitB c l).take k ++ List.replicate ((splitB c l).length - k) ([] : List UInt8)).set k s).take (k + 1)).length = (splitB c l).length := by exact congrArg List.length e5
     exact ⟨(some ⟨b2, 0, none⟩), cg9, (slv rfl e6 rfl), (hs7.cast (lc (own_eq (g := Str) rfl e6 rfl e5) rfl))⟩
   · refine sk ?_
     refine nN ?_
     refine sq ?_
     refine rg ?_
     refine q trivial rfl rfl (mv (v := .slice Ag9 ((splitB c l).length) cg9) rfl) ?_
     refine q trivial rfl rfl (mv (v := I ((k : Nat) : Int)) rfl) ?_
     refine q trivial rfl rfl (mv (v := Str s) rfl) ?_
     refine q trivial rfl rfl (mv (v := I (idxB s c)) rfl) ?_
     refine q trivial rfl rfl (mv (v := I 0) rfl) ?_
     refine q trivial rfl rfl (add (a := idxB s c) (b := 0) rfl rfl (by first | (exact ⟨by omega, by omega⟩) | (have hsl := splitB_len c l; have hcl := List.count_le_length (a := c) (l := l); exact ⟨by omega, by omega⟩) | (have hsl := splitB_len c l; have hcl := List.count_le_length (a := c) (l := l); have hib := idxB_lt s c; (try have e1 : [c].length = 1 := rfl); exact ⟨by omega, by omega⟩))) ?_
     refine q trivial rfl rfl (cuhs (l := s) (((idxB s c) + 0).toNat) st9 rfl (ieq (x := (idxB s c) + 0) (by first | (omega) | (have hsl := splitB_len c l; have hcl := List.count_le_length (a := c) (l := l); omega) | (have hsl := splitB_len c l; have hcl := List.count_le_length (a := c) (l := l); have hib := idxB_lt s c; (try have e1 : [c].length = 1 := rfl); omega))) (by first | (first | omega | (simp; omega)) | (have hsl := splitB_len c l; have hcl := List.count_le_length (a := c) (l := l); first | omega | (simp; omega)) | (have hsl := splitB_len c l; have hcl := List.count_le_length (a := c) (l := l); have hib := idxB_lt s c; (try have e1 : [c].length = 1 := rfl); first | omega | (simp; omega)))) ?_
     obtain ⟨b3, rfl⟩ := own_form hs4 0 rfl (by first | (first | omega | (simp; done) | (simp; omega)) | (have hsl := splitB_len c l; have hcl := List.count_le_length (a := c) (l := l); first | omega | (simp; done) | (simp; omega)))
     refine q trivial rfl rfl (ixo k sl77 rfl rfl (by first | (first | omega | (simp; done) | (simp; omega)) | (have hsl := splitB_len c l; have hcl := List.count_le_length (a := c) (l := l); first | omega | (simp; done) | (simp; omega)))) ?_
     refine stomn (g := Str) (ys := (splitB c l).take k ++ List.replicate ((splitB c l).length - k) ([] : List UInt8)) (o := k) (u := s.take (((idxB s c) + 0).toNat)) hs4 0 rfl rfl rfl rfl (by first | (first | omega | (simp; done) | (simp; omega)) | (have hsl := splitB_len c l; have hcl := List.count_le_length (a := c) (l := l); first | omega | (simp; done) | (simp; omega))) rfl one9 trivial (fun w6 (hs8 : SH w w6 [] [.own (some ⟨b3, 0, none⟩) ((splitB c l).length) cg9 9 1 ((((splitB c l).take k ++ List.replicate ((splitB c l).length - k) ([] : List UInt8)).set k (s.take (((idxB s c) + 0).toNat))).map Str)]) => ?_)
     refine nl ?_
     refine nN ?_
     refine sq ?_
     refine rg ?_
     refine q trivial rfl rfl (mv (v := Str s) rfl) ?_
     refine q trivial rfl rfl (mv (v := I (idxB s c)) rfl) ?_
     refine q trivial rfl rfl (mv (v := Str [c]) rfl) ?_
     refine q trivial rfl rfl (lnS (l := [c]) st9 rfl) ?_
     refine q trivial rfl rfl (add (a := idxB s c) (b := (([c].length : Nat) : Int)) rfl rfl (by first | (exact ⟨by omega, by omega⟩) | (have hsl := splitB_len c l; have hcl := List.count_le_length (a := c) (l := l); exact ⟨by omega, by omega⟩) | (have hsl := splitB_len c l; have hcl := List.count_le_length (a := c) (l := l); have hib := idxB_lt s c; (try have e1 : [c].length = 1 := rfl); exact ⟨by omega, by omega⟩))) ?_
     refine q trivial rfl rfl (culs (l := s) (((idxB s c) + (([c].length : Nat) : Int)).toNat) st9 rfl (ieq (x := (idxB s c) + (([c].length : Nat) : Int)) (by first | (omega) | (have hsl := splitB_len c l; have hcl := List.count_le_length (a := c) (l := l); omega) | (have hsl := splitB_len c l; have hcl := List.count_le_length (a := c) (l := l); have hib := idxB_lt s c; (try have e1 : [c].length = 1 := rfl); omega))) (by first | (first | omega | (simp; omega)) | (have hsl := splitB_len c l; have hcl := List.count_le_length (a := c) (l := l); first | omega | (simp; omega)) | (have hsl := splitB_len c l; have hcl := List.count_le_length (a := c) (l := l); have hib := idxB_lt s c; (try have e1 : [c].length = 1 := rfl); first | omega | (simp; omega)))) ?_
     refine q trivial rfl rfl (asg (v := Str (s.drop (((idxB s c) + (([c].length : Nat) : Int)).toNat))) rfl) ?_
     refine nl ?_
     refine nN ?_
     refine rg ?_
     refine q trivial rfl rfl (mv (v := I ((k : Nat) : Int)) rfl) ?_
     refine q trivial rfl rfl (add (a := ((k : Nat) : Int)) (b := 1) rfl rfl (by first | (exact ⟨by omega, by omega⟩) | (have hsl := splitB_len c l; have hcl := List.count_le_length (a := c) (l := l); exact ⟨by omega, by omega⟩) | (have hsl := splitB_len c l; have hcl := List.count_le_length (a := c) (l := l); have hib := idxB_lt s c; (try have e1 : [c].length = 1 := rfl); exact ⟨by omega, by omega⟩))) ?_
     refine q trivial rfl rfl (asg (v := I (((k : Nat) : Int) + 1)) rfl) ?_
     refine nl ?_
     refine bN ?_
     refine nN ?_
     have e7 : ((splitB c l).take k ++ List.replicate ((splitB c l).length - k) ([] : List UInt8)).set k (s.take (((idxB s c) + 0).toNat)) = (splitB c l).take (k + 1) ++ List.replicate ((splitB c l).length - (k + 1)) ([] : List UInt8) := by exact split_set (split_take hs_ (by omega) (by omega))
     refine ⟨((some ⟨b3, 0, none⟩), cg9, k + 1, (s.drop (((idxB s c) + (([c].length : Nat) : Int)).toNat))), ⟨⟨rfl, rfl, rfl, rfl, rfl, rfl, trivial⟩, (by have h_ := splitB_len c l; omega), (split_next hs_ (by omega) (by simp; omega)), (by simp; omega), (hs8.cast (lc (own_eq (g := Str) rfl rfl rfl e7) rfl))⟩, ?_⟩
     show l.length + 1 - (k + 1) < l.length + 1 - k
     (have hcl := List.count_le_length (a := c) (l := l); omega)
 · refine ex (tE (tE (bE ?_)))
   refine nN ?_
   refine sq ?_
   refine rg ?_
   refine q trivial rfl rfl (mv (v := .slice Ag9 ((splitB c l).length) cg9) rfl) ?_
   refine q trivial rfl rfl (mv (v := I ((k : Nat) : Int)) rfl) ?_
   refine q trivial rfl rfl (mv (v := Str s) rfl) ?_
   obtain ⟨b4, rfl⟩ := own_form hs3 0 rfl (by first | (first | omega | (simp; done) | (simp; omega)) | (have hsl := splitB_len c l; have hcl := List.count_le_length (a := c) (l := l); first | omega | (simp; done) | (simp; omega)))
   refine q trivial rfl rfl (ixo k sl77 rfl rfl (by first | (first | omega | (simp; done) | (simp; omega)) | (have hsl := splitB_len c l; have hcl := List.count_le_length (a := c) (l := l); first | omega | (simp; done) | (simp; omega)))) ?_
   refine stomn (g := Str) (ys := (splitB c l).take k ++ List.replicate ((splitB c l).length - k) ([] : List UInt8)) (o := k) (u := s) hs3 0 rfl rfl rfl rfl (by first | (first | omega | (simp; done) | (simp; omega)) | (have hsl := splitB_len c l; have hcl := List.count_le_length (a := c) (l := l); first | omega | (simp; done) | (simp; omega))) rfl one9 trivial (fun w7 (hs9 : SH w w7 [] [.own (some ⟨b4, 0, none⟩) ((splitB c l).length) cg9 9 1 ((((splitB c l).take k ++ List.replicate ((splitB c l).length - k) ([] : List UInt8)).set k s).map Str)]) => ?_)
   refine nl ?_
   refine nN ?_
   refine sq ?_
   refine rg ?_
   refine q trivial rfl rfl (mv (v := sb b4 ((splitB c l).length) cg9) rfl) ?_
   refine q trivial rfl rfl (mv (v := I ((k : Nat) : Int)) rfl) ?_
   refine q trivial rfl rfl (add (a := ((k : Nat) : Int)) (b := 1) rfl rfl (by first | (exact ⟨by omega, by omega⟩) | (have hsl := splitB_len c l; have hcl := List.count_le_length (a := c) (l := l); exact ⟨by omega, by omega⟩) | (have hsl := splitB_len c l; have hcl := List.count_le_length (a := c) (l := l); have hib := idxB_lt s c; (try have e1 : [c].length = 1 := rfl); exact ⟨by omega, by omega⟩))) ?_
   have e8 : ((((splitB c l).take k ++ List.replicate ((splitB c l).length - k) ([] : List UInt8)).set k s).map Str).take ((k + 1) * 1) = ((((splitB c l).take k ++ List.replicate ((splitB c l).length - k) ([] : List UInt8)).set k s).take (k + 1)).map Str := by first | rfl | simp [List.map_take]
   have hs10 : SH w w7 [] [.own (some ⟨b4, 0, none⟩) (k + 1) cg9 9 1 (((((splitB c l).take k ++ List.replicate ((splitB c l).length - k) ([] : List UInt8)).set k s).take (k + 1)).map Str)] := e8 ▸ SH.trunc hs9 0 (k + 1) rfl (by first | (first | omega | (simp; omega)) | (have hsl := splitB_len c l; have hcl := List.count_le_length (a := c) (l := l); first | omega | (simp; omega)) | (have hsl := splitB_len c l; have hcl := List.count_le_length (a := c) (l := l); have hib := idxB_lt s c; (try have e1 : [c].length = 1 := rfl); first | omega | (simp; omega)))
   refine q trivial rfl rfl (cuh (k + 1) sl77 rfl rfl (Nat.le_trans (by first | (first | omega | (simp; omega)) | (have hsl := splitB_len c l; have hcl := List.count_le_length (a := c) (l := l); first | omega | (simp; omega)) | (have hsl := splitB_len c l; have hcl := List.count_le_length (a := c) (l := l); have hib := idxB_lt s c; (try have e1 : [c].length = 1 := rfl); first | omega | (simp; omega))) (own_cap hs9 0 rfl).1)) ?_
   refine q trivial rfl rfl (asg (v := sb b4 (k + 1) cg9) rfl) ?_
   have e9 : k + 1 = ((((splitB c l).take k ++ List.replicate ((splitB c l).length - k) ([] : List UInt8)).set k s).take (k + 1)).length := by first | (first | rfl | (simp; done) | (simp; omega) | (simp at *; omega)) | (have hsl := splitB_len c l; have hcl := List.count_le_length (a := c) (l := l); first | rfl | (simp; done) | (simp; omega) | (simp at *; omega))
   have hs11 : SH w w7 [] [.own (some ⟨b4, 0, none⟩) (((((splitB c l).take k ++ List.replicate ((splitB c l).length - k) ([] : List UInt8)).set k s).take (k + 1)).length) cg9 9 1 (((((splitB c l).take k ++ List.replicate ((splitB c l).length - k) ([] : List UInt8)).set k s).take (k + 1)).map Str)] := (hs10.cast (lc (own_eq (g := Str) rfl e9 rfl rfl) rfl))
   refine re 8 (v := sb b4 (((((splitB c l).take k ++ List.replicate ((splitB c l).length - k) ([] : List UInt8)).set k s).take (k + 1)).length) cg9) (show (sb b4 (k + 1) cg9 : Value) = sb b4 (((((splitB c l).take k ++ List.replicate ((splitB c l).length - k) ([] : List UInt8)).set k s).take (k + 1)).length) cg9 from slv rfl e9 rfl) ?_
   refine nl ?_
   refine nN ?_
   refine rt ?_
   refine fret (v := sb b4 (((((splitB c l).take k ++ List.replicate ((splitB c l).length - k) ([] : List UInt8)).set k s).take (k + 1)).length) cg9) (.tmp .nil) rfl ?_
   have e10 : (((splitB c l).take k ++ List.replicate ((splitB c l).length - k) ([] : List UInt8)).set k s).take (k + 1) = splitB c l := by exact split_end (split_last hs_ hk (by omega))
   have e11 : ((((splitB c l).take k ++ List.replicate ((splitB c l).length - k) ([] : List UInt8)).set k s).take (k + 1)).length = (splitB c l).length := by exact congrArg List.length e10
   exact ⟨(some ⟨b4, 0, none⟩), cg9, (slv rfl e11 rfl), (hs11.cast (lc (own_eq (g := Str) rfl e11 rfl e10) rfl))⟩

theorem stSplit (l : List UInt8) (c : UInt8) (w : World) (hl_n : l.length ≤ 1099511627776) : Does Tryd.prog 84 [Str l, Str [c]] w (fun v w' => ∃ Ar : Option Addr, ∃ cr : Nat, v = .slice Ar (splitB c l).length cr ∧ SH w w' [] [.own Ar ((splitB c l).length) cr 9 1 ((splitB c l).map Str)]) := by
 refine fn_enter (N := 8) Tryd.func84 rfl (by kernel_rfl) rfl rfl rfl ?_
 have hs0 : SH w w [] [] := SH.refl w []
 refine sq ?_
 refine rg ?_
 refine q trivial rfl rfl (asg (v := ns) rfl) ?_
 refine nl ?_
 refine nN ?_
 refine sq ?_
 refine rg ?_
 refine q trivial rfl rfl (mv (v := Str l) rfl) ?_
 refine q trivial rfl rfl (mv (v := Str [c]) rfl) ?_
 refine cl trivial rfl (genSplit (l := l) (c := c) (w := _) (hl_n := (by first | omega | (simp; done) | (simp; omega)))) ?_
 rintro _ w1 ⟨A1, c1, rfl, hs1'⟩
 have hs1 : SH w w1 [] [.own A1 ((splitB c l).length) c1 9 1 ((splitB c l).map Str)] := hs0.call0 hs1'
 clear hs1'
 refine q trivial rfl rfl (asg (v := .slice A1 ((splitB c l).length) c1) rfl) ?_
 refine nl ?_
 refine nN ?_
 refine rt ?_
 refine fret (v := .slice A1 ((splitB c l).length) c1) (.tmp .nil) rfl ?_
 exact ⟨A1, c1, rfl, hs1⟩

theorem l2Cut (l : List UInt8) (c : UInt8) (w : World) (hl_n : l.length ≤ 1099511627776) : Does Tryd.prog 63 [Str l, .int .u8 ((c.toNat : Nat) : Int)] w (fun v w' => ∃ Ar : Option Addr, ∃ cr : Nat, v = .slice Ar (splitB c l).length cr ∧ SH w w' [] [.own Ar ((splitB c l).length) cr 9 1 ((splitB c l).map Str)]) := by
 refine fn_enter (N := 35) Tryd.func63 rfl (by kernel_rfl) rfl rfl rfl ?_
 have hs0 : SH w w [] [] := SH.refl w []
 refine sq ?_
 refine rg ?_
 refine q trivial rfl rfl (asg (v := ns) rfl) ?_
 refine nl ?_
 refine nN ?_
 refine sq ?_
 refine rg ?_
 refine bsk hs0 sl77 [] [] trivial rfl (fun b1 w1 (hs1 : SH w w1 [] [.own (some ⟨b1, 0, none⟩) (([] : List (List UInt8)).length) 0 9 1 (([] : List (List UInt8)).map Str)]) => ?_)
 refine q trivial rfl rfl (asg (v := sb b1 (([] : List (List UInt8)).length) 0) rfl) ?_
 refine nl ?_
 refine nN ?_
 refine sq ?_
 refine rg ?_
 refine q trivial rfl rfl (asg (v := I 0) rfl) ?_
 refine nl ?_
 refine nN ?_
 refine sq ?_
 refine sq ?_
 refine rg ?_
 refine q trivial rfl rfl (asg (v := I 0) rfl) ?_
 refine nl ?_
 refine nN ?_
 refine bl ?_
 refine lp (σ := (Option Addr) × Nat × Nat × Nat × (List (List UInt8))) (fun ⟨Ag5, cg5, i, a, zs⟩ f w' => Has f [(0, Str l), (1, .int .u8 ((c.toNat : Nat) : Int)), (5, .slice Ag5 zs.length cg5), (6, I ((a : Nat) : Int)), (7, I ((i : Nat) : Int))] ∧ (i ≤ l.length) ∧ (a ≤ i) ∧ (zs ++ splitB c (l.drop a) = splitB c l) ∧ (∀ j, a ≤ j → j < i → l.getD j 0 ≠ c) ∧ SH w w' [] [.own Ag5 zs.length cg5 9 1 (zs.map Str)]) (fun ⟨Ag5, cg5, i, a, zs⟩ => l.length - i) ((some ⟨b1, 0, none⟩), 0, 0, 0, ([] : List (List UInt8))) ⟨⟨rfl, rfl, rfl, rfl, rfl, trivial⟩, (by omega), (by omega), (by simp), (by intro j _ hj; omega), hs1⟩ ?_
 rintro ⟨Ag5, cg5, i, a, zs⟩ f w2 ⟨hf, hi, ha, hz, hn, hs2⟩
 obtain ⟨g1, rfl⟩ := has_upd hf
 clear hf
 refine sq ?_
 refine sq ?_
 refine rg ?_
 refine q trivial rfl rfl (mv (v := I ((i : Nat) : Int)) rfl) ?_
 refine q trivial rfl rfl (mv (v := Str l) rfl) ?_
 refine q trivial rfl rfl (lnS (l := l) st9 rfl) ?_
 refine q trivial rfl rfl (lss (k := .i64) (a := ((i : Nat) : Int)) (b := ((l.length : Nat) : Int)) rfl rfl) ?_
 refine nl ?_
 refine nN ?_
 refine cdd (p := ((i : Nat) : Int) < ((l.length : Nat) : Int)) rfl (fun h1 => ?_) (fun h1 => ?_)
 · refine sk ?_
   refine nN ?_
   refine sq ?_
   refine bl ?_
   refine sq ?_
   refine rg ?_
   refine q trivial rfl rfl (mv (v := Str l) rfl) ?_
   refine q trivial rfl rfl (mv (v := I ((i : Nat) : Int)) rfl) ?_
   refine q trivial rfl rfl (ixs (l := l) i st9 rfl rfl (by first | (first | omega | (simp; done) | (simp; omega)) | (have hzl := cut_len hz; first | omega | (simp; done) | (simp; omega)))) ?_
   refine q trivial rfl rfl (mv (v := .int .u8 ((c.toNat : Nat) : Int)) rfl) ?_
   refine q trivial rfl rfl (eqi (k := .u8) (a := (((l.getD i 0).toNat : Nat) : Int)) (b := ((c.toNat : Nat) : Int)) rfl rfl) ?_
   refine nl ?_
   refine nN ?_
   refine cdd (p := (((l.getD i 0).toNat : Nat) : Int) = ((c.toNat : Nat) : Int)) rfl (fun h2 => ?_) (fun h2 => ?_)
   · refine sq ?_
     refine rg ?_
     refine q trivial rfl rfl (mv (v := .slice Ag5 zs.length cg5) rfl) ?_
     refine q trivial rfl rfl (mv (v := Str l) rfl) ?_
     refine q trivial rfl rfl (mv (v := I ((a : Nat) : Int)) rfl) ?_
     refine q trivial rfl rfl (mv (v := I ((i : Nat) : Int)) rfl) ?_
     refine q trivial rfl rfl (cus (l := l) a i st9 rfl rfl rfl (by first | (first | omega | (simp; done) | (simp; omega)) | (have hzl := cut_len hz; first | omega | (simp; done) | (simp; omega))) (by first | (first | omega | (simp; done) | (simp; omega)) | (have hzl := cut_len hz; first | omega | (simp; done) | (simp; omega)))) ?_
     refine bsk hs2 sl77 [Str ((l.take i).drop a)] [Str ((l.take i).drop a)] trivial rfl (fun b2 w3 (hs3 : SH w w3 [] [.own Ag5 zs.length cg5 9 1 (zs.map Str), .own (some ⟨b2, 0, none⟩) (([(l.take i).drop a] : List (List UInt8)).length) 1 9 1 (([(l.take i).drop a] : List (List UInt8)).map Str)]) => ?_)
     refine apm (g := Str) (ys := zs) (zs := ([(l.take i).drop a] : List (List UInt8))) hs3 0 rfl sl77 rfl rfl rfl (hs3.sl0 1 rfl) (fun _ => rfl) (by unfold maxLen; first | (first | omega | (simp; done) | (simp; omega)) | (have hzl := cut_len hz; first | omega | (simp; done) | (simp; omega))) (by first | (first | omega | (simp; done) | (simp; omega)) | (have hzl := cut_len hz; first | omega | (simp; done) | (simp; omega))) trivial rfl (fun A1 c1 w4 (hs4 : SH w w4 [] [.own (some ⟨b2, 0, none⟩) (([(l.take i).drop a] : List (List UInt8)).length) 1 9 1 (([(l.take i).drop a] : List (List UInt8)).map Str), .own A1 ((zs ++ ([(l.take i).drop a] : List (List UInt8))).length) c1 9 1 ((zs ++ ([(l.take i).drop a] : List (List UInt8))).map Str)]) => ?_)
     refine q trivial rfl rfl (asg (v := .slice A1 ((zs ++ ([(l.take i).drop a] : List (List UInt8))).length) c1) rfl) ?_
     refine nl ?_
     refine nN ?_
     refine rg ?_
     refine q trivial rfl rfl (mv (v := I ((i : Nat) : Int)) rfl) ?_
     refine q trivial rfl rfl (add (a := ((i : Nat) : Int)) (b := 1) rfl rfl (by first | (exact ⟨by omega, by omega⟩) | (have hzl := cut_len hz; exact ⟨by omega, by omega⟩))) ?_
     refine q trivial rfl rfl (asg (v := I (((i : Nat) : Int) + 1)) rfl) ?_
     refine nl ?_
     refine bN ?_
     refine nN ?_
     refine rg ?_
     refine q trivial rfl rfl (mv (v := I ((i : Nat) : Int)) rfl) ?_
     refine q trivial rfl rfl (add (a := ((i : Nat) : Int)) (b := 1) rfl rfl (by first | (exact ⟨by omega, by omega⟩) | (have hzl := cut_len hz; exact ⟨by omega, by omega⟩))) ?_
     refine q trivial rfl rfl (asg (v := I (((i : Nat) : Int) + 1)) rfl) ?_
     refine nl ?_
     refine nN ?_
     refine ⟨(A1, c1, i + 1, i + 1, (zs ++ ([(l.take i).drop a] : List (List UInt8)))), ⟨⟨rfl, rfl, rfl, rfl, rfl, trivial⟩, (by omega), (by omega), (cut_step hz ha (by omega) hn (u8_eq (by omega))), (by intro j h_ hj; omega), (hs4.pick [1] rfl (by decide))⟩, ?_⟩
     show l.length - (i + 1) < l.length - i
     omega
   · refine sk ?_
     refine bN ?_
     refine nN ?_
     refine rg ?_
     refine q trivial rfl rfl (mv (v := I ((i : Nat) : Int)) rfl) ?_
     refine q trivial rfl rfl (add (a := ((i : Nat) : Int)) (b := 1) rfl rfl (by first | (exact ⟨by omega, by omega⟩) | (have hzl := cut_len hz; exact ⟨by omega, by omega⟩))) ?_
     refine q trivial rfl rfl (asg (v := I (((i : Nat) : Int) + 1)) rfl) ?_
     refine nl ?_
     refine nN ?_
     refine ⟨(Ag5, cg5, i + 1, a, zs), ⟨⟨rfl, rfl, rfl, rfl, rfl, trivial⟩, (by omega), (by omega), (hz), (by intro j h_ hj; rcases Nat.lt_succ_iff_lt_or_eq.1 hj with h | h; exact hn j h_ h; subst h; intro he; exact absurd (congrArg (fun z => ((UInt8.toNat z : Nat) : Int)) he) (by assumption)), hs2⟩, ?_⟩
     show l.length - (i + 1) < l.length - i
     omega
 · refine ex (tE (tE (bE ?_)))
   refine nN ?_
   refine sq ?_
   refine rg ?_
   refine q trivial rfl rfl (mv (v := .slice Ag5 zs.length cg5) rfl) ?_
   refine q trivial rfl rfl (mv (v := Str l) rfl) ?_
   refine q trivial rfl rfl (mv (v := I ((a : Nat) : Int)) rfl) ?_
   refine q trivial rfl rfl (culs (l := l) a st9 rfl rfl (by first | (first | omega | (simp; done) | (simp; omega)) | (have hzl := cut_len hz; first | omega | (simp; done) | (simp; omega)))) ?_
   refine bsk hs2 sl77 [Str (l.drop a)] [Str (l.drop a)] trivial rfl (fun b3 w5 (hs5 : SH w w5 [] [.own Ag5 zs.length cg5 9 1 (zs.map Str), .own (some ⟨b3, 0, none⟩) (([l.drop a] : List (List UInt8)).length) 1 9 1 (([l.drop a] : List (List UInt8)).map Str)]) => ?_)
   refine apm (g := Str) (ys := zs) (zs := ([l.drop a] : List (List UInt8))) hs5 0 rfl sl77 rfl rfl rfl (hs5.sl0 1 rfl) (fun _ => rfl) (by unfold maxLen; first | (first | omega | (simp; done) | (simp; omega)) | (have hzl := cut_len hz; first | omega | (simp; done) | (simp; omega))) (by first | (first | omega | (simp; done) | (simp; omega)) | (have hzl := cut_len hz; first | omega | (simp; done) | (simp; omega))) trivial rfl (fun A2 c2 w6 (hs6 : SH w w6 [] [.own (some ⟨b3, 0, none⟩) (([l.drop a] : List (List UInt8)).length) 1 9 1 (([l.drop a] : List (List UInt8)).map Str), .own A2 ((zs ++ ([l.drop a] : List (List UInt8))).length) c2 9 1 ((zs ++ ([l.drop a] : List (List UInt8))).map Str)]) => ?_)
   refine q trivial rfl rfl (asg (v := .slice A2 ((zs ++ ([l.drop a] : List (List UInt8))).length) c2) rfl) ?_
   refine nl ?_
   refine nN ?_
   refine rt ?_
   refine fret (v := .slice A2 ((zs ++ ([l.drop a] : List (List UInt8))).length) c2) (.tmp .nil) rfl ?_
   have e1 : zs ++ ([l.drop a] : List (List UInt8)) = splitB c l := by exact cut_end hz (by omega) hn
   have e2 : (zs ++ ([l.drop a] : List (List UInt8))).length = (splitB c l).length := by exact congrArg List.length e1
   exact ⟨A2, c2, (slv rfl e2 rfl), ((hs6.pick [1] rfl (by decide)).cast (lc (own_eq (g := Str) rfl e2 rfl e1) rfl))⟩

theorem iNameValid (l : List UInt8) (w : World) (hl_n : l.length ≤ 1099511627776) : Does Tryd.prog 69 [Str l] w (fun v w' => v = .bool (nameOk l) ∧ SH w w' [] []) := by
 refine fn_enter (N := 35) Tryd.func69 rfl (by kernel_rfl) rfl rfl rfl ?_
 have hs0 : SH w w [] [] := SH.refl w []
 refine sq ?_
 refine rg ?_
 refine q trivial rfl rfl (asg (v := .bool false) rfl) ?_
 refine nl ?_
 refine nN ?_
 refine sq ?_
 refine rg ?_
 refine q trivial rfl rfl (mv (v := Str l) rfl) ?_
 refine cl trivial rfl (stSplit (l := l) (c := 46) (w := _) (hl_n := (by first | (first | omega | (simp; done) | (simp; omega)) | (have hsb := splitB_getD 46 l k; have hsl := splitB_len 46 l; have hcl := List.count_le_length (a := (46 : UInt8)) (l := l); first | omega | (simp; done) | (simp; omega))))) ?_
 rintro _ w1 ⟨A1, c1, rfl, hs1'⟩
 have hs1 : SH w w1 [] [.own A1 ((splitB 46 l).length) c1 9 1 ((splitB 46 l).map Str)] := hs0.call0 hs1'
 clear hs1'
 refine q trivial rfl rfl (asg (v := .slice A1 ((splitB 46 l).length) c1) rfl) ?_
 refine nl ?_
 refine nN ?_
 refine sq ?_
 refine sq ?_
 refine rg ?_
 refine q trivial rfl rfl (mv (v := .slice A1 ((splitB 46 l).length) c1) rfl) ?_
 refine q trivial rfl rfl (lnA (n := (splitB 46 l).length) sl77 rfl) ?_
 refine q trivial rfl rfl (mv (v := I 0) rfl) ?_
 refine nl ?_
 refine nN ?_
 refine bl ?_
 refine lp (σ := Nat) (fun (k : Nat) f w' => Has f [(0, Str l), (3, .slice A1 ((splitB 46 l).length) c1), (8, .slice A1 ((splitB 46 l).length) c1), (9, I (((splitB 46 l).length : Nat) : Int)), (10, I ((k : Nat) : Int))] ∧ (k ≤ (splitB 46 l).length) ∧ (((splitB 46 l).take k).all partOk = true) ∧ SH w w' [] [.own A1 ((splitB 46 l).length) c1 9 1 ((splitB 46 l).map Str)]) (fun k => (splitB 46 l).length - k) 0 ⟨⟨rfl, rfl, rfl, rfl, rfl, trivial⟩, (by simp), (by simp), hs1⟩ ?_
 rintro k f w2 ⟨hf, hk, ha, hs2⟩
 obtain ⟨g1, rfl⟩ := has_upd hf
 clear hf
 refine sq ?_
 refine rg ?_
 refine q trivial rfl rfl (lss (k := .i64) (a := ((k : Nat) : Int)) (b := (((splitB 46 l).length : Nat) : Int)) rfl rfl) ?_
 refine nl ?_
 refine nN ?_
 refine sq ?_
 refine cdd (p := ((k : Nat) : Int) < (((splitB 46 l).length : Nat) : Int)) rfl (fun h1 => ?_) (fun h1 => ?_)
 · refine sk ?_
   refine nN ?_
   refine sq ?_
   refine bl ?_
   refine sq ?_
   refine rg ?_
   refine ixw1 k sl77 rfl rfl (hs2.sl0 0 rfl) (by first | (first | omega | (simp; done) | (simp; omega)) | (have hsb := splitB_getD 46 l k; have hsl := splitB_len 46 l; have hcl := List.count_le_length (a := (46 : UInt8)) (l := l); first | omega | (simp; done) | (simp; omega))) (getm Str [] (by first | (first | omega | (simp; done) | (simp; omega)) | (have hsb := splitB_getD 46 l k; have hsl := splitB_len 46 l; have hcl := List.count_le_length (a := (46 : UInt8)) (l := l); first | omega | (simp; done) | (simp; omega)))) trivial rfl (fun a1 ha1 => ?_)
   refine q trivial rfl rfl (lda (v := Str ((splitB 46 l).getD k [])) (SH.refl w2 []) ha1 (fun _ h => h) rfl rfl one9) ?_
   refine q trivial rfl rfl (asg (v := Str ((splitB 46 l).getD k [])) rfl) ?_
   refine nl ?_
   refine nN ?_
   refine sq ?_
   refine rg ?_
   refine q trivial rfl rfl (mv (v := Str ((splitB 46 l).getD k [])) rfl) ?_
   refine q trivial rfl rfl (eqs (l := (splitB 46 l).getD k []) (m := []) rfl rfl) ?_
   refine q trivial rfl rfl (mv (v := .bool (decide ((splitB 46 l).getD k [] = []))) rfl) ?_
   refine spd (p := (splitB 46 l).getD k [] = []) 16 rfl (fun h2 => ?_) (fun h2 => ?_)
   · refine gk true rfl rfl rfl rfl rfl ?_
     refine gk true rfl rfl rfl rfl rfl ?_
     refine gk true rfl rfl rfl rfl rfl ?_
     refine q trivial rfl rfl (pt (v := .bool true) rfl rfl) ?_
     refine nl ?_
     refine nN ?_
     refine cdt rfl ?_
     refine sq ?_
     refine rg ?_
     refine q trivial rfl rfl (asg (v := .bool false) rfl) ?_
     refine nl ?_
     refine nN ?_
     refine rt (bR (tR (tR (bR (tR ?_)))))
     refine fret (v := .bool false) (.tmp .nil) rfl ?_
     have e1 : false = nameOk l := by first | (exact (name_bad (k := k) (by omega) (part_nil (by assumption))).symm) | (exact (name_bad (k := k) (by omega) (part_len0 (by omega))).symm) | (exact (name_bad (k := k) (by omega) (part_bad (by assumption))).symm) | (exact (name_bad (k := k) (by omega) (part_bad1 (j := j) (by omega) (by assumption))).symm) | (exact (name_end2 (by omega) ha (by omega)).symm) | (exact (name_end1 (by omega) ha (by omega)).symm) | exact name_end3 (by omega) ha (by omega) (by assumption) | exact name_end4 (by omega) ha (by omega) (by assumption)
     exact ⟨(congrArg (Value.bool) e1), (hs2.pick [] rfl (by decide))⟩
   · refine q ⟨_, rfl, rfl⟩ rfl rfl (mv (v := Str ((splitB 46 l).getD k [])) rfl) ?_
     refine cl ⟨_, rfl, rfl⟩ rfl (iConsists (l := (splitB 46 l).getD k []) (m := [45]) (w := _) (hl_n := (by first | (first | omega | (simp; done) | (simp; omega)) | (have hsb := splitB_getD 46 l k; have hsl := splitB_len 46 l; have hcl := List.count_le_length (a := (46 : UInt8)) (l := l); first | omega | (simp; done) | (simp; omega))))) ?_
     rintro _ w3 ⟨rfl, hs3'⟩
     have hs3 : SH w w3 [] [.own A1 ((splitB 46 l).length) c1 9 1 ((splitB 46 l).map Str)] := hs2.call0 hs3'
     clear hs3'
     refine q ⟨_, rfl, rfl⟩ rfl rfl (nt (b := ((splitB 46 l).getD k []).all (okC [45])) rfl) ?_
     refine q trivial rfl rfl (pf (v := .bool (!(((splitB 46 l).getD k []).all (okC [45])))) rfl rfl) ?_
     refine nl ?_
     refine nN ?_
     refine cd (b := !(((splitB 46 l).getD k []).all (okC [45]))) rfl (fun h3 => ?_) (fun h3 => ?_)
     · have h4 : (((splitB 46 l).getD k []).all (okC [45])) = false := by simpa using h3
       refine sq ?_
       refine rg ?_
       refine q trivial rfl rfl (asg (v := .bool false) rfl) ?_
       refine nl ?_
       refine nN ?_
       refine rt (bR (tR (tR (bR (tR ?_)))))
       refine fret (v := .bool false) (.tmp .nil) rfl ?_
       have e2 : false = nameOk l := by first | (exact (name_bad (k := k) (by omega) (part_nil (by assumption))).symm) | (exact (name_bad (k := k) (by omega) (part_len0 (by omega))).symm) | (exact (name_bad (k := k) (by omega) (part_bad (by assumption))).symm) | (exact (name_bad (k := k) (by omega) (part_bad1 (j := j) (by omega) (by assumption))).symm) | (exact (name_end2 (by omega) ha (by omega)).symm) | (exact (name_end1 (by omega) ha (by omega)).symm) | exact name_end3 (by omega) ha (by omega) (by assumption) | exact name_end4 (by omega) ha (by omega) (by assumption)
       exact ⟨(congrArg (Value.bool) e2), (hs3.pick [] rfl (by decide))⟩
     · have h5 : (((splitB 46 l).getD k []).all (okC [45])) = true := by simpa using h3
       refine sk ?_
       refine bN ?_
       refine nN ?_
       refine rg ?_
       refine q trivial rfl rfl (add (a := ((k : Nat) : Int)) (b := 1) rfl rfl (by first | (exact ⟨by omega, by omega⟩) | (have hsb := splitB_getD 46 l k; have hsl := splitB_len 46 l; have hcl := List.count_le_length (a := (46 : UInt8)) (l := l); exact ⟨by omega, by omega⟩))) ?_
       refine q trivial rfl rfl (mv (v := I (((k : Nat) : Int) + 1)) rfl) ?_
       refine nl ?_
       refine nN ?_
       refine ⟨(k + 1), ⟨⟨rfl, rfl, rfl, rfl, rfl, trivial⟩, (by omega), (all_step (d := []) (by omega) ha (part_mk (by assumption) (by assumption))), hs3⟩, ?_⟩
       omega
 · refine ex (tE (tE (bE ?_)))
   refine nN ?_
   refine sq ?_
   refine rg ?_
   refine q trivial rfl rfl (mv (v := Str l) rfl) ?_
   refine q trivial rfl rfl (lnS (l := l) st9 rfl) ?_
   refine q trivial rfl rfl (leq (k := .i64) (a := ((l.length : Nat) : Int)) (b := 20) rfl rfl) ?_
   refine q trivial rfl rfl (mv (v := .bool (decide (((l.length : Nat) : Int) ≤ 20))) rfl) ?_
   refine spd (p := ((l.length : Nat) : Int) ≤ 20) 25 rfl (fun h6 => ?_) (fun h6 => ?_)
   · refine q ⟨_, rfl, rfl⟩ rfl rfl (mv (v := .slice A1 ((splitB 46 l).length) c1) rfl) ?_
     refine q ⟨_, rfl, rfl⟩ rfl rfl (mv (v := .slice A1 ((splitB 46 l).length) c1) rfl) ?_
     refine q ⟨_, rfl, rfl⟩ rfl rfl (lnA (n := (splitB 46 l).length) sl77 rfl) ?_
     refine q ⟨_, rfl, rfl⟩ rfl rfl (subN (a := (splitB 46 l).length) (b := 1) rfl rfl (by have hsb := splitB_getD 46 l k; have hsl := splitB_len 46 l; have hcl := List.count_le_length (a := (46 : UInt8)) (l := l); have := splitB_pos 46 l; omega) (by have hsb := splitB_getD 46 l k; have hsl := splitB_len 46 l; have hcl := List.count_le_length (a := (46 : UInt8)) (l := l); have := splitB_pos 46 l; omega)) ?_
     refine ixw1 (((splitB 46 l).length) - 1) sl77 rfl rfl (hs2.sl0 0 rfl) (by first | (first | omega | (simp; done) | (simp; omega)) | (have hsb := splitB_getD 46 l k; have hsl := splitB_len 46 l; have hcl := List.count_le_length (a := (46 : UInt8)) (l := l); first | omega | (simp; done) | (simp; omega))) (getm Str [] (by first | (first | omega | (simp; done) | (simp; omega)) | (have hsb := splitB_getD 46 l k; have hsl := splitB_len 46 l; have hcl := List.count_le_length (a := (46 : UInt8)) (l := l); first | omega | (simp; done) | (simp; omega)))) ⟨_, rfl, rfl⟩ rfl (fun a2 ha2 => ?_)
     refine q ⟨_, rfl, rfl⟩ rfl rfl (lda (v := Str ((splitB 46 l).getD (((splitB 46 l).length) - 1) [])) (SH.refl w2 []) ha2 (fun _ h => h) rfl rfl one9) ?_
     refine q ⟨_, rfl, rfl⟩ rfl rfl (ixs (l := (splitB 46 l).getD (((splitB 46 l).length) - 1) []) 0 st9 rfl rfl (by exact name_last (by omega) ha (by have := splitB_pos 46 l; omega))) ?_
     refine cl ⟨_, rfl, rfl⟩ rfl (iLetter (c := (((splitB 46 l).getD (((splitB 46 l).length) - 1) []).getD 0 0)) (w := _)) ?_
     rintro _ w4 ⟨rfl, hs4'⟩
     have hs4 : SH w w4 [] [.own A1 ((splitB 46 l).length) c1 9 1 ((splitB 46 l).map Str)] := hs2.call0 hs4'
     clear hs4'
     refine q trivial rfl rfl (pt (v := .bool (decide (97 ≤ (((((splitB 46 l).getD (((splitB 46 l).length) - 1) []).getD 0 0).toNat : Nat) : Int) ∧ (((((splitB 46 l).getD (((splitB 46 l).length) - 1) []).getD 0 0).toNat : Nat) : Int) ≤ 122))) rfl rfl) ?_
     refine q trivial rfl rfl (asg (v := .bool (decide (97 ≤ (((((splitB 46 l).getD (((splitB 46 l).length) - 1) []).getD 0 0).toNat : Nat) : Int) ∧ (((((splitB 46 l).getD (((splitB 46 l).length) - 1) []).getD 0 0).toNat : Nat) : Int) ≤ 122))) rfl) ?_
     refine nl ?_
     refine nN ?_
     refine rt ?_
     refine fret (v := .bool (decide (97 ≤ (((((splitB 46 l).getD (((splitB 46 l).length) - 1) []).getD 0 0).toNat : Nat) : Int) ∧ (((((splitB 46 l).getD (((splitB 46 l).length) - 1) []).getD 0 0).toNat : Nat) : Int) ≤ 122))) (.tmp .nil) rfl ?_
     have e3 : (decide (97 ≤ (((((splitB 46 l).getD (((splitB 46 l).length) - 1) []).getD 0 0).toNat : Nat) : Int) ∧ (((((splitB 46 l).getD (((splitB 46 l).length) - 1) []).getD 0 0).toNat : Nat) : Int) ≤ 122)) = nameOk l := by first | (exact (name_bad (k := k) (by omega) (part_nil (by assumption))).symm) | (exact (name_bad (k := k) (by omega) (part_len0 (by omega))).symm) | (exact (name_bad (k := k) (by omega) (part_bad (by assumption))).symm) | (exact (name_bad (k := k) (by omega) (part_bad1 (j := j) (by omega) (by assumption))).symm) | (exact (name_end2 (by omega) ha (by omega)).symm) | (exact (name_end1 (by omega) ha (by omega)).symm) | exact name_end3 (by omega) ha (by omega) (by assumption) | exact name_end4 (by omega) ha (by omega) (by assumption)
     exact ⟨(congrArg (Value.bool) e3), (hs4.pick [] rfl (by decide))⟩
   · refine gk false rfl rfl rfl rfl rfl ?_
     refine gk false rfl rfl rfl rfl rfl ?_
     refine gk false rfl rfl rfl rfl rfl ?_
     refine gk false rfl rfl rfl rfl rfl ?_
     refine gk false rfl rfl rfl rfl rfl ?_
     refine gk false rfl rfl rfl rfl rfl ?_
     refine gk false rfl rfl rfl rfl rfl ?_
     refine gk false rfl rfl rfl rfl rfl ?_
     refine q trivial rfl rfl (pf (v := .bool false) rfl rfl) ?_
     refine q trivial rfl rfl (asg (v := .bool false) rfl) ?_
     refine nl ?_
     refine nN ?_
     refine rt ?_
     refine fret (v := .bool false) (.tmp .nil) rfl ?_
     have e4 : false = nameOk l := by first | (exact (name_bad (k := k) (by omega) (part_nil (by assumption))).symm) | (exact (name_bad (k := k) (by omega) (part_len0 (by omega))).symm) | (exact (name_bad (k := k) (by omega) (part_bad (by assumption))).symm) | (exact (name_bad (k := k) (by omega) (part_bad1 (j := j) (by omega) (by assumption))).symm) | (exact (name_end2 (by omega) ha (by omega)).symm) | (exact (name_end1 (by omega) ha (by omega)).symm) | exact name_end3 (by omega) ha (by omega) (by assumption) | exact name_end4 (by omega) ha (by omega) (by assumption)
     exact ⟨(congrArg (Value.bool) e4), (hs2.pick [] rfl (by decide))⟩

theorem sNameValid (l : List UInt8) (w : World) (hl_n : l.length ≤ 1099511627776) : Does Tryd.prog 33 [Str l] w (fun v w' => v = .bool (nameOk l) ∧ SH w w' [] []) := by
 refine fn_enter (N := 53) Tryd.func33 rfl (by kernel_rfl) rfl rfl rfl ?_
 have hs0 : SH w w [] [] := SH.refl w []
 refine sq ?_
 refine rg ?_
 refine q trivial rfl rfl (asg (v := .bool false) rfl) ?_
 refine nl ?_
 refine nN ?_
 refine sq ?_
 refine rg ?_
 refine q trivial rfl rfl (mv (v := Str l) rfl) ?_
 refine cl trivial rfl (l2Cut (l := l) (c := (46 : UInt8)) (w := _) (hl_n := (by first | (first | omega | (simp; done) | (simp; omega)) | (have hsb := splitB_getD 46 l k; have hsl := splitB_len 46 l; have hcl := List.count_le_length (a := (46 : UInt8)) (l := l); first | omega | (simp; done) | (simp; omega))))) ?_
 rintro _ w1 ⟨A1, c1, rfl, hs1'⟩
 have hs1 : SH w w1 [] [.own A1 ((splitB (46 : UInt8) l).length) c1 9 1 ((splitB (46 : UInt8) l).map Str)] := hs0.call0 hs1'
 clear hs1'
 refine q trivial rfl rfl (asg (v := .slice A1 ((splitB (46 : UInt8) l).length) c1) rfl) ?_
 refine nl ?_
 refine nN ?_
 refine sq ?_
 refine sq ?_
 refine rg ?_
 refine q trivial rfl rfl (asg (v := I 0) rfl) ?_
 refine nl ?_
 refine nN ?_
 refine bl ?_
 refine lp (σ := Nat) (fun (k : Nat) f w' => Has f [(0, Str l), (3, .slice A1 ((splitB (46 : UInt8) l).length) c1), (4, I ((k : Nat) : Int))] ∧ (k ≤ (splitB 46 l).length) ∧ (((splitB 46 l).take k).all partOk = true) ∧ SH w w' [] [.own A1 ((splitB (46 : UInt8) l).length) c1 9 1 ((splitB (46 : UInt8) l).map Str)]) (fun k => (splitB 46 l).length - k) 0 ⟨⟨rfl, rfl, rfl, trivial⟩, (by simp), (by simp), hs1⟩ ?_
 rintro k f w2 ⟨hf, hk, ha, hs2⟩
 obtain ⟨g1, rfl⟩ := has_upd hf
 clear hf
 refine sq ?_
 refine sq ?_
 refine rg ?_
 refine q trivial rfl rfl (mv (v := I ((k : Nat) : Int)) rfl) ?_
 refine q trivial rfl rfl (mv (v := .slice A1 ((splitB (46 : UInt8) l).length) c1) rfl) ?_
 refine q trivial rfl rfl (lnA (n := (splitB (46 : UInt8) l).length) sl77 rfl) ?_
 refine q trivial rfl rfl (lss (k := .i64) (a := ((k : Nat) : Int)) (b := (((splitB (46 : UInt8) l).length : Nat) : Int)) rfl rfl) ?_
 refine nl ?_
 refine nN ?_
 refine cdd (p := ((k : Nat) : Int) < (((splitB (46 : UInt8) l).length : Nat) : Int)) rfl (fun h1 => ?_) (fun h1 => ?_)
 · refine sk ?_
   refine nN ?_
   refine sq ?_
   refine bl ?_
   refine sq ?_
   refine rg ?_
   refine q trivial rfl rfl (mv (v := .slice A1 ((splitB (46 : UInt8) l).length) c1) rfl) ?_
   refine q trivial rfl rfl (mv (v := I ((k : Nat) : Int)) rfl) ?_
   refine ixw1 k sl77 rfl rfl (hs2.sl0 0 rfl) (by first | (first | omega | (simp; done) | (simp; omega)) | (have hsb := splitB_getD 46 l k; have hsl := splitB_len 46 l; have hcl := List.count_le_length (a := (46 : UInt8)) (l := l); first | omega | (simp; done) | (simp; omega))) (getm Str [] (by first | (first | omega | (simp; done) | (simp; omega)) | (have hsb := splitB_getD 46 l k; have hsl := splitB_len 46 l; have hcl := List.count_le_length (a := (46 : UInt8)) (l := l); first | omega | (simp; done) | (simp; omega)))) trivial rfl (fun a1 ha1 => ?_)
   refine q trivial rfl rfl (lda (v := Str ((splitB (46 : UInt8) l).getD k [])) (SH.refl w2 []) ha1 (fun _ h => h) rfl rfl one9) ?_
   refine q trivial rfl rfl (asg (v := Str ((splitB (46 : UInt8) l).getD k [])) rfl) ?_
   refine nl ?_
   refine nN ?_
   refine sq ?_
   refine sq ?_
   refine rg ?_
   refine q trivial rfl rfl (mv (v := Str ((splitB (46 : UInt8) l).getD k [])) rfl) ?_
   refine q trivial rfl rfl (lnS (l := (splitB (46 : UInt8) l).getD k []) st9 rfl) ?_
   refine q trivial rfl rfl (eqi (k := .i64) (a := ((((splitB (46 : UInt8) l).getD k []).length : Nat) : Int)) (b := 0) rfl rfl) ?_
   refine nl ?_
   refine nN ?_
   refine cdd (p := ((((splitB (46 : UInt8) l).getD k []).length : Nat) : Int) = 0) rfl (fun h2 => ?_) (fun h2 => ?_)
   · refine sq ?_
     refine rg ?_
     refine q trivial rfl rfl (asg (v := .bool false) rfl) ?_
     refine nl ?_
     refine nN ?_
     refine rt (tR (bR (tR (tR (bR (tR ?_))))))
     refine fret (v := .bool false) (.tmp .nil) rfl ?_
     have e1 : false = nameOk l := by first | (exact (name_bad (k := k) (by omega) (part_nil (by assumption))).symm) | (exact (name_bad (k := k) (by omega) (part_len0 (by omega))).symm) | (exact (name_bad (k := k) (by omega) (part_bad (by assumption))).symm) | (exact (name_bad (k := k) (by omega) (part_bad1 (j := j) (by omega) (by assumption))).symm) | (exact (name_end2 (by omega) ha (by omega)).symm) | (exact (name_end1 (by omega) ha (by omega)).symm) | exact name_end3 (by omega) ha (by omega) (by assumption) | exact name_end4 (by omega) ha (by omega) (by assumption)
     exact ⟨(congrArg (Value.bool) e1), (hs2.pick [] rfl (by decide))⟩
   · refine sk ?_
     refine nN ?_
     refine sq ?_
     refine rg ?_
     refine q trivial rfl rfl (asg (v := I 0) rfl) ?_
     refine nl ?_
     refine nN ?_
     refine bl ?_
     refine lp (σ := Nat) (fun (j : Nat) f w' => Has f [(0, Str l), (3, .slice A1 ((splitB (46 : UInt8) l).length) c1), (4, I ((k : Nat) : Int)), (5, Str ((splitB (46 : UInt8) l).getD k [])), (6, I ((j : Nat) : Int))] ∧ (j ≤ ((splitB 46 l).getD k []).length) ∧ ((((splitB 46 l).getD k []).take j).all letC = true) ∧ SH w w' [] [.own A1 ((splitB (46 : UInt8) l).length) c1 9 1 ((splitB (46 : UInt8) l).map Str)]) (fun j => ((splitB 46 l).getD k []).length - j) 0 ⟨⟨rfl, rfl, rfl, rfl, rfl, trivial⟩, (by simp), (by simp), hs2⟩ ?_
     rintro j f w3 ⟨hf, hj, hb, hs3⟩
     obtain ⟨g2, rfl⟩ := has_upd hf
     clear hf
     refine sq ?_
     refine sq ?_
     refine rg ?_
     refine q trivial rfl rfl (mv (v := I ((j : Nat) : Int)) rfl) ?_
     refine q trivial rfl rfl (mv (v := Str ((splitB (46 : UInt8) l).getD k [])) rfl) ?_
     refine q trivial rfl rfl (lnS (l := (splitB (46 : UInt8) l).getD k []) st9 rfl) ?_
     refine q trivial rfl rfl (lss (k := .i64) (a := ((j : Nat) : Int)) (b := ((((splitB (46 : UInt8) l).getD k []).length : Nat) : Int)) rfl rfl) ?_
     refine nl ?_
     refine nN ?_
     refine cdd (p := ((j : Nat) : Int) < ((((splitB (46 : UInt8) l).getD k []).length : Nat) : Int)) rfl (fun h3 => ?_) (fun h3 => ?_)
     · refine sk ?_
       refine nN ?_
       refine sq ?_
       refine bl ?_
       refine sq ?_
       refine rg ?_
       refine q trivial rfl rfl (mv (v := Str ((splitB (46 : UInt8) l).getD k [])) rfl) ?_
       refine q trivial rfl rfl (mv (v := I ((j : Nat) : Int)) rfl) ?_
       refine q trivial rfl rfl (ixs (l := (splitB (46 : UInt8) l).getD k []) j st9 rfl rfl (by first | omega | exact name_last (by omega) ha (by have := splitB_pos 46 l; omega))) ?_
       refine cl trivial rfl (sLetter (c := (((splitB (46 : UInt8) l).getD k []).getD j 0)) (w := _)) ?_
       rintro _ w4 ⟨rfl, hs4'⟩
       have hs4 : SH w w4 [] [.own A1 ((splitB (46 : UInt8) l).length) c1 9 1 ((splitB (46 : UInt8) l).map Str)] := hs3.call0 hs4'
       clear hs4'
       refine q trivial rfl rfl (nt (b := letC (((splitB (46 : UInt8) l).getD k []).getD j 0)) rfl) ?_
       refine nl ?_
       refine nN ?_
       refine cd (b := !(letC (((splitB (46 : UInt8) l).getD k []).getD j 0))) rfl (fun h4 => ?_) (fun h4 => ?_)
       · have h5 : (letC (((splitB (46 : UInt8) l).getD k []).getD j 0)) = false := by simpa using h4
         refine sq ?_
         refine rg ?_
         refine q trivial rfl rfl (asg (v := .bool false) rfl) ?_
         refine nl ?_
         refine nN ?_
         refine rt (bR (tR (tR (bR (bR (tR (tR (bR (tR ?_)))))))))
         refine fret (v := .bool false) (.tmp .nil) rfl ?_
         have e2 : false = nameOk l := by first | (exact (name_bad (k := k) (by omega) (part_nil (by assumption))).symm) | (exact (name_bad (k := k) (by omega) (part_len0 (by omega))).symm) | (exact (name_bad (k := k) (by omega) (part_bad (by assumption))).symm) | (exact (name_bad (k := k) (by omega) (part_bad1 (j := j) (by omega) (by assumption))).symm) | (exact (name_end2 (by omega) ha (by omega)).symm) | (exact (name_end1 (by omega) ha (by omega)).symm) | exact name_end3 (by omega) ha (by omega) (by assumption) | exact name_end4 (by omega) ha (by omega) (by assumption)
         exact ⟨(congrArg (Value.bool) e2), (hs4.pick [] rfl (by decide))⟩
       · have h6 : (letC (((splitB (46 : UInt8) l).getD k []).getD j 0)) = true := by simpa using h4
         refine sk ?_
         refine bN ?_
         refine nN ?_
         refine rg ?_
         refine q trivial rfl rfl (mv (v := I ((j : Nat) : Int)) rfl) ?_
         refine q trivial rfl rfl (add (a := ((j : Nat) : Int)) (b := 1) rfl rfl (by first | (exact ⟨by omega, by omega⟩) | (have hsb := splitB_getD 46 l k; have hsl := splitB_len 46 l; have hcl := List.count_le_length (a := (46 : UInt8)) (l := l); exact ⟨by omega, by omega⟩))) ?_
         refine q trivial rfl rfl (asg (v := I (((j : Nat) : Int) + 1)) rfl) ?_
         refine nl ?_
         refine nN ?_
         refine ⟨(j + 1), ⟨⟨rfl, rfl, rfl, rfl, rfl, trivial⟩, (by omega), (all_step (d := 0) (by omega) hb (by assumption)), hs4⟩, ?_⟩
         omega
     · refine ex (tE (tE (bE ?_)))
       refine bN ?_
       refine nN ?_
       refine rg ?_
       refine q trivial rfl rfl (mv (v := I ((k : Nat) : Int)) rfl) ?_
       refine q trivial rfl rfl (add (a := ((k : Nat) : Int)) (b := 1) rfl rfl (by first | (exact ⟨by omega, by omega⟩) | (have hsb := splitB_getD 46 l k; have hsl := splitB_len 46 l; have hcl := List.count_le_length (a := (46 : UInt8)) (l := l); exact ⟨by omega, by omega⟩))) ?_
       refine q trivial rfl rfl (asg (v := I (((k : Nat) : Int) + 1)) rfl) ?_
       refine nl ?_
       refine nN ?_
       refine ⟨(k + 1), ⟨⟨rfl, rfl, rfl, trivial⟩, (by omega), (all_step (d := []) (by omega) ha (part_mk1 (j := j) (by omega) (by omega) hb)), hs3⟩, ?_⟩
       omega
 · refine ex (tE (tE (bE ?_)))
   refine nN ?_
   refine sq ?_
   refine rg ?_
   refine q trivial rfl rfl (mv (v := .slice A1 ((splitB (46 : UInt8) l).length) c1) rfl) ?_
   refine q trivial rfl rfl (mv (v := .slice A1 ((splitB (46 : UInt8) l).length) c1) rfl) ?_
   refine q trivial rfl rfl (lnA (n := (splitB (46 : UInt8) l).length) sl77 rfl) ?_
   refine q trivial rfl rfl (subN (a := (splitB (46 : UInt8) l).length) (b := 1) rfl rfl (by have hsb := splitB_getD 46 l k; have hsl := splitB_len 46 l; have hcl := List.count_le_length (a := (46 : UInt8)) (l := l); have := splitB_pos 46 l; omega) (by have hsb := splitB_getD 46 l k; have hsl := splitB_len 46 l; have hcl := List.count_le_length (a := (46 : UInt8)) (l := l); have := splitB_pos 46 l; omega)) ?_
   refine ixw1 (((splitB (46 : UInt8) l).length) - 1) sl77 rfl rfl (hs2.sl0 0 rfl) (by first | (first | omega | (simp; done) | (simp; omega)) | (have hsb := splitB_getD 46 l k; have hsl := splitB_len 46 l; have hcl := List.count_le_length (a := (46 : UInt8)) (l := l); first | omega | (simp; done) | (simp; omega))) (getm Str [] (by first | (first | omega | (simp; done) | (simp; omega)) | (have hsb := splitB_getD 46 l k; have hsl := splitB_len 46 l; have hcl := List.count_le_length (a := (46 : UInt8)) (l := l); first | omega | (simp; done) | (simp; omega)))) trivial rfl (fun a2 ha2 => ?_)
   refine q trivial rfl rfl (lda (v := Str ((splitB (46 : UInt8) l).getD (((splitB (46 : UInt8) l).length) - 1) [])) (SH.refl w2 []) ha2 (fun _ h => h) rfl rfl one9) ?_
   refine q trivial rfl rfl (asg (v := Str ((splitB (46 : UInt8) l).getD (((splitB (46 : UInt8) l).length) - 1) [])) rfl) ?_
   refine nl ?_
   refine nN ?_
   refine sq ?_
   refine rg ?_
   refine q trivial rfl rfl (mv (v := Str l) rfl) ?_
   refine q trivial rfl rfl (lnS (l := l) st9 rfl) ?_
   refine q trivial rfl rfl (leq (k := .i64) (a := ((l.length : Nat) : Int)) (b := 20) rfl rfl) ?_
   refine q trivial rfl rfl (mv (v := .bool (decide (((l.length : Nat) : Int) ≤ 20))) rfl) ?_
   refine spd (p := ((l.length : Nat) : Int) ≤ 20) 43 rfl (fun h7 => ?_) (fun h7 => ?_)
   · refine q ⟨_, rfl, rfl⟩ rfl rfl (mv (v := Str ((splitB (46 : UInt8) l).getD (((splitB (46 : UInt8) l).length) - 1) [])) rfl) ?_
     refine q ⟨_, rfl, rfl⟩ rfl rfl (ixs (l := (splitB (46 : UInt8) l).getD (((splitB (46 : UInt8) l).length) - 1) []) 0 st9 rfl rfl (by first | omega | exact name_last (by omega) ha (by have := splitB_pos 46 l; omega))) ?_
     refine q ⟨_, rfl, rfl⟩ rfl rfl (geq (k := .u8) (a := (((((splitB (46 : UInt8) l).getD (((splitB (46 : UInt8) l).length) - 1) []).getD 0 0).toNat : Nat) : Int)) (b := 97) rfl rfl) ?_
     refine q trivial rfl rfl (pt (v := .bool (decide ((97 : Int) ≤ (((((splitB (46 : UInt8) l).getD (((splitB (46 : UInt8) l).length) - 1) []).getD 0 0).toNat : Nat) : Int)))) rfl rfl) ?_
     refine q trivial rfl rfl (mv (v := .bool (decide ((97 : Int) ≤ (((((splitB (46 : UInt8) l).getD (((splitB (46 : UInt8) l).length) - 1) []).getD 0 0).toNat : Nat) : Int)))) rfl) ?_
     refine spd (p := (97 : Int) ≤ (((((splitB (46 : UInt8) l).getD (((splitB (46 : UInt8) l).length) - 1) []).getD 0 0).toNat : Nat) : Int)) 48 rfl (fun h8 => ?_) (fun h8 => ?_)
     · refine q ⟨_, rfl, rfl⟩ rfl rfl (mv (v := Str ((splitB (46 : UInt8) l).getD (((splitB (46 : UInt8) l).length) - 1) [])) rfl) ?_
       refine q ⟨_, rfl, rfl⟩ rfl rfl (ixs (l := (splitB (46 : UInt8) l).getD (((splitB (46 : UInt8) l).length) - 1) []) 0 st9 rfl rfl (by first | omega | exact name_last (by omega) ha (by have := splitB_pos 46 l; omega))) ?_
       refine q ⟨_, rfl, rfl⟩ rfl rfl (leq (k := .u8) (a := (((((splitB (46 : UInt8) l).getD (((splitB (46 : UInt8) l).length) - 1) []).getD 0 0).toNat : Nat) : Int)) (b := 122) rfl rfl) ?_
       refine q trivial rfl rfl (pt (v := .bool (decide ((((((splitB (46 : UInt8) l).getD (((splitB (46 : UInt8) l).length) - 1) []).getD 0 0).toNat : Nat) : Int) ≤ 122))) rfl rfl) ?_
       refine q trivial rfl rfl (asg (v := .bool (decide ((((((splitB (46 : UInt8) l).getD (((splitB (46 : UInt8) l).length) - 1) []).getD 0 0).toNat : Nat) : Int) ≤ 122))) rfl) ?_
       refine nl ?_
       refine nN ?_
       refine rt ?_
       refine fret (v := .bool (decide ((((((splitB (46 : UInt8) l).getD (((splitB (46 : UInt8) l).length) - 1) []).getD 0 0).toNat : Nat) : Int) ≤ 122))) (.tmp .nil) rfl ?_
       have e3 : (decide ((((((splitB (46 : UInt8) l).getD (((splitB (46 : UInt8) l).length) - 1) []).getD 0 0).toNat : Nat) : Int) ≤ 122)) = nameOk l := by first | (exact (name_bad (k := k) (by omega) (part_nil (by assumption))).symm) | (exact (name_bad (k := k) (by omega) (part_len0 (by omega))).symm) | (exact (name_bad (k := k) (by omega) (part_bad (by assumption))).symm) | (exact (name_bad (k := k) (by omega) (part_bad1 (j := j) (by omega) (by assumption))).symm) | (exact (name_end2 (by omega) ha (by omega)).symm) | (exact (name_end1 (by omega) ha (by omega)).symm) | exact name_end3 (by omega) ha (by omega) (by assumption) | exact name_end4 (by omega) ha (by omega) (by assumption)
       exact ⟨(congrArg (Value.bool) e3), (hs2.pick [] rfl (by decide))⟩
     · refine gk false rfl rfl rfl rfl rfl ?_
       refine gk false rfl rfl rfl rfl rfl ?_
       refine gk false rfl rfl rfl rfl rfl ?_
       refine q trivial rfl rfl (pf (v := .bool false) rfl rfl) ?_
       refine q trivial rfl rfl (asg (v := .bool false) rfl) ?_
       refine nl ?_
       refine nN ?_
       refine rt ?_
       refine fret (v := .bool false) (.tmp .nil) rfl ?_
       have e4 : false = nameOk l := by first | (exact (name_bad (k := k) (by omega) (part_nil (by assumption))).symm) | (exact (name_bad (k := k) (by omega) (part_len0 (by omega))).symm) | (exact (name_bad (k := k) (by omega) (part_bad (by assumption))).symm) | (exact (name_bad (k := k) (by omega) (part_bad1 (j := j) (by omega) (by assumption))).symm) | (exact (name_end2 (by omega) ha (by omega)).symm) | (exact (name_end1 (by omega) ha (by omega)).symm) | exact name_end3 (by omega) ha (by omega) (by assumption) | exact name_end4 (by omega) ha (by omega) (by assumption)
       exact ⟨(congrArg (Value.bool) e4), (hs2.pick [] rfl (by decide))⟩
   · refine gk false rfl rfl rfl rfl rfl ?_
     refine gk false rfl rfl rfl rfl rfl ?_
     refine gk false rfl rfl rfl rfl rfl ?_
     refine q trivial rfl rfl (pf (v := .bool false) rfl rfl) ?_
     refine q trivial rfl rfl (mv (v := .bool false) rfl) ?_
     refine gk false rfl rfl rfl rfl rfl ?_
     refine gk false rfl rfl rfl rfl rfl ?_
     refine gk false rfl rfl rfl rfl rfl ?_
     refine q trivial rfl rfl (pf (v := .bool false) rfl rfl) ?_
     refine q trivial rfl rfl (asg (v := .bool false) rfl) ?_
     refine nl ?_
     refine nN ?_
     refine rt ?_
     refine fret (v := .bool false) (.tmp .nil) rfl ?_
     have e5 : false = nameOk l := by first | (exact (name_bad (k := k) (by omega) (part_nil (by assumption))).symm) | (exact (name_bad (k := k) (by omega) (part_len0 (by omega))).symm) | (exact (name_bad (k := k) (by omega) (part_bad (by assumption))).symm) | (exact (name_bad (k := k) (by omega) (part_bad1 (j := j) (by omega) (by assumption))).symm) | (exact (name_end2 (by omega) ha (by omega)).symm) | (exact (name_end1 (by omega) ha (by omega)).symm) | exact name_end3 (by omega) ha (by omega) (by assumption) | exact name_end4 (by omega) ha (by omega) (by assumption)
     exact ⟨(congrArg (Value.bool) e5), (hs2.pick [] rfl (by decide))⟩

theorem iQuadValid {Aqs : Option Addr} {cqs : Nat} (qs : List Int) (w : World) (hqs : Sl w [] 1 Aqs qs.length cqs (qs.map I)) : Does Tryd.prog 67 [.slice Aqs qs.length cqs] w (fun v w' => v = .bool (quadOk qs) ∧ SH w w' [] []) := by
 refine fn_enter (N := 10) Tryd.func67 rfl (by kernel_rfl) rfl rfl rfl ?_
 have hs0 : SH w w [] [] := SH.refl w []
 have hqs_m : qs.length ≤ 9223372036854775807 := Nat.le_trans hqs.cap hqs.capMax
 refine sq ?_
 refine rg ?_
 refine q trivial rfl rfl (asg (v := .bool false) rfl) ?_
 refine nl ?_
 refine nN ?_
 refine sq ?_
 refine rg ?_
 refine q trivial rfl rfl (mv (v := .slice Aqs qs.length cqs) rfl) ?_
 refine q trivial rfl rfl (lnA (n := qs.length) sl23 rfl) ?_
 refine q trivial rfl rfl (eqi (k := .i64) (a := ((qs.length : Nat) : Int)) (b := 4) rfl rfl) ?_
 refine q trivial rfl rfl (mv (v := .bool (decide (((qs.length : Nat) : Int) = 4))) rfl) ?_
 refine spd (p := ((qs.length : Nat) : Int) = 4) 6 rfl (fun h1 => ?_) (fun h1 => ?_)
 · refine q ⟨_, rfl, rfl⟩ rfl rfl (mv (v := .slice Aqs qs.length cqs) rfl) ?_
   refine cl ⟨_, rfl, rfl⟩ rfl (iBytesValid (Azs := Aqs) (czs := cqs) (zs := qs) (w := _) (hzs := (hqs.up0 hs0))) ?_
   rintro _ w1 ⟨rfl, hs1'⟩
   have hs1 : SH w w1 [] [] := hs0.call0 hs1'
   clear hs1'
   refine q trivial rfl rfl (pt (v := .bool (isBytes qs)) rfl rfl) ?_
   refine q trivial rfl rfl (asg (v := .bool (isBytes qs)) rfl) ?_
   refine nl ?_
   refine nN ?_
   refine rt ?_
   refine fret (v := .bool (isBytes qs)) (.tmp .nil) rfl ?_
   have e1 : (isBytes qs) = quadOk qs := by simp [quadOk, h1] <;> omega
   exact ⟨(congrArg (Value.bool) e1), hs1⟩
 · refine gk false rfl rfl rfl rfl rfl ?_
   refine gk false rfl rfl rfl rfl rfl ?_
   refine q trivial rfl rfl (pf (v := .bool false) rfl rfl) ?_
   refine q trivial rfl rfl (asg (v := .bool false) rfl) ?_
   refine nl ?_
   refine nN ?_
   refine rt ?_
   refine fret (v := .bool false) (.tmp .nil) rfl ?_
   have e2 : false = quadOk qs := by simp [quadOk, h1] <;> omega
   exact ⟨(congrArg (Value.bool) e2), hs0⟩

theorem sQuadValid {Aqs : Option Addr} {cqs : Nat} (qs : List Int) (w : World) (hqs : Sl w [] 1 Aqs qs.length cqs (qs.map I)) : Does Tryd.prog 32 [.slice Aqs qs.length cqs] w (fun v w' => v = .bool (quadOk qs) ∧ SH w w' [] []) := by
 refine fn_enter (N := 10) Tryd.func32 rfl (by kernel_rfl) rfl rfl rfl ?_
 have hs0 : SH w w [] [] := SH.refl w []
 have hqs_m : qs.length ≤ 9223372036854775807 := Nat.le_trans hqs.cap hqs.capMax
 refine sq ?_
 refine rg ?_
 refine q trivial rfl rfl (asg (v := .bool false) rfl) ?_
 refine nl ?_
 refine nN ?_
 refine sq ?_
 refine rg ?_
 refine q trivial rfl rfl (mv (v := .slice Aqs qs.length cqs) rfl) ?_
 refine cl trivial rfl (sBytesValid (Azs := Aqs) (czs := cqs) (zs := qs) (w := _) (hzs := (hqs.up0 hs0))) ?_
 rintro _ w1 ⟨rfl, hs1'⟩
 have hs1 : SH w w1 [] [] := hs0.call0 hs1'
 clear hs1'
 refine q trivial rfl rfl (mv (v := .bool (isBytes qs)) rfl) ?_
 refine spl (b := isBytes qs) 5 rfl (fun h1 => ?_) (fun h1 => ?_)
 · refine q ⟨_, rfl, rfl⟩ rfl rfl (mv (v := .slice Aqs qs.length cqs) rfl) ?_
   refine q ⟨_, rfl, rfl⟩ rfl rfl (lnA (n := qs.length) sl23 rfl) ?_
   refine q ⟨_, rfl, rfl⟩ rfl rfl (eqi (k := .i64) (a := ((qs.length : Nat) : Int)) (b := 4) rfl rfl) ?_
   refine q trivial rfl rfl (pt (v := .bool (decide (((qs.length : Nat) : Int) = 4))) rfl rfl) ?_
   refine q trivial rfl rfl (asg (v := .bool (decide (((qs.length : Nat) : Int) = 4))) rfl) ?_
   refine nl ?_
   refine nN ?_
   refine rt ?_
   refine fret (v := .bool (decide (((qs.length : Nat) : Int) = 4))) (.tmp .nil) rfl ?_
   have e1 : (decide (((qs.length : Nat) : Int) = 4)) = quadOk qs := by simp [quadOk, h1] <;> omega
   exact ⟨(congrArg (Value.bool) e1), hs1⟩
 · refine gk false rfl rfl rfl rfl rfl ?_
   refine gk false rfl rfl rfl rfl rfl ?_
   refine gk false rfl rfl rfl rfl rfl ?_
   refine q trivial rfl rfl (pf (v := .bool false) rfl rfl) ?_
   refine q trivial rfl rfl (asg (v := .bool false) rfl) ?_
   refine nl ?_
   refine nN ?_
   refine rt ?_
   refine fret (v := .bool false) (.tmp .nil) rfl ?_
   have e2 : false = quadOk qs := by simp [quadOk, h1] <;> omega
   exact ⟨(congrArg (Value.bool) e2), hs1⟩

theorem iUserValid (s : List UInt8) (w : World) (hs_n : s.length ≤ 2147483648) : Does Tryd.prog 65 [Str s] w (fun v w' => v = .bool (userOk s) ∧ SH w w' [] []) := by
 refine fn_enter (N := 10) Tryd.func65 rfl (by kernel_rfl) rfl rfl rfl ?_
 have hs0 : SH w w [] [] := SH.refl w []
 refine sq ?_
 refine rg ?_
 refine q trivial rfl rfl (asg (v := .bool false) rfl) ?_
 refine nl ?_
 refine nN ?_
 refine sq ?_
 refine rg ?_
 refine q trivial rfl rfl (mv (v := Str s) rfl) ?_
 refine q trivial rfl rfl (lnS (l := s) st9 rfl) ?_
 refine q trivial rfl rfl (leq (k := .i64) (a := ((s.length : Nat) : Int)) (b := 8) rfl rfl) ?_
 refine q trivial rfl rfl (mv (v := .bool (decide (((s.length : Nat) : Int) ≤ 8))) rfl) ?_
 refine spd (p := ((s.length : Nat) : Int) ≤ 8) 6 rfl (fun h1 => ?_) (fun h1 => ?_)
 · refine q ⟨_, rfl, rfl⟩ rfl rfl (mv (v := Str s) rfl) ?_
   refine cl ⟨_, rfl, rfl⟩ rfl (iConsists (l := s) (m := []) (w := _) (hl_n := (by first | omega | (simp; done) | (simp; omega)))) ?_
   rintro _ w1 ⟨rfl, hs1'⟩
   have hs1 : SH w w1 [] [] := hs0.call0 hs1'
   clear hs1'
   refine q trivial rfl rfl (pt (v := .bool (s.all (okC []))) rfl rfl) ?_
   refine q trivial rfl rfl (asg (v := .bool (s.all (okC []))) rfl) ?_
   refine nl ?_
   refine nN ?_
   refine rt ?_
   refine fret (v := .bool (s.all (okC []))) (.tmp .nil) rfl ?_
   have e1 : (s.all (okC [])) = userOk s := by simp [userOk, h1] <;> omega
   exact ⟨(congrArg (Value.bool) e1), hs1⟩
 · refine gk false rfl rfl rfl rfl rfl ?_
   refine gk false rfl rfl rfl rfl rfl ?_
   refine q trivial rfl rfl (pf (v := .bool false) rfl rfl) ?_
   refine q trivial rfl rfl (asg (v := .bool false) rfl) ?_
   refine nl ?_
   refine nN ?_
   refine rt ?_
   refine fret (v := .bool false) (.tmp .nil) rfl ?_
   have e2 : false = userOk s := by simp [userOk, h1] <;> omega
   exact ⟨(congrArg (Value.bool) e2), hs0⟩

theorem sUserValid (s : List UInt8) (w : World) (hs_n : s.length ≤ 2147483648) : Does Tryd.prog 78 [Str s] w (fun v w' => v = .bool (userOk s) ∧ SH w w' [] []) := by
 refine fn_enter (N := 24) Tryd.func78 rfl (by kernel_rfl) rfl rfl rfl ?_
 have hs0 : SH w w [] [] := SH.refl w []
 refine sq ?_
 refine rg ?_
 refine q trivial rfl rfl (asg (v := .bool false) rfl) ?_
 refine nl ?_
 refine nN ?_
 refine sq ?_
 refine sq ?_
 refine rg ?_
 refine q trivial rfl rfl (asg (v := I 0) rfl) ?_
 refine nl ?_
 refine nN ?_
 refine bl ?_
 refine lp (σ := Nat) (fun (k : Nat) f w' => Has f [(0, Str s), (3, I ((k : Nat) : Int))] ∧ (k ≤ s.length) ∧ ((s.take k).all (okC []) = true) ∧ SH w w' [] []) (fun k => s.length - k) 0 ⟨⟨rfl, rfl, trivial⟩, (by simp), (by simp), hs0⟩ ?_
 rintro k f w1 ⟨hf, hk, ha, hs1⟩
 obtain ⟨g1, rfl⟩ := has_upd hf
 clear hf
 refine sq ?_
 refine sq ?_
 refine rg ?_
 refine q trivial rfl rfl (mv (v := I ((k : Nat) : Int)) rfl) ?_
 refine q trivial rfl rfl (mv (v := Str s) rfl) ?_
 refine q trivial rfl rfl (lnS (l := s) st9 rfl) ?_
 refine q trivial rfl rfl (lss (k := .i64) (a := ((k : Nat) : Int)) (b := ((s.length : Nat) : Int)) rfl rfl) ?_
 refine nl ?_
 refine nN ?_
 refine cdd (p := ((k : Nat) : Int) < ((s.length : Nat) : Int)) rfl (fun h1 => ?_) (fun h1 => ?_)
 · refine sk ?_
   refine nN ?_
   refine sq ?_
   refine bl ?_
   refine sq ?_
   refine rg ?_
   refine q trivial rfl rfl (mv (v := Str s) rfl) ?_
   refine q trivial rfl rfl (mv (v := I ((k : Nat) : Int)) rfl) ?_
   refine q trivial rfl rfl (ixs (l := s) k st9 rfl rfl (by first | omega | (simp; done) | (simp; omega))) ?_
   refine cl trivial rfl (sLetter (c := (s.getD k 0)) (w := _)) ?_
   rintro _ w2 ⟨rfl, hs2'⟩
   have hs2 : SH w w2 [] [] := hs1.call0 hs2'
   clear hs2'
   refine q trivial rfl rfl (nt (b := letC (s.getD k 0)) rfl) ?_
   refine q trivial rfl rfl (mv (v := .bool (!(letC (s.getD k 0)))) rfl) ?_
   refine spl (b := !(letC (s.getD k 0))) 15 rfl (fun h2 => ?_) (fun h2 => ?_)
   · have h3 : (letC (s.getD k 0)) = false := by simpa using h2
     refine gk true rfl rfl rfl rfl rfl ?_
     refine gk true rfl rfl rfl rfl rfl ?_
     refine gk true rfl rfl rfl rfl rfl ?_
     refine gk true rfl rfl rfl rfl rfl ?_
     refine q trivial rfl rfl (pt (v := .bool true) rfl rfl) ?_
     refine nl ?_
     refine nN ?_
     refine cdt rfl ?_
     refine sq ?_
     refine rg ?_
     refine q trivial rfl rfl (asg (v := .bool false) rfl) ?_
     refine nl ?_
     refine nN ?_
     refine rt (bR (tR (tR (bR (tR ?_)))))
     refine fret (v := .bool false) (.tmp .nil) rfl ?_
     have e1 : false = userOk s := by first | exact (user_bad (k := k) (by omega) (.inl (by assumption))).symm | exact (user_bad (k := k) (by omega) (.inr (by assumption))).symm | exact user_end (by omega) ha
     exact ⟨(congrArg (Value.bool) e1), hs2⟩
   · have h4 : (letC (s.getD k 0)) = true := by simpa using h2
     refine q ⟨_, rfl, rfl⟩ rfl rfl (mv (v := Str s) rfl) ?_
     refine q ⟨_, rfl, rfl⟩ rfl rfl (mv (v := I ((k : Nat) : Int)) rfl) ?_
     refine q ⟨_, rfl, rfl⟩ rfl rfl (ixs (l := s) k st9 rfl rfl (by first | omega | (simp; done) | (simp; omega))) ?_
     refine q ⟨_, rfl, rfl⟩ rfl rfl (eqi (k := .u8) (a := (((s.getD k 0).toNat : Nat) : Int)) (b := 45) rfl rfl) ?_
     refine q trivial rfl rfl (pf (v := .bool (decide ((((s.getD k 0).toNat : Nat) : Int) = 45))) rfl rfl) ?_
     refine nl ?_
     refine nN ?_
     refine cdd (p := (((s.getD k 0).toNat : Nat) : Int) = 45) rfl (fun h5 => ?_) (fun h5 => ?_)
     · refine sq ?_
       refine rg ?_
       refine q trivial rfl rfl (asg (v := .bool false) rfl) ?_
       refine nl ?_
       refine nN ?_
       refine rt (bR (tR (tR (bR (tR ?_)))))
       refine fret (v := .bool false) (.tmp .nil) rfl ?_
       have e2 : false = userOk s := by first | exact (user_bad (k := k) (by omega) (.inl (by assumption))).symm | exact (user_bad (k := k) (by omega) (.inr (by assumption))).symm | exact user_end (by omega) ha
       exact ⟨(congrArg (Value.bool) e2), hs2⟩
     · refine sk ?_
       refine bN ?_
       refine nN ?_
       refine rg ?_
       refine q trivial rfl rfl (mv (v := I ((k : Nat) : Int)) rfl) ?_
       refine q trivial rfl rfl (add (a := ((k : Nat) : Int)) (b := 1) rfl rfl (by exact ⟨by omega, by omega⟩)) ?_
       refine q trivial rfl rfl (asg (v := I (((k : Nat) : Int) + 1)) rfl) ?_
       refine nl ?_
       refine nN ?_
       refine ⟨(k + 1), ⟨⟨rfl, rfl, trivial⟩, (by omega), (all_step (d := 0) (by omega) ha (user_mk (by assumption) (by assumption))), hs2⟩, ?_⟩
       omega
 · refine ex (tE (tE (bE ?_)))
   refine nN ?_
   refine sq ?_
   refine rg ?_
   refine q trivial rfl rfl (mv (v := Str s) rfl) ?_
   refine q trivial rfl rfl (lnS (l := s) st9 rfl) ?_
   refine q trivial rfl rfl (leq (k := .i64) (a := ((s.length : Nat) : Int)) (b := 8) rfl rfl) ?_
   refine q trivial rfl rfl (asg (v := .bool (decide (((s.length : Nat) : Int) ≤ 8))) rfl) ?_
   refine nl ?_
   refine nN ?_
   refine rt ?_
   refine fret (v := .bool (decide (((s.length : Nat) : Int) ≤ 8))) (.tmp .nil) rfl ?_
   have e3 : (decide (((s.length : Nat) : Int) ≤ 8)) = userOk s := by first | exact (user_bad (k := k) (by omega) (.inl (by assumption))).symm | exact (user_bad (k := k) (by omega) (.inr (by assumption))).symm | exact user_end (by omega) ha
   exact ⟨(congrArg (Value.bool) e3), hs1⟩


end Go.Proofs.YtcgdccfofinheaaDoor
