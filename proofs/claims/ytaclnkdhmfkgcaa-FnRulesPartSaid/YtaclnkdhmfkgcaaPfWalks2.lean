/-
  Part of the proofs over this seat: what each function of the program computes, function by function (the text is written by a program of this hand-in's own).
  Conditions: each theorem states its own.
-/
import Derived.Test.YtaclnkdhmfkgcaaPfWalks
namespace Go.Proofs.Ytaclnkdhmfkgcaa
open Go.PF
set_option maxRecDepth 100000
set_option linter.unusedSimpArgs false
set_option linter.unusedVariables false

theorem l92Rules {rb : Nat} {Ab : Option Addr} {cb : Nat} {bs : List UInt8} {p : Nat} (w : World) (hr : w.heap[rb]? = some (.cells [.slice Ab bs.length cb, .int .i64 ((p : Nat) : Int)].toArray 50 (0, 0))) (hb : Sl w [rb] 1 Ab bs.length cb (bs.map U)) (hbn : bs.length ≤ 2000) (hp : p ≤ 274877906944) : Does Try.prog 12 [.pointer (some ⟨rb, 0, none⟩)] w (fun v w' => ∃ Ar : Option Addr, ∃ cr : Nat, ∃ r : List (List UInt8 × Int × Bool), ∃ q : Nat, v = .slice Ar r.length cr ∧ (r.length ≤ 7) ∧ ((∀ u ∈ r, u.1.length ≤ 5)) ∧ (q ≤ p + 100) ∧ SH w w' [rb] [.blk rb 50 [.slice Ab bs.length cb, .int .i64 ((q : Nat) : Int)], .own Ar r.length cr 27 3 (r.flatMap gRule)]) := by
  refine fn_enter (N := 49) Try.func12 rfl (by kernel_rfl) rfl rfl rfl ?_
  have hs0 : SH w w [rb] [.blk rb 50 [.slice Ab bs.length cb, .int .i64 ((p : Nat) : Int)]] := SH.entry1 hr
  refine sq ?_
  refine rg ?_
  refine q trivial rfl rfl (asg (v := .slice none 0 0) rfl) ?_
  refine nl ?_
  refine nN ?_
  refine sq ?_
  refine rg ?_
  refine Go.PF.bs hs0 sl23 [] rfl (cs := []) (by kernel_rfl) rfl (by decide) (by decide) trivial rfl (fun b1 w1 (hs1 : SH w w1 [rb] [.blk rb 50 [.slice Ab bs.length cb, .int .i64 ((p : Nat) : Int)], .own (some ⟨b1, 0, none⟩) (([] : List (List UInt8 × Int × Bool)).length) 0 27 3 (([] : List (List UInt8 × Int × Bool)).flatMap gRule)]) => ?_)
  refine q trivial rfl rfl (asg (v := .slice (some ⟨b1, 0, none⟩) (([] : List (List UInt8 × Int × Bool)).length) 0) rfl) ?_
  refine nl ?_
  refine nN ?_
  refine sq ?_
  refine rg ?_
  refine q trivial rfl rfl (mv (v := .pointer (some ⟨rb, 0, none⟩)) rfl) ?_
  refine cl trivial rfl (pick (rb := rb) (Ab := Ab) (cb := cb) (bs := bs) (p := p) (n := 5) (w := _) (hr := (blk_heap hs1 0 rfl)) (hb := (hb.up hs1 (fun _ h => h) (fun _ h => .inl h))) (hbn := (by first | assumption | (simp; omega))) (hp := (by omega))) ?_
  rintro _ w2 ⟨r1, q1, rfl, p1, p2, hs2'⟩
  have hs2 : SH w w2 [rb] [.own (some ⟨b1, 0, none⟩) (([] : List (List UInt8 × Int × Bool)).length) 0 27 3 (([] : List (List UInt8 × Int × Bool)).flatMap gRule), .blk rb 50 [.slice Ab bs.length cb, .int .i64 ((q1 : Nat) : Int)]] := hs1.callM 0 rfl hs2' (by intro k hk; simp at hk; exact hk.symm)
  clear hs2'
  refine q trivial rfl rfl (asg (v := .int .i64 r1) rfl) ?_
  refine nl ?_
  refine nN ?_
  refine sq ?_
  refine sq ?_
  refine rg ?_
  refine q trivial rfl rfl (mv (v := .pointer (some ⟨rb, 0, none⟩)) rfl) ?_
  refine cl trivial rfl (pick (rb := rb) (Ab := Ab) (cb := cb) (bs := bs) (p := q1) (n := 16) (w := _) (hr := (blk_heap hs2 1 rfl)) (hb := (hb.up hs2 (fun _ h => h) (fun _ h => .inl h))) (hbn := (by first | assumption | (simp; omega))) (hp := (by omega))) ?_
  rintro _ w3 ⟨r2, q2, rfl, p3, p4, hs3'⟩
  have hs3 : SH w w3 [rb] [.own (some ⟨b1, 0, none⟩) (([] : List (List UInt8 × Int × Bool)).length) 0 27 3 (([] : List (List UInt8 × Int × Bool)).flatMap gRule), .blk rb 50 [.slice Ab bs.length cb, .int .i64 ((q2 : Nat) : Int)]] := hs2.callM 1 rfl hs3' (by intro k hk; simp at hk; exact hk.symm)
  clear hs3'
  refine q trivial rfl rfl (eqi (k := .i64) (a := r2) (b := 0) rfl rfl) ?_
  refine nl ?_
  refine nN ?_
  refine cdd (p := r2 = 0) rfl (fun h1 => ?_) (fun h1 => ?_)
  · refine rg ?_
    refine q trivial rfl rfl (mv (v := .pointer (some ⟨rb, 0, none⟩)) rfl) ?_
    refine cl trivial rfl (pick (rb := rb) (Ab := Ab) (cb := cb) (bs := bs) (p := q2) (n := 2) (w := _) (hr := (blk_heap hs3 1 rfl)) (hb := (hb.up hs3 (fun _ h => h) (fun _ h => .inl h))) (hbn := (by first | assumption | (simp; omega))) (hp := (by omega))) ?_
    rintro _ w4 ⟨r3, q3, rfl, p5, p6, hs4'⟩
    have hs4 : SH w w4 [rb] [.own (some ⟨b1, 0, none⟩) (([] : List (List UInt8 × Int × Bool)).length) 0 27 3 (([] : List (List UInt8 × Int × Bool)).flatMap gRule), .blk rb 50 [.slice Ab bs.length cb, .int .i64 ((q3 : Nat) : Int)]] := hs3.callM 1 rfl hs4' (by intro k hk; simp at hk; exact hk.symm)
    clear hs4'
    refine q trivial rfl rfl (add (a := 6) (b := r3) rfl rfl (by exact ⟨by omega, by omega⟩)) ?_
    refine q trivial rfl rfl (asg (v := .int .i64 (6 + r3)) rfl) ?_
    refine nl ?_
    refine nN ?_
    refine sq ?_
    refine sq ?_
    refine rg ?_
    refine q trivial rfl rfl (asg (v := .int .i64 0) rfl) ?_
    refine nl ?_
    refine nN ?_
    refine bl ?_
    refine lp (σ := (Option Addr) × Nat × Nat × Nat × (List (List UInt8 × Int × Bool))) (fun ⟨Ag3, cg3, q0, k, zs⟩ f w' => Has f [(0, .pointer (some ⟨rb, 0, none⟩)), (3, .slice Ag3 zs.length cg3), (4, .int .i64 (6 + r3)), (5, .int .i64 ((k : Nat) : Int))] ∧ (k ≤ 7) ∧ (zs.length = k) ∧ (∀ u ∈ zs, u.1.length ≤ 5) ∧ (q0 ≤ p + 3 + 4 * k) ∧ SH w w' [rb] [.own Ag3 zs.length cg3 27 3 (zs.flatMap gRule), .blk rb 50 [.slice Ab bs.length cb, .int .i64 ((q0 : Nat) : Int)]]) (fun ⟨Ag3, cg3, q0, k, zs⟩ => 7 - k) ((some ⟨b1, 0, none⟩), 0, q3, 0, ([] : List (List UInt8 × Int × Bool))) ⟨⟨rfl, rfl, rfl, rfl, trivial⟩, (by omega), (rfl), (by simp), (by omega), hs4⟩ ?_
    rintro ⟨Ag3, cg3, q0, k, zs⟩ f w5 ⟨hf, hk, hz, he, hq, hs5⟩
    obtain ⟨g1, rfl⟩ := has_upd hf
    clear hf
    refine sq ?_
    refine sq ?_
    refine rg ?_
    refine q trivial rfl rfl (mv (v := .int .i64 ((k : Nat) : Int)) rfl) ?_
    refine q trivial rfl rfl (mv (v := .int .i64 (6 + r3)) rfl) ?_
    refine q trivial rfl rfl (lss (k := .i64) (a := ((k : Nat) : Int)) (b := 6 + r3) rfl rfl) ?_
    refine nl ?_
    refine nN ?_
    refine cdd (p := ((k : Nat) : Int) < (6 + r3)) rfl (fun h2 => ?_) (fun h2 => ?_)
    · refine sk ?_
      refine nN ?_
      refine sq ?_
      refine bl ?_
      refine raJ (fun w' => ∃ L, SH w w' [rb] L ∧ True) (fun f w' => ∃ b_8_2 : Nat, ∃ s_8_3 : List UInt8, ∃ q_8_3 : Nat, ∃ b_8_4 : Nat, ∃ r_8_6 : Int, ∃ q_8_6 : Nat, ∃ r_8_10 : Int, ∃ q_8_10 : Nat, ∃ b_8_13 : Nat, ∃ A_8_14 : Option Addr, ∃ c_8_14 : Nat, Has f [(0, .pointer (some ⟨rb, 0, none⟩)), (3, .slice A_8_14 ((zs ++ ([((s_8_3, ([0, 80, 443] : List Int).getD r_8_6.toNat 0, (decide ((0 : Int) < r_8_10))) : List UInt8 × Int × Bool)] : List (List UInt8 × Int × Bool))).length) c_8_14), (4, .int .i64 (6 + r3)), (5, .int .i64 ((k : Nat) : Int))] ∧ (s_8_3 ∈ ([[], [46, 111, 114, 103], [111, 114, 103], [46, 49], [120, 46, 111, 114, 103], [110, 101, 116]] : List (List UInt8))) ∧ (q_8_3 ≤ q0 + 1) ∧ (0 ≤ r_8_6 ∧ (r_8_6 < 3 ∨ r_8_6 = 0)) ∧ (q_8_6 ≤ q_8_3 + 1) ∧ (0 ≤ r_8_10 ∧ (r_8_10 < 3 ∨ r_8_10 = 0)) ∧ (q_8_10 ≤ q_8_6 + 1) ∧ SH w w' [rb] [.own (some ⟨b_8_2, 0, none⟩) (([[], [46, 111, 114, 103], [111, 114, 103], [46, 49], [120, 46, 111, 114, 103], [110, 101, 116]] : List (List UInt8)).length) 6 9 1 (([[], [46, 111, 114, 103], [111, 114, 103], [46, 49], [120, 46, 111, 114, 103], [110, 101, 116]] : List (List UInt8)).map Str), .own (some ⟨b_8_4, 0, none⟩) (([0, 80, 443] : List Int).length) 3 3 1 (([0, 80, 443] : List Int).map I), .blk rb 50 [.slice Ab bs.length cb, .int .i64 ((q_8_10 : Nat) : Int)], .own (some ⟨b_8_13, 0, none⟩) (([((s_8_3, ([0, 80, 443] : List Int).getD r_8_6.toNat 0, (decide ((0 : Int) < r_8_10))) : List UInt8 × Int × Bool)] : List (List UInt8 × Int × Bool)).length) 1 27 3 (([((s_8_3, ([0, 80, 443] : List Int).getD r_8_6.toNat 0, (decide ((0 : Int) < r_8_10))) : List UInt8 × Int × Bool)] : List (List UInt8 × Int × Bool)).flatMap gRule), .own A_8_14 ((zs ++ ([((s_8_3, ([0, 80, 443] : List Int).getD r_8_6.toNat 0, (decide ((0 : Int) < r_8_10))) : List UInt8 × Int × Bool)] : List (List UInt8 × Int × Bool))).length) c_8_14 27 3 ((zs ++ ([((s_8_3, ([0, 80, 443] : List Int).getD r_8_6.toNat 0, (decide ((0 : Int) < r_8_10))) : List UInt8 × Int × Bool)] : List (List UInt8 × Int × Bool))).flatMap gRule)]) mixed ?_ ?_
      · have hs6 := hs5.drew
        refine tk (fuel := 12) (is := [0, 1, 5, 9]) (.cons rfl (.cons rfl (.cons rfl (.cons rfl (.nil))))) (by kernel_rfl) (by kernel_rfl) ⟨_, hs6, trivial⟩ ?_
        refine .op trivial rfl rfl (fun wq _ => mv (v := .slice Ag3 zs.length cg3) rfl) ?_
        refine .op trivial rfl rfl (fun wq _ => mv (v := .pointer (some ⟨rb, 0, none⟩)) rfl) ?_
        refine .op trivial rfl rfl (fun wq _ => mv (v := .pointer (some ⟨rb, 0, none⟩)) rfl) ?_
        refine .op trivial rfl rfl (fun wq _ => mv (v := .pointer (some ⟨rb, 0, none⟩)) rfl) ?_
        refine .nil ?_
        refine a2 (i := 2) (j := 4) (by kernel_rfl) ?_ ?_
        · refine one_ rfl ?_
          refine Go.PF.bs hs6 sl52 [(0, Str []), (1, Str [46, 111, 114, 103]), (2, Str [111, 114, 103]), (3, Str [46, 49]), (4, Str [120, 46, 111, 114, 103]), (5, Str [110, 101, 116])] rfl (cs := [Str [], Str [46, 111, 114, 103], Str [111, 114, 103], Str [46, 49], Str [120, 46, 111, 114, 103], Str [110, 101, 116]]) (by kernel_rfl) rfl (by decide) (by decide) trivial rfl (fun b_8_2 w6 (hs7 : SH w w6 [rb] [.own Ag3 zs.length cg3 27 3 (zs.flatMap gRule), .blk rb 50 [.slice Ab bs.length cb, .int .i64 ((q0 : Nat) : Int)], .own (some ⟨b_8_2, 0, none⟩) (([[], [46, 111, 114, 103], [111, 114, 103], [46, 49], [120, 46, 111, 114, 103], [110, 101, 116]] : List (List UInt8)).length) 6 9 1 (([[], [46, 111, 114, 103], [111, 114, 103], [46, 49], [120, 46, 111, 114, 103], [110, 101, 116]] : List (List UInt8)).map Str)]) => ?_)
          refine nl (kq ⟨_, hs7, trivial⟩ ?_)
          refine a2 (i := 3) (j := 4) (by kernel_rfl) ?_ ?_
          · refine one_ rfl ?_
            refine cl trivial rfl (rdOf (rb := rb) (Ab := Ab) (cb := cb) (bs := bs) (p := q0) (Ass := (some ⟨b_8_2, 0, none⟩)) (css := 6) (ss := ([[], [46, 111, 114, 103], [111, 114, 103], [46, 49], [120, 46, 111, 114, 103], [110, 101, 116]] : List (List UInt8))) (w := _) (hr := (blk_heap hs7 1 rfl)) (hb := (hb.up hs7 (fun _ h => h) (fun _ h => .inl h))) (hbn := (by first | assumption | (simp; omega))) (hp := (by omega)) (hss := (hs7.sl 2 rfl (by intro k hk; simp at hk; subst hk; exact ⟨_, memi 1 rfl, rfl⟩))) (hne := (by first | omega | assumption | (simp; done) | (simp; omega)))) ?_
            rintro _ w7 ⟨s_8_3, q_8_3, rfl, p7, p8, hs8'⟩
            have hs8 : SH w w7 [rb] [.own Ag3 zs.length cg3 27 3 (zs.flatMap gRule), .own (some ⟨b_8_2, 0, none⟩) (([[], [46, 111, 114, 103], [111, 114, 103], [46, 49], [120, 46, 111, 114, 103], [110, 101, 116]] : List (List UInt8)).length) 6 9 1 (([[], [46, 111, 114, 103], [111, 114, 103], [46, 49], [120, 46, 111, 114, 103], [110, 101, 116]] : List (List UInt8)).map Str), .blk rb 50 [.slice Ab bs.length cb, .int .i64 ((q_8_3 : Nat) : Int)]] := hs7.callM 1 rfl hs8' (by intro k hk; simp at hk; exact hk.symm)
            clear hs8'
            refine nl (kq ⟨_, hs8, trivial⟩ ?_)
            refine a2 (i := 4) (j := 6) (by kernel_rfl) ?_ ?_
            · refine one_ rfl ?_
              refine Go.PF.bs hs8 sl38 [(0, .int .i64 0), (1, .int .i64 80), (2, .int .i64 443)] rfl (cs := [.int .i64 0, .int .i64 80, .int .i64 443]) (by kernel_rfl) rfl (by decide) (by decide) trivial rfl (fun b_8_4 w8 (hs9 : SH w w8 [rb] [.own Ag3 zs.length cg3 27 3 (zs.flatMap gRule), .own (some ⟨b_8_2, 0, none⟩) (([[], [46, 111, 114, 103], [111, 114, 103], [46, 49], [120, 46, 111, 114, 103], [110, 101, 116]] : List (List UInt8)).length) 6 9 1 (([[], [46, 111, 114, 103], [111, 114, 103], [46, 49], [120, 46, 111, 114, 103], [110, 101, 116]] : List (List UInt8)).map Str), .blk rb 50 [.slice Ab bs.length cb, .int .i64 ((q_8_3 : Nat) : Int)], .own (some ⟨b_8_4, 0, none⟩) (([0, 80, 443] : List Int).length) 3 3 1 (([0, 80, 443] : List Int).map I)]) => ?_)
              refine nl (kq ⟨_, hs9, trivial⟩ ?_)
              refine a1 (i := 6) (by kernel_rfl) ?_
              refine one_ rfl ?_
              refine cl trivial rfl (pick (rb := rb) (Ab := Ab) (cb := cb) (bs := bs) (p := q_8_3) (n := 3) (w := _) (hr := (blk_heap hs9 2 rfl)) (hb := (hb.up hs9 (fun _ h => h) (fun _ h => .inl h))) (hbn := (by first | assumption | (simp; omega))) (hp := (by omega))) ?_
              rintro _ w9 ⟨r_8_6, q_8_6, rfl, p9, p10, hs10'⟩
              have hs10 : SH w w9 [rb] [.own Ag3 zs.length cg3 27 3 (zs.flatMap gRule), .own (some ⟨b_8_2, 0, none⟩) (([[], [46, 111, 114, 103], [111, 114, 103], [46, 49], [120, 46, 111, 114, 103], [110, 101, 116]] : List (List UInt8)).length) 6 9 1 (([[], [46, 111, 114, 103], [111, 114, 103], [46, 49], [120, 46, 111, 114, 103], [110, 101, 116]] : List (List UInt8)).map Str), .own (some ⟨b_8_4, 0, none⟩) (([0, 80, 443] : List Int).length) 3 3 1 (([0, 80, 443] : List Int).map I), .blk rb 50 [.slice Ab bs.length cb, .int .i64 ((q_8_6 : Nat) : Int)]] := hs9.callM 2 rfl hs10' (by intro k hk; simp at hk; exact hk.symm)
              clear hs10'
              refine nl (kq ⟨_, hs10, trivial⟩ ?_)
              refine tk (fuel := 7) (is := [7]) (.cons rfl (.nil)) (by kernel_rfl) (by kernel_rfl) ⟨_, hs10, trivial⟩ ?_
              refine .op trivial rfl rfl (fun wq _ => ixo r_8_6.toNat sl38 rfl (ieq (x := r_8_6) (by omega)) (by first | omega | (simp; omega))) ?_
              refine .nil ?_
              refine a2 (i := 8) (j := 10) (by kernel_rfl) ?_ ?_
              · refine one_ rfl ?_
                refine q trivial rfl rfl (ldo1n (g := I) (ys := ([0, 80, 443] : List Int)) (o := r_8_6.toNat) 0 hs10 2 rfl rfl (by first | omega | (simp; omega)) one3) ?_
                refine nl (kq ⟨_, hs10, trivial⟩ ?_)
                refine a1 (i := 10) (by kernel_rfl) ?_
                refine one_ rfl ?_
                refine cl trivial rfl (pick (rb := rb) (Ab := Ab) (cb := cb) (bs := bs) (p := q_8_6) (n := 3) (w := _) (hr := (blk_heap hs10 3 rfl)) (hb := (hb.up hs10 (fun _ h => h) (fun _ h => .inl h))) (hbn := (by first | assumption | (simp; omega))) (hp := (by omega))) ?_
                rintro _ w10 ⟨r_8_10, q_8_10, rfl, p11, p12, hs11'⟩
                have hs11 : SH w w10 [rb] [.own Ag3 zs.length cg3 27 3 (zs.flatMap gRule), .own (some ⟨b_8_2, 0, none⟩) (([[], [46, 111, 114, 103], [111, 114, 103], [46, 49], [120, 46, 111, 114, 103], [110, 101, 116]] : List (List UInt8)).length) 6 9 1 (([[], [46, 111, 114, 103], [111, 114, 103], [46, 49], [120, 46, 111, 114, 103], [110, 101, 116]] : List (List UInt8)).map Str), .own (some ⟨b_8_4, 0, none⟩) (([0, 80, 443] : List Int).length) 3 3 1 (([0, 80, 443] : List Int).map I), .blk rb 50 [.slice Ab bs.length cb, .int .i64 ((q_8_10 : Nat) : Int)]] := hs10.callM 3 rfl hs11' (by intro k hk; simp at hk; exact hk.symm)
                clear hs11'
                refine nl (kq ⟨_, hs11, trivial⟩ ?_)
                refine tk (fuel := 3) (is := [11, 12]) (.cons rfl (.cons rfl (.nil))) (by kernel_rfl) (by kernel_rfl) ⟨_, hs11, trivial⟩ ?_
                refine .op trivial rfl rfl (fun wq _ => gtr (k := .i64) (a := r_8_10) (b := 0) rfl rfl) ?_
                refine .op trivial rfl rfl (fun wq _ => bdv (v := .agg #[Str s_8_3, .int .i64 (([0, 80, 443] : List Int).getD r_8_6.toNat 0), .bool (decide ((0 : Int) < r_8_10))]) [(0, Str s_8_3), (1, .int .i64 (([0, 80, 443] : List Int).getD r_8_6.toNat 0)), (2, .bool (decide ((0 : Int) < r_8_10)))] rfl (fun _ => by kernel_rfl)) ?_
                refine .nil ?_
                refine a1 (i := 13) (by kernel_rfl) ?_
                refine one_ rfl ?_
                refine Go.PF.bs hs11 sl23 [(0, .agg #[Str s_8_3, .int .i64 (([0, 80, 443] : List Int).getD r_8_6.toNat 0), .bool (decide ((0 : Int) < r_8_10))])] rfl (cs := [Str s_8_3, .int .i64 (([0, 80, 443] : List Int).getD r_8_6.toNat 0), .bool (decide ((0 : Int) < r_8_10))]) (by kernel_rfl) rfl (by decide) (by decide) trivial rfl (fun b_8_13 w11 (hs12 : SH w w11 [rb] [.own Ag3 zs.length cg3 27 3 (zs.flatMap gRule), .own (some ⟨b_8_2, 0, none⟩) (([[], [46, 111, 114, 103], [111, 114, 103], [46, 49], [120, 46, 111, 114, 103], [110, 101, 116]] : List (List UInt8)).length) 6 9 1 (([[], [46, 111, 114, 103], [111, 114, 103], [46, 49], [120, 46, 111, 114, 103], [110, 101, 116]] : List (List UInt8)).map Str), .own (some ⟨b_8_4, 0, none⟩) (([0, 80, 443] : List Int).length) 3 3 1 (([0, 80, 443] : List Int).map I), .blk rb 50 [.slice Ab bs.length cb, .int .i64 ((q_8_10 : Nat) : Int)], .own (some ⟨b_8_13, 0, none⟩) (([((s_8_3, ([0, 80, 443] : List Int).getD r_8_6.toNat 0, (decide ((0 : Int) < r_8_10))) : List UInt8 × Int × Bool)] : List (List UInt8 × Int × Bool)).length) 1 27 3 (([((s_8_3, ([0, 80, 443] : List Int).getD r_8_6.toNat 0, (decide ((0 : Int) < r_8_10))) : List UInt8 × Int × Bool)] : List (List UInt8 × Int × Bool)).flatMap gRule)]) => ?_)
                refine nl (kq ⟨_, hs12, trivial⟩ ?_)
                refine a1 (i := 14) (by kernel_rfl) ?_
                refine one_ rfl ?_
                refine apf (g := gRule) (ys := zs) (zs := ([((s_8_3, ([0, 80, 443] : List Int).getD r_8_6.toNat 0, (decide ((0 : Int) < r_8_10))) : List UInt8 × Int × Bool)] : List (List UInt8 × Int × Bool))) hs12 0 rfl sl23 rfl (by decide) rfl rfl (hs12.sl0 4 rfl) (fun _ => rfl) (by unfold maxLen; first | omega | (simp; omega)) (by first | omega | (simp; omega)) trivial rfl (fun A_8_14 c_8_14 w12 (hs13 : SH w w12 [rb] [.own (some ⟨b_8_2, 0, none⟩) (([[], [46, 111, 114, 103], [111, 114, 103], [46, 49], [120, 46, 111, 114, 103], [110, 101, 116]] : List (List UInt8)).length) 6 9 1 (([[], [46, 111, 114, 103], [111, 114, 103], [46, 49], [120, 46, 111, 114, 103], [110, 101, 116]] : List (List UInt8)).map Str), .own (some ⟨b_8_4, 0, none⟩) (([0, 80, 443] : List Int).length) 3 3 1 (([0, 80, 443] : List Int).map I), .blk rb 50 [.slice Ab bs.length cb, .int .i64 ((q_8_10 : Nat) : Int)], .own (some ⟨b_8_13, 0, none⟩) (([((s_8_3, ([0, 80, 443] : List Int).getD r_8_6.toNat 0, (decide ((0 : Int) < r_8_10))) : List UInt8 × Int × Bool)] : List (List UInt8 × Int × Bool)).length) 1 27 3 (([((s_8_3, ([0, 80, 443] : List Int).getD r_8_6.toNat 0, (decide ((0 : Int) < r_8_10))) : List UInt8 × Int × Bool)] : List (List UInt8 × Int × Bool)).flatMap gRule), .own A_8_14 ((zs ++ ([((s_8_3, ([0, 80, 443] : List Int).getD r_8_6.toNat 0, (decide ((0 : Int) < r_8_10))) : List UInt8 × Int × Bool)] : List (List UInt8 × Int × Bool))).length) c_8_14 27 3 ((zs ++ ([((s_8_3, ([0, 80, 443] : List Int).getD r_8_6.toNat 0, (decide ((0 : Int) < r_8_10))) : List UInt8 × Int × Bool)] : List (List UInt8 × Int × Bool))).flatMap gRule)]) => ?_)
                refine nl (kq ⟨_, hs13, trivial⟩ ?_)
                refine tk (fuel := 0) (is := [15]) (.cons rfl (.nil)) (by kernel_rfl) (by kernel_rfl) ⟨_, hs13, trivial⟩ ?_
                refine .op trivial rfl rfl (fun wq _ => asg (v := .slice A_8_14 ((zs ++ ([((s_8_3, ([0, 80, 443] : List Int).getD r_8_6.toNat 0, (decide ((0 : Int) < r_8_10))) : List UInt8 × Int × Bool)] : List (List UInt8 × Int × Bool))).length) c_8_14) rfl) ?_
                refine .nil ?_
                refine ad (by kernel_rfl) ?_
                exact ⟨b_8_2, s_8_3, q_8_3, b_8_4, r_8_6, q_8_6, r_8_10, q_8_10, b_8_13, A_8_14, c_8_14, ⟨rfl, rfl, rfl, rfl, trivial⟩, p7, p8, p9, p10, p11, p12, hs13⟩
              · refine one_ rfl ?_
                refine cl trivial rfl (pick (rb := rb) (Ab := Ab) (cb := cb) (bs := bs) (p := q_8_6) (n := 3) (w := _) (hr := (blk_heap hs10 3 rfl)) (hb := (hb.up hs10 (fun _ h => h) (fun _ h => .inl h))) (hbn := (by first | assumption | (simp; omega))) (hp := (by omega))) ?_
                rintro _ w13 ⟨r_8_10, q_8_10, rfl, p13, p14, hs14'⟩
                have hs14 : SH w w13 [rb] [.own Ag3 zs.length cg3 27 3 (zs.flatMap gRule), .own (some ⟨b_8_2, 0, none⟩) (([[], [46, 111, 114, 103], [111, 114, 103], [46, 49], [120, 46, 111, 114, 103], [110, 101, 116]] : List (List UInt8)).length) 6 9 1 (([[], [46, 111, 114, 103], [111, 114, 103], [46, 49], [120, 46, 111, 114, 103], [110, 101, 116]] : List (List UInt8)).map Str), .own (some ⟨b_8_4, 0, none⟩) (([0, 80, 443] : List Int).length) 3 3 1 (([0, 80, 443] : List Int).map I), .blk rb 50 [.slice Ab bs.length cb, .int .i64 ((q_8_10 : Nat) : Int)]] := hs10.callM 3 rfl hs14' (by intro k hk; simp at hk; exact hk.symm)
                clear hs14'
                refine nl (kq ⟨_, hs14, trivial⟩ ?_)
                refine tk (fuel := 5) (is := [11]) (.cons rfl (.nil)) (by kernel_rfl) (by kernel_rfl) ⟨_, hs14, trivial⟩ ?_
                refine .op trivial rfl rfl (fun wq _ => gtr (k := .i64) (a := r_8_10) (b := 0) rfl rfl) ?_
                refine .nil ?_
                refine a1 (i := 8) (by kernel_rfl) ?_
                refine one_ rfl ?_
                refine q trivial rfl rfl (ldo1n (g := I) (ys := ([0, 80, 443] : List Int)) (o := r_8_6.toNat) 0 hs14 2 rfl rfl (by first | omega | (simp; omega)) one3) ?_
                refine nl (kq ⟨_, hs14, trivial⟩ ?_)
                refine tk (fuel := 3) (is := [12]) (.cons rfl (.nil)) (by kernel_rfl) (by kernel_rfl) ⟨_, hs14, trivial⟩ ?_
                refine .op trivial rfl rfl (fun wq _ => bdv (v := .agg #[Str s_8_3, .int .i64 (([0, 80, 443] : List Int).getD r_8_6.toNat 0), .bool (decide ((0 : Int) < r_8_10))]) [(0, Str s_8_3), (1, .int .i64 (([0, 80, 443] : List Int).getD r_8_6.toNat 0)), (2, .bool (decide ((0 : Int) < r_8_10)))] rfl (fun _ => by kernel_rfl)) ?_
                refine .nil ?_
                refine a1 (i := 13) (by kernel_rfl) ?_
                refine one_ rfl ?_
                refine Go.PF.bs hs14 sl23 [(0, .agg #[Str s_8_3, .int .i64 (([0, 80, 443] : List Int).getD r_8_6.toNat 0), .bool (decide ((0 : Int) < r_8_10))])] rfl (cs := [Str s_8_3, .int .i64 (([0, 80, 443] : List Int).getD r_8_6.toNat 0), .bool (decide ((0 : Int) < r_8_10))]) (by kernel_rfl) rfl (by decide) (by decide) trivial rfl (fun b_8_13 w14 (hs15 : SH w w14 [rb] [.own Ag3 zs.length cg3 27 3 (zs.flatMap gRule), .own (some ⟨b_8_2, 0, none⟩) (([[], [46, 111, 114, 103], [111, 114, 103], [46, 49], [120, 46, 111, 114, 103], [110, 101, 116]] : List (List UInt8)).length) 6 9 1 (([[], [46, 111, 114, 103], [111, 114, 103], [46, 49], [120, 46, 111, 114, 103], [110, 101, 116]] : List (List UInt8)).map Str), .own (some ⟨b_8_4, 0, none⟩) (([0, 80, 443] : List Int).length) 3 3 1 (([0, 80, 443] : List Int).map I), .blk rb 50 [.slice Ab bs.length cb, .int .i64 ((q_8_10 : Nat) : Int)], .own (some ⟨b_8_13, 0, none⟩) (([((s_8_3, ([0, 80, 443] : List Int).getD r_8_6.toNat 0, (decide ((0 : Int) < r_8_10))) : List UInt8 × Int × Bool)] : List (List UInt8 × Int × Bool)).length) 1 27 3 (([((s_8_3, ([0, 80, 443] : List Int).getD r_8_6.toNat 0, (decide ((0 : Int) < r_8_10))) : List UInt8 × Int × Bool)] : List (List UInt8 × Int × Bool)).flatMap gRule)]) => ?_)
                refine nl (kq ⟨_, hs15, trivial⟩ ?_)
                refine a1 (i := 14) (by kernel_rfl) ?_
                refine one_ rfl ?_
                refine apf (g := gRule) (ys := zs) (zs := ([((s_8_3, ([0, 80, 443] : List Int).getD r_8_6.toNat 0, (decide ((0 : Int) < r_8_10))) : List UInt8 × Int × Bool)] : List (List UInt8 × Int × Bool))) hs15 0 rfl sl23 rfl (by decide) rfl rfl (hs15.sl0 4 rfl) (fun _ => rfl) (by unfold maxLen; first | omega | (simp; omega)) (by first | omega | (simp; omega)) trivial rfl (fun A_8_14 c_8_14 w15 (hs16 : SH w w15 [rb] [.own (some ⟨b_8_2, 0, none⟩) (([[], [46, 111, 114, 103], [111, 114, 103], [46, 49], [120, 46, 111, 114, 103], [110, 101, 116]] : List (List UInt8)).length) 6 9 1 (([[], [46, 111, 114, 103], [111, 114, 103], [46, 49], [120, 46, 111, 114, 103], [110, 101, 116]] : List (List UInt8)).map Str), .own (some ⟨b_8_4, 0, none⟩) (([0, 80, 443] : List Int).length) 3 3 1 (([0, 80, 443] : List Int).map I), .blk rb 50 [.slice Ab bs.length cb, .int .i64 ((q_8_10 : Nat) : Int)], .own (some ⟨b_8_13, 0, none⟩) (([((s_8_3, ([0, 80, 443] : List Int).getD r_8_6.toNat 0, (decide ((0 : Int) < r_8_10))) : List UInt8 × Int × Bool)] : List (List UInt8 × Int × Bool)).length) 1 27 3 (([((s_8_3, ([0, 80, 443] : List Int).getD r_8_6.toNat 0, (decide ((0 : Int) < r_8_10))) : List UInt8 × Int × Bool)] : List (List UInt8 × Int × Bool)).flatMap gRule), .own A_8_14 ((zs ++ ([((s_8_3, ([0, 80, 443] : List Int).getD r_8_6.toNat 0, (decide ((0 : Int) < r_8_10))) : List UInt8 × Int × Bool)] : List (List UInt8 × Int × Bool))).length) c_8_14 27 3 ((zs ++ ([((s_8_3, ([0, 80, 443] : List Int).getD r_8_6.toNat 0, (decide ((0 : Int) < r_8_10))) : List UInt8 × Int × Bool)] : List (List UInt8 × Int × Bool))).flatMap gRule)]) => ?_)
                refine nl (kq ⟨_, hs16, trivial⟩ ?_)
                refine tk (fuel := 0) (is := [15]) (.cons rfl (.nil)) (by kernel_rfl) (by kernel_rfl) ⟨_, hs16, trivial⟩ ?_
                refine .op trivial rfl rfl (fun wq _ => asg (v := .slice A_8_14 ((zs ++ ([((s_8_3, ([0, 80, 443] : List Int).getD r_8_6.toNat 0, (decide ((0 : Int) < r_8_10))) : List UInt8 × Int × Bool)] : List (List UInt8 × Int × Bool))).length) c_8_14) rfl) ?_
                refine .nil ?_
                refine ad (by kernel_rfl) ?_
                exact ⟨b_8_2, s_8_3, q_8_3, b_8_4, r_8_6, q_8_6, r_8_10, q_8_10, b_8_13, A_8_14, c_8_14, ⟨rfl, rfl, rfl, rfl, trivial⟩, p7, p8, p9, p10, p13, p14, hs16⟩
            · refine one_ rfl ?_
              refine cl trivial rfl (pick (rb := rb) (Ab := Ab) (cb := cb) (bs := bs) (p := q_8_3) (n := 3) (w := _) (hr := (blk_heap hs8 2 rfl)) (hb := (hb.up hs8 (fun _ h => h) (fun _ h => .inl h))) (hbn := (by first | assumption | (simp; omega))) (hp := (by omega))) ?_
              rintro _ w16 ⟨r_8_6, q_8_6, rfl, p15, p16, hs17'⟩
              have hs17 : SH w w16 [rb] [.own Ag3 zs.length cg3 27 3 (zs.flatMap gRule), .own (some ⟨b_8_2, 0, none⟩) (([[], [46, 111, 114, 103], [111, 114, 103], [46, 49], [120, 46, 111, 114, 103], [110, 101, 116]] : List (List UInt8)).length) 6 9 1 (([[], [46, 111, 114, 103], [111, 114, 103], [46, 49], [120, 46, 111, 114, 103], [110, 101, 116]] : List (List UInt8)).map Str), .blk rb 50 [.slice Ab bs.length cb, .int .i64 ((q_8_6 : Nat) : Int)]] := hs8.callM 2 rfl hs17' (by intro k hk; simp at hk; exact hk.symm)
              clear hs17'
              refine nl (kq ⟨_, hs17, trivial⟩ ?_)
              refine a2 (i := 4) (j := 10) (by kernel_rfl) ?_ ?_
              · refine one_ rfl ?_
                refine Go.PF.bs hs17 sl38 [(0, .int .i64 0), (1, .int .i64 80), (2, .int .i64 443)] rfl (cs := [.int .i64 0, .int .i64 80, .int .i64 443]) (by kernel_rfl) rfl (by decide) (by decide) trivial rfl (fun b_8_4 w17 (hs18 : SH w w17 [rb] [.own Ag3 zs.length cg3 27 3 (zs.flatMap gRule), .own (some ⟨b_8_2, 0, none⟩) (([[], [46, 111, 114, 103], [111, 114, 103], [46, 49], [120, 46, 111, 114, 103], [110, 101, 116]] : List (List UInt8)).length) 6 9 1 (([[], [46, 111, 114, 103], [111, 114, 103], [46, 49], [120, 46, 111, 114, 103], [110, 101, 116]] : List (List UInt8)).map Str), .blk rb 50 [.slice Ab bs.length cb, .int .i64 ((q_8_6 : Nat) : Int)], .own (some ⟨b_8_4, 0, none⟩) (([0, 80, 443] : List Int).length) 3 3 1 (([0, 80, 443] : List Int).map I)]) => ?_)
                refine nl (kq ⟨_, hs18, trivial⟩ ?_)
                refine tk (fuel := 7) (is := [7]) (.cons rfl (.nil)) (by kernel_rfl) (by kernel_rfl) ⟨_, hs18, trivial⟩ ?_
                refine .op trivial rfl rfl (fun wq _ => ixo r_8_6.toNat sl38 rfl (ieq (x := r_8_6) (by omega)) (by first | omega | (simp; omega))) ?_
                refine .nil ?_
                refine a2 (i := 8) (j := 10) (by kernel_rfl) ?_ ?_
                · refine one_ rfl ?_
                  refine q trivial rfl rfl (ldo1n (g := I) (ys := ([0, 80, 443] : List Int)) (o := r_8_6.toNat) 0 hs18 3 rfl rfl (by first | omega | (simp; omega)) one3) ?_
                  refine nl (kq ⟨_, hs18, trivial⟩ ?_)
                  refine a1 (i := 10) (by kernel_rfl) ?_
                  refine one_ rfl ?_
                  refine cl trivial rfl (pick (rb := rb) (Ab := Ab) (cb := cb) (bs := bs) (p := q_8_6) (n := 3) (w := _) (hr := (blk_heap hs18 2 rfl)) (hb := (hb.up hs18 (fun _ h => h) (fun _ h => .inl h))) (hbn := (by first | assumption | (simp; omega))) (hp := (by omega))) ?_
                  rintro _ w18 ⟨r_8_10, q_8_10, rfl, p17, p18, hs19'⟩
                  have hs19 : SH w w18 [rb] [.own Ag3 zs.length cg3 27 3 (zs.flatMap gRule), .own (some ⟨b_8_2, 0, none⟩) (([[], [46, 111, 114, 103], [111, 114, 103], [46, 49], [120, 46, 111, 114, 103], [110, 101, 116]] : List (List UInt8)).length) 6 9 1 (([[], [46, 111, 114, 103], [111, 114, 103], [46, 49], [120, 46, 111, 114, 103], [110, 101, 116]] : List (List UInt8)).map Str), .own (some ⟨b_8_4, 0, none⟩) (([0, 80, 443] : List Int).length) 3 3 1 (([0, 80, 443] : List Int).map I), .blk rb 50 [.slice Ab bs.length cb, .int .i64 ((q_8_10 : Nat) : Int)]] := hs18.callM 2 rfl hs19' (by intro k hk; simp at hk; exact hk.symm)
                  clear hs19'
                  refine nl (kq ⟨_, hs19, trivial⟩ ?_)
                  refine tk (fuel := 3) (is := [11, 12]) (.cons rfl (.cons rfl (.nil))) (by kernel_rfl) (by kernel_rfl) ⟨_, hs19, trivial⟩ ?_
                  refine .op trivial rfl rfl (fun wq _ => gtr (k := .i64) (a := r_8_10) (b := 0) rfl rfl) ?_
                  refine .op trivial rfl rfl (fun wq _ => bdv (v := .agg #[Str s_8_3, .int .i64 (([0, 80, 443] : List Int).getD r_8_6.toNat 0), .bool (decide ((0 : Int) < r_8_10))]) [(0, Str s_8_3), (1, .int .i64 (([0, 80, 443] : List Int).getD r_8_6.toNat 0)), (2, .bool (decide ((0 : Int) < r_8_10)))] rfl (fun _ => by kernel_rfl)) ?_
                  refine .nil ?_
                  refine a1 (i := 13) (by kernel_rfl) ?_
                  refine one_ rfl ?_
                  refine Go.PF.bs hs19 sl23 [(0, .agg #[Str s_8_3, .int .i64 (([0, 80, 443] : List Int).getD r_8_6.toNat 0), .bool (decide ((0 : Int) < r_8_10))])] rfl (cs := [Str s_8_3, .int .i64 (([0, 80, 443] : List Int).getD r_8_6.toNat 0), .bool (decide ((0 : Int) < r_8_10))]) (by kernel_rfl) rfl (by decide) (by decide) trivial rfl (fun b_8_13 w19 (hs20 : SH w w19 [rb] [.own Ag3 zs.length cg3 27 3 (zs.flatMap gRule), .own (some ⟨b_8_2, 0, none⟩) (([[], [46, 111, 114, 103], [111, 114, 103], [46, 49], [120, 46, 111, 114, 103], [110, 101, 116]] : List (List UInt8)).length) 6 9 1 (([[], [46, 111, 114, 103], [111, 114, 103], [46, 49], [120, 46, 111, 114, 103], [110, 101, 116]] : List (List UInt8)).map Str), .own (some ⟨b_8_4, 0, none⟩) (([0, 80, 443] : List Int).length) 3 3 1 (([0, 80, 443] : List Int).map I), .blk rb 50 [.slice Ab bs.length cb, .int .i64 ((q_8_10 : Nat) : Int)], .own (some ⟨b_8_13, 0, none⟩) (([((s_8_3, ([0, 80, 443] : List Int).getD r_8_6.toNat 0, (decide ((0 : Int) < r_8_10))) : List UInt8 × Int × Bool)] : List (List UInt8 × Int × Bool)).length) 1 27 3 (([((s_8_3, ([0, 80, 443] : List Int).getD r_8_6.toNat 0, (decide ((0 : Int) < r_8_10))) : List UInt8 × Int × Bool)] : List (List UInt8 × Int × Bool)).flatMap gRule)]) => ?_)
                  refine nl (kq ⟨_, hs20, trivial⟩ ?_)
                  refine a1 (i := 14) (by kernel_rfl) ?_
                  refine one_ rfl ?_
                  refine apf (g := gRule) (ys := zs) (zs := ([((s_8_3, ([0, 80, 443] : List Int).getD r_8_6.toNat 0, (decide ((0 : Int) < r_8_10))) : List UInt8 × Int × Bool)] : List (List UInt8 × Int × Bool))) hs20 0 rfl sl23 rfl (by decide) rfl rfl (hs20.sl0 4 rfl) (fun _ => rfl) (by unfold maxLen; first | omega | (simp; omega)) (by first | omega | (simp; omega)) trivial rfl (fun A_8_14 c_8_14 w20 (hs21 : SH w w20 [rb] [.own (some ⟨b_8_2, 0, none⟩) (([[], [46, 111, 114, 103], [111, 114, 103], [46, 49], [120, 46, 111, 114, 103], [110, 101, 116]] : List (List UInt8)).length) 6 9 1 (([[], [46, 111, 114, 103], [111, 114, 103], [46, 49], [120, 46, 111, 114, 103], [110, 101, 116]] : List (List UInt8)).map Str), .own (some ⟨b_8_4, 0, none⟩) (([0, 80, 443] : List Int).length) 3 3 1 (([0, 80, 443] : List Int).map I), .blk rb 50 [.slice Ab bs.length cb, .int .i64 ((q_8_10 : Nat) : Int)], .own (some ⟨b_8_13, 0, none⟩) (([((s_8_3, ([0, 80, 443] : List Int).getD r_8_6.toNat 0, (decide ((0 : Int) < r_8_10))) : List UInt8 × Int × Bool)] : List (List UInt8 × Int × Bool)).length) 1 27 3 (([((s_8_3, ([0, 80, 443] : List Int).getD r_8_6.toNat 0, (decide ((0 : Int) < r_8_10))) : List UInt8 × Int × Bool)] : List (List UInt8 × Int × Bool)).flatMap gRule), .own A_8_14 ((zs ++ ([((s_8_3, ([0, 80, 443] : List Int).getD r_8_6.toNat 0, (decide ((0 : Int) < r_8_10))) : List UInt8 × Int × Bool)] : List (List UInt8 × Int × Bool))).length) c_8_14 27 3 ((zs ++ ([((s_8_3, ([0, 80, 443] : List Int).getD r_8_6.toNat 0, (decide ((0 : Int) < r_8_10))) : List UInt8 × Int × Bool)] : List (List UInt8 × Int × Bool))).flatMap gRule)]) => ?_)
                  refine nl (kq ⟨_, hs21, trivial⟩ ?_)
                  refine tk (fuel := 0) (is := [15]) (.cons rfl (.nil)) (by kernel_rfl) (by kernel_rfl) ⟨_, hs21, trivial⟩ ?_
                  refine .op trivial rfl rfl (fun wq _ => asg (v := .slice A_8_14 ((zs ++ ([((s_8_3, ([0, 80, 443] : List Int).getD r_8_6.toNat 0, (decide ((0 : Int) < r_8_10))) : List UInt8 × Int × Bool)] : List (List UInt8 × Int × Bool))).length) c_8_14) rfl) ?_
                  refine .nil ?_
                  refine ad (by kernel_rfl) ?_
                  exact ⟨b_8_2, s_8_3, q_8_3, b_8_4, r_8_6, q_8_6, r_8_10, q_8_10, b_8_13, A_8_14, c_8_14, ⟨rfl, rfl, rfl, rfl, trivial⟩, p7, p8, p15, p16, p17, p18, hs21⟩
                · refine one_ rfl ?_
                  refine cl trivial rfl (pick (rb := rb) (Ab := Ab) (cb := cb) (bs := bs) (p := q_8_6) (n := 3) (w := _) (hr := (blk_heap hs18 2 rfl)) (hb := (hb.up hs18 (fun _ h => h) (fun _ h => .inl h))) (hbn := (by first | assumption | (simp; omega))) (hp := (by omega))) ?_
                  rintro _ w21 ⟨r_8_10, q_8_10, rfl, p19, p20, hs22'⟩
                  have hs22 : SH w w21 [rb] [.own Ag3 zs.length cg3 27 3 (zs.flatMap gRule), .own (some ⟨b_8_2, 0, none⟩) (([[], [46, 111, 114, 103], [111, 114, 103], [46, 49], [120, 46, 111, 114, 103], [110, 101, 116]] : List (List UInt8)).length) 6 9 1 (([[], [46, 111, 114, 103], [111, 114, 103], [46, 49], [120, 46, 111, 114, 103], [110, 101, 116]] : List (List UInt8)).map Str), .own (some ⟨b_8_4, 0, none⟩) (([0, 80, 443] : List Int).length) 3 3 1 (([0, 80, 443] : List Int).map I), .blk rb 50 [.slice Ab bs.length cb, .int .i64 ((q_8_10 : Nat) : Int)]] := hs18.callM 2 rfl hs22' (by intro k hk; simp at hk; exact hk.symm)
                  clear hs22'
                  refine nl (kq ⟨_, hs22, trivial⟩ ?_)
                  refine tk (fuel := 5) (is := [11]) (.cons rfl (.nil)) (by kernel_rfl) (by kernel_rfl) ⟨_, hs22, trivial⟩ ?_
                  refine .op trivial rfl rfl (fun wq _ => gtr (k := .i64) (a := r_8_10) (b := 0) rfl rfl) ?_
                  refine .nil ?_
                  refine a1 (i := 8) (by kernel_rfl) ?_
                  refine one_ rfl ?_
                  refine q trivial rfl rfl (ldo1n (g := I) (ys := ([0, 80, 443] : List Int)) (o := r_8_6.toNat) 0 hs22 2 rfl rfl (by first | omega | (simp; omega)) one3) ?_
                  refine nl (kq ⟨_, hs22, trivial⟩ ?_)
                  refine tk (fuel := 3) (is := [12]) (.cons rfl (.nil)) (by kernel_rfl) (by kernel_rfl) ⟨_, hs22, trivial⟩ ?_
                  refine .op trivial rfl rfl (fun wq _ => bdv (v := .agg #[Str s_8_3, .int .i64 (([0, 80, 443] : List Int).getD r_8_6.toNat 0), .bool (decide ((0 : Int) < r_8_10))]) [(0, Str s_8_3), (1, .int .i64 (([0, 80, 443] : List Int).getD r_8_6.toNat 0)), (2, .bool (decide ((0 : Int) < r_8_10)))] rfl (fun _ => by kernel_rfl)) ?_
                  refine .nil ?_
                  refine a1 (i := 13) (by kernel_rfl) ?_
                  refine one_ rfl ?_
                  refine Go.PF.bs hs22 sl23 [(0, .agg #[Str s_8_3, .int .i64 (([0, 80, 443] : List Int).getD r_8_6.toNat 0), .bool (decide ((0 : Int) < r_8_10))])] rfl (cs := [Str s_8_3, .int .i64 (([0, 80, 443] : List Int).getD r_8_6.toNat 0), .bool (decide ((0 : Int) < r_8_10))]) (by kernel_rfl) rfl (by decide) (by decide) trivial rfl (fun b_8_13 w22 (hs23 : SH w w22 [rb] [.own Ag3 zs.length cg3 27 3 (zs.flatMap gRule), .own (some ⟨b_8_2, 0, none⟩) (([[], [46, 111, 114, 103], [111, 114, 103], [46, 49], [120, 46, 111, 114, 103], [110, 101, 116]] : List (List UInt8)).length) 6 9 1 (([[], [46, 111, 114, 103], [111, 114, 103], [46, 49], [120, 46, 111, 114, 103], [110, 101, 116]] : List (List UInt8)).map Str), .own (some ⟨b_8_4, 0, none⟩) (([0, 80, 443] : List Int).length) 3 3 1 (([0, 80, 443] : List Int).map I), .blk rb 50 [.slice Ab bs.length cb, .int .i64 ((q_8_10 : Nat) : Int)], .own (some ⟨b_8_13, 0, none⟩) (([((s_8_3, ([0, 80, 443] : List Int).getD r_8_6.toNat 0, (decide ((0 : Int) < r_8_10))) : List UInt8 × Int × Bool)] : List (List UInt8 × Int × Bool)).length) 1 27 3 (([((s_8_3, ([0, 80, 443] : List Int).getD r_8_6.toNat 0, (decide ((0 : Int) < r_8_10))) : List UInt8 × Int × Bool)] : List (List UInt8 × Int × Bool)).flatMap gRule)]) => ?_)
                  refine nl (kq ⟨_, hs23, trivial⟩ ?_)
                  refine a1 (i := 14) (by kernel_rfl) ?_
                  refine one_ rfl ?_
                  refine apf (g := gRule) (ys := zs) (zs := ([((s_8_3, ([0, 80, 443] : List Int).getD r_8_6.toNat 0, (decide ((0 : Int) < r_8_10))) : List UInt8 × Int × Bool)] : List (List UInt8 × Int × Bool))) hs23 0 rfl sl23 rfl (by decide) rfl rfl (hs23.sl0 4 rfl) (fun _ => rfl) (by unfold maxLen; first | omega | (simp; omega)) (by first | omega | (simp; omega)) trivial rfl (fun A_8_14 c_8_14 w23 (hs24 : SH w w23 [rb] [.own (some ⟨b_8_2, 0, none⟩) (([[], [46, 111, 114, 103], [111, 114, 103], [46, 49], [120, 46, 111, 114, 103], [110, 101, 116]] : List (List UInt8)).length) 6 9 1 (([[], [46, 111, 114, 103], [111, 114, 103], [46, 49], [120, 46, 111, 114, 103], [110, 101, 116]] : List (List UInt8)).map Str), .own (some ⟨b_8_4, 0, none⟩) (([0, 80, 443] : List Int).length) 3 3 1 (([0, 80, 443] : List Int).map I), .blk rb 50 [.slice Ab bs.length cb, .int .i64 ((q_8_10 : Nat) : Int)], .own (some ⟨b_8_13, 0, none⟩) (([((s_8_3, ([0, 80, 443] : List Int).getD r_8_6.toNat 0, (decide ((0 : Int) < r_8_10))) : List UInt8 × Int × Bool)] : List (List UInt8 × Int × Bool)).length) 1 27 3 (([((s_8_3, ([0, 80, 443] : List Int).getD r_8_6.toNat 0, (decide ((0 : Int) < r_8_10))) : List UInt8 × Int × Bool)] : List (List UInt8 × Int × Bool)).flatMap gRule), .own A_8_14 ((zs ++ ([((s_8_3, ([0, 80, 443] : List Int).getD r_8_6.toNat 0, (decide ((0 : Int) < r_8_10))) : List UInt8 × Int × Bool)] : List (List UInt8 × Int × Bool))).length) c_8_14 27 3 ((zs ++ ([((s_8_3, ([0, 80, 443] : List Int).getD r_8_6.toNat 0, (decide ((0 : Int) < r_8_10))) : List UInt8 × Int × Bool)] : List (List UInt8 × Int × Bool))).flatMap gRule)]) => ?_)
                  refine nl (kq ⟨_, hs24, trivial⟩ ?_)
                  refine tk (fuel := 0) (is := [15]) (.cons rfl (.nil)) (by kernel_rfl) (by kernel_rfl) ⟨_, hs24, trivial⟩ ?_
                  refine .op trivial rfl rfl (fun wq _ => asg (v := .slice A_8_14 ((zs ++ ([((s_8_3, ([0, 80, 443] : List Int).getD r_8_6.toNat 0, (decide ((0 : Int) < r_8_10))) : List UInt8 × Int × Bool)] : List (List UInt8 × Int × Bool))).length) c_8_14) rfl) ?_
                  refine .nil ?_
                  refine ad (by kernel_rfl) ?_
                  exact ⟨b_8_2, s_8_3, q_8_3, b_8_4, r_8_6, q_8_6, r_8_10, q_8_10, b_8_13, A_8_14, c_8_14, ⟨rfl, rfl, rfl, rfl, trivial⟩, p7, p8, p15, p16, p19, p20, hs24⟩
              · refine one_ rfl ?_
                refine cl trivial rfl (pick (rb := rb) (Ab := Ab) (cb := cb) (bs := bs) (p := q_8_6) (n := 3) (w := _) (hr := (blk_heap hs17 2 rfl)) (hb := (hb.up hs17 (fun _ h => h) (fun _ h => .inl h))) (hbn := (by first | assumption | (simp; omega))) (hp := (by omega))) ?_
                rintro _ w24 ⟨r_8_10, q_8_10, rfl, p21, p22, hs25'⟩
                have hs25 : SH w w24 [rb] [.own Ag3 zs.length cg3 27 3 (zs.flatMap gRule), .own (some ⟨b_8_2, 0, none⟩) (([[], [46, 111, 114, 103], [111, 114, 103], [46, 49], [120, 46, 111, 114, 103], [110, 101, 116]] : List (List UInt8)).length) 6 9 1 (([[], [46, 111, 114, 103], [111, 114, 103], [46, 49], [120, 46, 111, 114, 103], [110, 101, 116]] : List (List UInt8)).map Str), .blk rb 50 [.slice Ab bs.length cb, .int .i64 ((q_8_10 : Nat) : Int)]] := hs17.callM 2 rfl hs25' (by intro k hk; simp at hk; exact hk.symm)
                clear hs25'
                refine nl (kq ⟨_, hs25, trivial⟩ ?_)
                refine tk (fuel := 7) (is := [11]) (.cons rfl (.nil)) (by kernel_rfl) (by kernel_rfl) ⟨_, hs25, trivial⟩ ?_
                refine .op trivial rfl rfl (fun wq _ => gtr (k := .i64) (a := r_8_10) (b := 0) rfl rfl) ?_
                refine .nil ?_
                refine a1 (i := 4) (by kernel_rfl) ?_
                refine one_ rfl ?_
                refine Go.PF.bs hs25 sl38 [(0, .int .i64 0), (1, .int .i64 80), (2, .int .i64 443)] rfl (cs := [.int .i64 0, .int .i64 80, .int .i64 443]) (by kernel_rfl) rfl (by decide) (by decide) trivial rfl (fun b_8_4 w25 (hs26 : SH w w25 [rb] [.own Ag3 zs.length cg3 27 3 (zs.flatMap gRule), .own (some ⟨b_8_2, 0, none⟩) (([[], [46, 111, 114, 103], [111, 114, 103], [46, 49], [120, 46, 111, 114, 103], [110, 101, 116]] : List (List UInt8)).length) 6 9 1 (([[], [46, 111, 114, 103], [111, 114, 103], [46, 49], [120, 46, 111, 114, 103], [110, 101, 116]] : List (List UInt8)).map Str), .blk rb 50 [.slice Ab bs.length cb, .int .i64 ((q_8_10 : Nat) : Int)], .own (some ⟨b_8_4, 0, none⟩) (([0, 80, 443] : List Int).length) 3 3 1 (([0, 80, 443] : List Int).map I)]) => ?_)
                refine nl (kq ⟨_, hs26, trivial⟩ ?_)
                refine tk (fuel := 5) (is := [7]) (.cons rfl (.nil)) (by kernel_rfl) (by kernel_rfl) ⟨_, hs26, trivial⟩ ?_
                refine .op trivial rfl rfl (fun wq _ => ixo r_8_6.toNat sl38 rfl (ieq (x := r_8_6) (by omega)) (by first | omega | (simp; omega))) ?_
                refine .nil ?_
                refine a1 (i := 8) (by kernel_rfl) ?_
                refine one_ rfl ?_
                refine q trivial rfl rfl (ldo1n (g := I) (ys := ([0, 80, 443] : List Int)) (o := r_8_6.toNat) 0 hs26 3 rfl rfl (by first | omega | (simp; omega)) one3) ?_
                refine nl (kq ⟨_, hs26, trivial⟩ ?_)
                refine tk (fuel := 3) (is := [12]) (.cons rfl (.nil)) (by kernel_rfl) (by kernel_rfl) ⟨_, hs26, trivial⟩ ?_
                refine .op trivial rfl rfl (fun wq _ => bdv (v := .agg #[Str s_8_3, .int .i64 (([0, 80, 443] : List Int).getD r_8_6.toNat 0), .bool (decide ((0 : Int) < r_8_10))]) [(0, Str s_8_3), (1, .int .i64 (([0, 80, 443] : List Int).getD r_8_6.toNat 0)), (2, .bool (decide ((0 : Int) < r_8_10)))] rfl (fun _ => by kernel_rfl)) ?_
                refine .nil ?_
                refine a1 (i := 13) (by kernel_rfl) ?_
                refine one_ rfl ?_
                refine Go.PF.bs hs26 sl23 [(0, .agg #[Str s_8_3, .int .i64 (([0, 80, 443] : List Int).getD r_8_6.toNat 0), .bool (decide ((0 : Int) < r_8_10))])] rfl (cs := [Str s_8_3, .int .i64 (([0, 80, 443] : List Int).getD r_8_6.toNat 0), .bool (decide ((0 : Int) < r_8_10))]) (by kernel_rfl) rfl (by decide) (by decide) trivial rfl (fun b_8_13 w26 (hs27 : SH w w26 [rb] [.own Ag3 zs.length cg3 27 3 (zs.flatMap gRule), .own (some ⟨b_8_2, 0, none⟩) (([[], [46, 111, 114, 103], [111, 114, 103], [46, 49], [120, 46, 111, 114, 103], [110, 101, 116]] : List (List UInt8)).length) 6 9 1 (([[], [46, 111, 114, 103], [111, 114, 103], [46, 49], [120, 46, 111, 114, 103], [110, 101, 116]] : List (List UInt8)).map Str), .blk rb 50 [.slice Ab bs.length cb, .int .i64 ((q_8_10 : Nat) : Int)], .own (some ⟨b_8_4, 0, none⟩) (([0, 80, 443] : List Int).length) 3 3 1 (([0, 80, 443] : List Int).map I), .own (some ⟨b_8_13, 0, none⟩) (([((s_8_3, ([0, 80, 443] : List Int).getD r_8_6.toNat 0, (decide ((0 : Int) < r_8_10))) : List UInt8 × Int × Bool)] : List (List UInt8 × Int × Bool)).length) 1 27 3 (([((s_8_3, ([0, 80, 443] : List Int).getD r_8_6.toNat 0, (decide ((0 : Int) < r_8_10))) : List UInt8 × Int × Bool)] : List (List UInt8 × Int × Bool)).flatMap gRule)]) => ?_)
                refine nl (kq ⟨_, hs27, trivial⟩ ?_)
                refine a1 (i := 14) (by kernel_rfl) ?_
                refine one_ rfl ?_
                refine apf (g := gRule) (ys := zs) (zs := ([((s_8_3, ([0, 80, 443] : List Int).getD r_8_6.toNat 0, (decide ((0 : Int) < r_8_10))) : List UInt8 × Int × Bool)] : List (List UInt8 × Int × Bool))) hs27 0 rfl sl23 rfl (by decide) rfl rfl (hs27.sl0 4 rfl) (fun _ => rfl) (by unfold maxLen; first | omega | (simp; omega)) (by first | omega | (simp; omega)) trivial rfl (fun A_8_14 c_8_14 w27 (hs28 : SH w w27 [rb] [.own (some ⟨b_8_2, 0, none⟩) (([[], [46, 111, 114, 103], [111, 114, 103], [46, 49], [120, 46, 111, 114, 103], [110, 101, 116]] : List (List UInt8)).length) 6 9 1 (([[], [46, 111, 114, 103], [111, 114, 103], [46, 49], [120, 46, 111, 114, 103], [110, 101, 116]] : List (List UInt8)).map Str), .blk rb 50 [.slice Ab bs.length cb, .int .i64 ((q_8_10 : Nat) : Int)], .own (some ⟨b_8_4, 0, none⟩) (([0, 80, 443] : List Int).length) 3 3 1 (([0, 80, 443] : List Int).map I), .own (some ⟨b_8_13, 0, none⟩) (([((s_8_3, ([0, 80, 443] : List Int).getD r_8_6.toNat 0, (decide ((0 : Int) < r_8_10))) : List UInt8 × Int × Bool)] : List (List UInt8 × Int × Bool)).length) 1 27 3 (([((s_8_3, ([0, 80, 443] : List Int).getD r_8_6.toNat 0, (decide ((0 : Int) < r_8_10))) : List UInt8 × Int × Bool)] : List (List UInt8 × Int × Bool)).flatMap gRule), .own A_8_14 ((zs ++ ([((s_8_3, ([0, 80, 443] : List Int).getD r_8_6.toNat 0, (decide ((0 : Int) < r_8_10))) : List UInt8 × Int × Bool)] : List (List UInt8 × Int × Bool))).length) c_8_14 27 3 ((zs ++ ([((s_8_3, ([0, 80, 443] : List Int).getD r_8_6.toNat 0, (decide ((0 : Int) < r_8_10))) : List UInt8 × Int × Bool)] : List (List UInt8 × Int × Bool))).flatMap gRule)]) => ?_)
                refine nl (kq ⟨_, hs28, trivial⟩ ?_)
                refine tk (fuel := 0) (is := [15]) (.cons rfl (.nil)) (by kernel_rfl) (by kernel_rfl) ⟨_, hs28, trivial⟩ ?_
                refine .op trivial rfl rfl (fun wq _ => asg (v := .slice A_8_14 ((zs ++ ([((s_8_3, ([0, 80, 443] : List Int).getD r_8_6.toNat 0, (decide ((0 : Int) < r_8_10))) : List UInt8 × Int × Bool)] : List (List UInt8 × Int × Bool))).length) c_8_14) rfl) ?_
                refine .nil ?_
                refine ad (by kernel_rfl) ?_
                exact ⟨b_8_2, s_8_3, q_8_3, b_8_4, r_8_6, q_8_6, r_8_10, q_8_10, b_8_13, A_8_14, c_8_14, ⟨rfl, rfl, rfl, rfl, trivial⟩, p7, p8, p15, p16, p21, p22, (hs28.pick [0, 2, 1, 3, 4] rfl (by decide))⟩
          · refine one_ rfl ?_
            refine Go.PF.bs hs7 sl38 [(0, .int .i64 0), (1, .int .i64 80), (2, .int .i64 443)] rfl (cs := [.int .i64 0, .int .i64 80, .int .i64 443]) (by kernel_rfl) rfl (by decide) (by decide) trivial rfl (fun b_8_4 w28 (hs29 : SH w w28 [rb] [.own Ag3 zs.length cg3 27 3 (zs.flatMap gRule), .blk rb 50 [.slice Ab bs.length cb, .int .i64 ((q0 : Nat) : Int)], .own (some ⟨b_8_2, 0, none⟩) (([[], [46, 111, 114, 103], [111, 114, 103], [46, 49], [120, 46, 111, 114, 103], [110, 101, 116]] : List (List UInt8)).length) 6 9 1 (([[], [46, 111, 114, 103], [111, 114, 103], [46, 49], [120, 46, 111, 114, 103], [110, 101, 116]] : List (List UInt8)).map Str), .own (some ⟨b_8_4, 0, none⟩) (([0, 80, 443] : List Int).length) 3 3 1 (([0, 80, 443] : List Int).map I)]) => ?_)
            refine nl (kq ⟨_, hs29, trivial⟩ ?_)
            refine a1 (i := 3) (by kernel_rfl) ?_
            refine one_ rfl ?_
            refine cl trivial rfl (rdOf (rb := rb) (Ab := Ab) (cb := cb) (bs := bs) (p := q0) (Ass := (some ⟨b_8_2, 0, none⟩)) (css := 6) (ss := ([[], [46, 111, 114, 103], [111, 114, 103], [46, 49], [120, 46, 111, 114, 103], [110, 101, 116]] : List (List UInt8))) (w := _) (hr := (blk_heap hs29 1 rfl)) (hb := (hb.up hs29 (fun _ h => h) (fun _ h => .inl h))) (hbn := (by first | assumption | (simp; omega))) (hp := (by omega)) (hss := (hs29.sl 2 rfl (by intro k hk; simp at hk; subst hk; exact ⟨_, memi 1 rfl, rfl⟩))) (hne := (by first | omega | assumption | (simp; done) | (simp; omega)))) ?_
            rintro _ w29 ⟨s_8_3, q_8_3, rfl, p23, p24, hs30'⟩
            have hs30 : SH w w29 [rb] [.own Ag3 zs.length cg3 27 3 (zs.flatMap gRule), .own (some ⟨b_8_2, 0, none⟩) (([[], [46, 111, 114, 103], [111, 114, 103], [46, 49], [120, 46, 111, 114, 103], [110, 101, 116]] : List (List UInt8)).length) 6 9 1 (([[], [46, 111, 114, 103], [111, 114, 103], [46, 49], [120, 46, 111, 114, 103], [110, 101, 116]] : List (List UInt8)).map Str), .own (some ⟨b_8_4, 0, none⟩) (([0, 80, 443] : List Int).length) 3 3 1 (([0, 80, 443] : List Int).map I), .blk rb 50 [.slice Ab bs.length cb, .int .i64 ((q_8_3 : Nat) : Int)]] := hs29.callM 1 rfl hs30' (by intro k hk; simp at hk; exact hk.symm)
            clear hs30'
            refine nl (kq ⟨_, hs30, trivial⟩ ?_)
            refine a1 (i := 6) (by kernel_rfl) ?_
            refine one_ rfl ?_
            refine cl trivial rfl (pick (rb := rb) (Ab := Ab) (cb := cb) (bs := bs) (p := q_8_3) (n := 3) (w := _) (hr := (blk_heap hs30 3 rfl)) (hb := (hb.up hs30 (fun _ h => h) (fun _ h => .inl h))) (hbn := (by first | assumption | (simp; omega))) (hp := (by omega))) ?_
            rintro _ w30 ⟨r_8_6, q_8_6, rfl, p25, p26, hs31'⟩
            have hs31 : SH w w30 [rb] [.own Ag3 zs.length cg3 27 3 (zs.flatMap gRule), .own (some ⟨b_8_2, 0, none⟩) (([[], [46, 111, 114, 103], [111, 114, 103], [46, 49], [120, 46, 111, 114, 103], [110, 101, 116]] : List (List UInt8)).length) 6 9 1 (([[], [46, 111, 114, 103], [111, 114, 103], [46, 49], [120, 46, 111, 114, 103], [110, 101, 116]] : List (List UInt8)).map Str), .own (some ⟨b_8_4, 0, none⟩) (([0, 80, 443] : List Int).length) 3 3 1 (([0, 80, 443] : List Int).map I), .blk rb 50 [.slice Ab bs.length cb, .int .i64 ((q_8_6 : Nat) : Int)]] := hs30.callM 3 rfl hs31' (by intro k hk; simp at hk; exact hk.symm)
            clear hs31'
            refine nl (kq ⟨_, hs31, trivial⟩ ?_)
            refine tk (fuel := 7) (is := [7]) (.cons rfl (.nil)) (by kernel_rfl) (by kernel_rfl) ⟨_, hs31, trivial⟩ ?_
            refine .op trivial rfl rfl (fun wq _ => ixo r_8_6.toNat sl38 rfl (ieq (x := r_8_6) (by omega)) (by first | omega | (simp; omega))) ?_
            refine .nil ?_
            refine a2 (i := 8) (j := 10) (by kernel_rfl) ?_ ?_
            · refine one_ rfl ?_
              refine q trivial rfl rfl (ldo1n (g := I) (ys := ([0, 80, 443] : List Int)) (o := r_8_6.toNat) 0 hs31 2 rfl rfl (by first | omega | (simp; omega)) one3) ?_
              refine nl (kq ⟨_, hs31, trivial⟩ ?_)
              refine a1 (i := 10) (by kernel_rfl) ?_
              refine one_ rfl ?_
              refine cl trivial rfl (pick (rb := rb) (Ab := Ab) (cb := cb) (bs := bs) (p := q_8_6) (n := 3) (w := _) (hr := (blk_heap hs31 3 rfl)) (hb := (hb.up hs31 (fun _ h => h) (fun _ h => .inl h))) (hbn := (by first | assumption | (simp; omega))) (hp := (by omega))) ?_
              rintro _ w31 ⟨r_8_10, q_8_10, rfl, p27, p28, hs32'⟩
              have hs32 : SH w w31 [rb] [.own Ag3 zs.length cg3 27 3 (zs.flatMap gRule), .own (some ⟨b_8_2, 0, none⟩) (([[], [46, 111, 114, 103], [111, 114, 103], [46, 49], [120, 46, 111, 114, 103], [110, 101, 116]] : List (List UInt8)).length) 6 9 1 (([[], [46, 111, 114, 103], [111, 114, 103], [46, 49], [120, 46, 111, 114, 103], [110, 101, 116]] : List (List UInt8)).map Str), .own (some ⟨b_8_4, 0, none⟩) (([0, 80, 443] : List Int).length) 3 3 1 (([0, 80, 443] : List Int).map I), .blk rb 50 [.slice Ab bs.length cb, .int .i64 ((q_8_10 : Nat) : Int)]] := hs31.callM 3 rfl hs32' (by intro k hk; simp at hk; exact hk.symm)
              clear hs32'
              refine nl (kq ⟨_, hs32, trivial⟩ ?_)
              refine tk (fuel := 3) (is := [11, 12]) (.cons rfl (.cons rfl (.nil))) (by kernel_rfl) (by kernel_rfl) ⟨_, hs32, trivial⟩ ?_
              refine .op trivial rfl rfl (fun wq _ => gtr (k := .i64) (a := r_8_10) (b := 0) rfl rfl) ?_
              refine .op trivial rfl rfl (fun wq _ => bdv (v := .agg #[Str s_8_3, .int .i64 (([0, 80, 443] : List Int).getD r_8_6.toNat 0), .bool (decide ((0 : Int) < r_8_10))]) [(0, Str s_8_3), (1, .int .i64 (([0, 80, 443] : List Int).getD r_8_6.toNat 0)), (2, .bool (decide ((0 : Int) < r_8_10)))] rfl (fun _ => by kernel_rfl)) ?_
              refine .nil ?_
              refine a1 (i := 13) (by kernel_rfl) ?_
              refine one_ rfl ?_
              refine Go.PF.bs hs32 sl23 [(0, .agg #[Str s_8_3, .int .i64 (([0, 80, 443] : List Int).getD r_8_6.toNat 0), .bool (decide ((0 : Int) < r_8_10))])] rfl (cs := [Str s_8_3, .int .i64 (([0, 80, 443] : List Int).getD r_8_6.toNat 0), .bool (decide ((0 : Int) < r_8_10))]) (by kernel_rfl) rfl (by decide) (by decide) trivial rfl (fun b_8_13 w32 (hs33 : SH w w32 [rb] [.own Ag3 zs.length cg3 27 3 (zs.flatMap gRule), .own (some ⟨b_8_2, 0, none⟩) (([[], [46, 111, 114, 103], [111, 114, 103], [46, 49], [120, 46, 111, 114, 103], [110, 101, 116]] : List (List UInt8)).length) 6 9 1 (([[], [46, 111, 114, 103], [111, 114, 103], [46, 49], [120, 46, 111, 114, 103], [110, 101, 116]] : List (List UInt8)).map Str), .own (some ⟨b_8_4, 0, none⟩) (([0, 80, 443] : List Int).length) 3 3 1 (([0, 80, 443] : List Int).map I), .blk rb 50 [.slice Ab bs.length cb, .int .i64 ((q_8_10 : Nat) : Int)], .own (some ⟨b_8_13, 0, none⟩) (([((s_8_3, ([0, 80, 443] : List Int).getD r_8_6.toNat 0, (decide ((0 : Int) < r_8_10))) : List UInt8 × Int × Bool)] : List (List UInt8 × Int × Bool)).length) 1 27 3 (([((s_8_3, ([0, 80, 443] : List Int).getD r_8_6.toNat 0, (decide ((0 : Int) < r_8_10))) : List UInt8 × Int × Bool)] : List (List UInt8 × Int × Bool)).flatMap gRule)]) => ?_)
              refine nl (kq ⟨_, hs33, trivial⟩ ?_)
              refine a1 (i := 14) (by kernel_rfl) ?_
              refine one_ rfl ?_
              refine apf (g := gRule) (ys := zs) (zs := ([((s_8_3, ([0, 80, 443] : List Int).getD r_8_6.toNat 0, (decide ((0 : Int) < r_8_10))) : List UInt8 × Int × Bool)] : List (List UInt8 × Int × Bool))) hs33 0 rfl sl23 rfl (by decide) rfl rfl (hs33.sl0 4 rfl) (fun _ => rfl) (by unfold maxLen; first | omega | (simp; omega)) (by first | omega | (simp; omega)) trivial rfl (fun A_8_14 c_8_14 w33 (hs34 : SH w w33 [rb] [.own (some ⟨b_8_2, 0, none⟩) (([[], [46, 111, 114, 103], [111, 114, 103], [46, 49], [120, 46, 111, 114, 103], [110, 101, 116]] : List (List UInt8)).length) 6 9 1 (([[], [46, 111, 114, 103], [111, 114, 103], [46, 49], [120, 46, 111, 114, 103], [110, 101, 116]] : List (List UInt8)).map Str), .own (some ⟨b_8_4, 0, none⟩) (([0, 80, 443] : List Int).length) 3 3 1 (([0, 80, 443] : List Int).map I), .blk rb 50 [.slice Ab bs.length cb, .int .i64 ((q_8_10 : Nat) : Int)], .own (some ⟨b_8_13, 0, none⟩) (([((s_8_3, ([0, 80, 443] : List Int).getD r_8_6.toNat 0, (decide ((0 : Int) < r_8_10))) : List UInt8 × Int × Bool)] : List (List UInt8 × Int × Bool)).length) 1 27 3 (([((s_8_3, ([0, 80, 443] : List Int).getD r_8_6.toNat 0, (decide ((0 : Int) < r_8_10))) : List UInt8 × Int × Bool)] : List (List UInt8 × Int × Bool)).flatMap gRule), .own A_8_14 ((zs ++ ([((s_8_3, ([0, 80, 443] : List Int).getD r_8_6.toNat 0, (decide ((0 : Int) < r_8_10))) : List UInt8 × Int × Bool)] : List (List UInt8 × Int × Bool))).length) c_8_14 27 3 ((zs ++ ([((s_8_3, ([0, 80, 443] : List Int).getD r_8_6.toNat 0, (decide ((0 : Int) < r_8_10))) : List UInt8 × Int × Bool)] : List (List UInt8 × Int × Bool))).flatMap gRule)]) => ?_)
              refine nl (kq ⟨_, hs34, trivial⟩ ?_)
              refine tk (fuel := 0) (is := [15]) (.cons rfl (.nil)) (by kernel_rfl) (by kernel_rfl) ⟨_, hs34, trivial⟩ ?_
              refine .op trivial rfl rfl (fun wq _ => asg (v := .slice A_8_14 ((zs ++ ([((s_8_3, ([0, 80, 443] : List Int).getD r_8_6.toNat 0, (decide ((0 : Int) < r_8_10))) : List UInt8 × Int × Bool)] : List (List UInt8 × Int × Bool))).length) c_8_14) rfl) ?_
              refine .nil ?_
              refine ad (by kernel_rfl) ?_
              exact ⟨b_8_2, s_8_3, q_8_3, b_8_4, r_8_6, q_8_6, r_8_10, q_8_10, b_8_13, A_8_14, c_8_14, ⟨rfl, rfl, rfl, rfl, trivial⟩, p23, p24, p25, p26, p27, p28, hs34⟩
            · refine one_ rfl ?_
              refine cl trivial rfl (pick (rb := rb) (Ab := Ab) (cb := cb) (bs := bs) (p := q_8_6) (n := 3) (w := _) (hr := (blk_heap hs31 3 rfl)) (hb := (hb.up hs31 (fun _ h => h) (fun _ h => .inl h))) (hbn := (by first | assumption | (simp; omega))) (hp := (by omega))) ?_
              rintro _ w34 ⟨r_8_10, q_8_10, rfl, p29, p30, hs35'⟩
              have hs35 : SH w w34 [rb] [.own Ag3 zs.length cg3 27 3 (zs.flatMap gRule), .own (some ⟨b_8_2, 0, none⟩) (([[], [46, 111, 114, 103], [111, 114, 103], [46, 49], [120, 46, 111, 114, 103], [110, 101, 116]] : List (List UInt8)).length) 6 9 1 (([[], [46, 111, 114, 103], [111, 114, 103], [46, 49], [120, 46, 111, 114, 103], [110, 101, 116]] : List (List UInt8)).map Str), .own (some ⟨b_8_4, 0, none⟩) (([0, 80, 443] : List Int).length) 3 3 1 (([0, 80, 443] : List Int).map I), .blk rb 50 [.slice Ab bs.length cb, .int .i64 ((q_8_10 : Nat) : Int)]] := hs31.callM 3 rfl hs35' (by intro k hk; simp at hk; exact hk.symm)
              clear hs35'
              refine nl (kq ⟨_, hs35, trivial⟩ ?_)
              refine tk (fuel := 5) (is := [11]) (.cons rfl (.nil)) (by kernel_rfl) (by kernel_rfl) ⟨_, hs35, trivial⟩ ?_
              refine .op trivial rfl rfl (fun wq _ => gtr (k := .i64) (a := r_8_10) (b := 0) rfl rfl) ?_
              refine .nil ?_
              refine a1 (i := 8) (by kernel_rfl) ?_
              refine one_ rfl ?_
              refine q trivial rfl rfl (ldo1n (g := I) (ys := ([0, 80, 443] : List Int)) (o := r_8_6.toNat) 0 hs35 2 rfl rfl (by first | omega | (simp; omega)) one3) ?_
              refine nl (kq ⟨_, hs35, trivial⟩ ?_)
              refine tk (fuel := 3) (is := [12]) (.cons rfl (.nil)) (by kernel_rfl) (by kernel_rfl) ⟨_, hs35, trivial⟩ ?_
              refine .op trivial rfl rfl (fun wq _ => bdv (v := .agg #[Str s_8_3, .int .i64 (([0, 80, 443] : List Int).getD r_8_6.toNat 0), .bool (decide ((0 : Int) < r_8_10))]) [(0, Str s_8_3), (1, .int .i64 (([0, 80, 443] : List Int).getD r_8_6.toNat 0)), (2, .bool (decide ((0 : Int) < r_8_10)))] rfl (fun _ => by kernel_rfl)) ?_
              refine .nil ?_
              refine a1 (i := 13) (by kernel_rfl) ?_
              refine one_ rfl ?_
              refine Go.PF.bs hs35 sl23 [(0, .agg #[Str s_8_3, .int .i64 (([0, 80, 443] : List Int).getD r_8_6.toNat 0), .bool (decide ((0 : Int) < r_8_10))])] rfl (cs := [Str s_8_3, .int .i64 (([0, 80, 443] : List Int).getD r_8_6.toNat 0), .bool (decide ((0 : Int) < r_8_10))]) (by kernel_rfl) rfl (by decide) (by decide) trivial rfl (fun b_8_13 w35 (hs36 : SH w w35 [rb] [.own Ag3 zs.length cg3 27 3 (zs.flatMap gRule), .own (some ⟨b_8_2, 0, none⟩) (([[], [46, 111, 114, 103], [111, 114, 103], [46, 49], [120, 46, 111, 114, 103], [110, 101, 116]] : List (List UInt8)).length) 6 9 1 (([[], [46, 111, 114, 103], [111, 114, 103], [46, 49], [120, 46, 111, 114, 103], [110, 101, 116]] : List (List UInt8)).map Str), .own (some ⟨b_8_4, 0, none⟩) (([0, 80, 443] : List Int).length) 3 3 1 (([0, 80, 443] : List Int).map I), .blk rb 50 [.slice Ab bs.length cb, .int .i64 ((q_8_10 : Nat) : Int)], .own (some ⟨b_8_13, 0, none⟩) (([((s_8_3, ([0, 80, 443] : List Int).getD r_8_6.toNat 0, (decide ((0 : Int) < r_8_10))) : List UInt8 × Int × Bool)] : List (List UInt8 × Int × Bool)).length) 1 27 3 (([((s_8_3, ([0, 80, 443] : List Int).getD r_8_6.toNat 0, (decide ((0 : Int) < r_8_10))) : List UInt8 × Int × Bool)] : List (List UInt8 × Int × Bool)).flatMap gRule)]) => ?_)
              refine nl (kq ⟨_, hs36, trivial⟩ ?_)
              refine a1 (i := 14) (by kernel_rfl) ?_
              refine one_ rfl ?_
              refine apf (g := gRule) (ys := zs) (zs := ([((s_8_3, ([0, 80, 443] : List Int).getD r_8_6.toNat 0, (decide ((0 : Int) < r_8_10))) : List UInt8 × Int × Bool)] : List (List UInt8 × Int × Bool))) hs36 0 rfl sl23 rfl (by decide) rfl rfl (hs36.sl0 4 rfl) (fun _ => rfl) (by unfold maxLen; first | omega | (simp; omega)) (by first | omega | (simp; omega)) trivial rfl (fun A_8_14 c_8_14 w36 (hs37 : SH w w36 [rb] [.own (some ⟨b_8_2, 0, none⟩) (([[], [46, 111, 114, 103], [111, 114, 103], [46, 49], [120, 46, 111, 114, 103], [110, 101, 116]] : List (List UInt8)).length) 6 9 1 (([[], [46, 111, 114, 103], [111, 114, 103], [46, 49], [120, 46, 111, 114, 103], [110, 101, 116]] : List (List UInt8)).map Str), .own (some ⟨b_8_4, 0, none⟩) (([0, 80, 443] : List Int).length) 3 3 1 (([0, 80, 443] : List Int).map I), .blk rb 50 [.slice Ab bs.length cb, .int .i64 ((q_8_10 : Nat) : Int)], .own (some ⟨b_8_13, 0, none⟩) (([((s_8_3, ([0, 80, 443] : List Int).getD r_8_6.toNat 0, (decide ((0 : Int) < r_8_10))) : List UInt8 × Int × Bool)] : List (List UInt8 × Int × Bool)).length) 1 27 3 (([((s_8_3, ([0, 80, 443] : List Int).getD r_8_6.toNat 0, (decide ((0 : Int) < r_8_10))) : List UInt8 × Int × Bool)] : List (List UInt8 × Int × Bool)).flatMap gRule), .own A_8_14 ((zs ++ ([((s_8_3, ([0, 80, 443] : List Int).getD r_8_6.toNat 0, (decide ((0 : Int) < r_8_10))) : List UInt8 × Int × Bool)] : List (List UInt8 × Int × Bool))).length) c_8_14 27 3 ((zs ++ ([((s_8_3, ([0, 80, 443] : List Int).getD r_8_6.toNat 0, (decide ((0 : Int) < r_8_10))) : List UInt8 × Int × Bool)] : List (List UInt8 × Int × Bool))).flatMap gRule)]) => ?_)
              refine nl (kq ⟨_, hs37, trivial⟩ ?_)
              refine tk (fuel := 0) (is := [15]) (.cons rfl (.nil)) (by kernel_rfl) (by kernel_rfl) ⟨_, hs37, trivial⟩ ?_
              refine .op trivial rfl rfl (fun wq _ => asg (v := .slice A_8_14 ((zs ++ ([((s_8_3, ([0, 80, 443] : List Int).getD r_8_6.toNat 0, (decide ((0 : Int) < r_8_10))) : List UInt8 × Int × Bool)] : List (List UInt8 × Int × Bool))).length) c_8_14) rfl) ?_
              refine .nil ?_
              refine ad (by kernel_rfl) ?_
              exact ⟨b_8_2, s_8_3, q_8_3, b_8_4, r_8_6, q_8_6, r_8_10, q_8_10, b_8_13, A_8_14, c_8_14, ⟨rfl, rfl, rfl, rfl, trivial⟩, p23, p24, p25, p26, p29, p30, hs37⟩
        · refine one_ rfl ?_
          refine Go.PF.bs hs6 sl38 [(0, .int .i64 0), (1, .int .i64 80), (2, .int .i64 443)] rfl (cs := [.int .i64 0, .int .i64 80, .int .i64 443]) (by kernel_rfl) rfl (by decide) (by decide) trivial rfl (fun b_8_4 w37 (hs38 : SH w w37 [rb] [.own Ag3 zs.length cg3 27 3 (zs.flatMap gRule), .blk rb 50 [.slice Ab bs.length cb, .int .i64 ((q0 : Nat) : Int)], .own (some ⟨b_8_4, 0, none⟩) (([0, 80, 443] : List Int).length) 3 3 1 (([0, 80, 443] : List Int).map I)]) => ?_)
          refine nl (kq ⟨_, hs38, trivial⟩ ?_)
          refine a1 (i := 2) (by kernel_rfl) ?_
          refine one_ rfl ?_
          refine Go.PF.bs hs38 sl52 [(0, Str []), (1, Str [46, 111, 114, 103]), (2, Str [111, 114, 103]), (3, Str [46, 49]), (4, Str [120, 46, 111, 114, 103]), (5, Str [110, 101, 116])] rfl (cs := [Str [], Str [46, 111, 114, 103], Str [111, 114, 103], Str [46, 49], Str [120, 46, 111, 114, 103], Str [110, 101, 116]]) (by kernel_rfl) rfl (by decide) (by decide) trivial rfl (fun b_8_2 w38 (hs39 : SH w w38 [rb] [.own Ag3 zs.length cg3 27 3 (zs.flatMap gRule), .blk rb 50 [.slice Ab bs.length cb, .int .i64 ((q0 : Nat) : Int)], .own (some ⟨b_8_4, 0, none⟩) (([0, 80, 443] : List Int).length) 3 3 1 (([0, 80, 443] : List Int).map I), .own (some ⟨b_8_2, 0, none⟩) (([[], [46, 111, 114, 103], [111, 114, 103], [46, 49], [120, 46, 111, 114, 103], [110, 101, 116]] : List (List UInt8)).length) 6 9 1 (([[], [46, 111, 114, 103], [111, 114, 103], [46, 49], [120, 46, 111, 114, 103], [110, 101, 116]] : List (List UInt8)).map Str)]) => ?_)
          refine nl (kq ⟨_, hs39, trivial⟩ ?_)
          refine a1 (i := 3) (by kernel_rfl) ?_
          refine one_ rfl ?_
          refine cl trivial rfl (rdOf (rb := rb) (Ab := Ab) (cb := cb) (bs := bs) (p := q0) (Ass := (some ⟨b_8_2, 0, none⟩)) (css := 6) (ss := ([[], [46, 111, 114, 103], [111, 114, 103], [46, 49], [120, 46, 111, 114, 103], [110, 101, 116]] : List (List UInt8))) (w := _) (hr := (blk_heap hs39 1 rfl)) (hb := (hb.up hs39 (fun _ h => h) (fun _ h => .inl h))) (hbn := (by first | assumption | (simp; omega))) (hp := (by omega)) (hss := (hs39.sl 3 rfl (by intro k hk; simp at hk; subst hk; exact ⟨_, memi 1 rfl, rfl⟩))) (hne := (by first | omega | assumption | (simp; done) | (simp; omega)))) ?_
          rintro _ w39 ⟨s_8_3, q_8_3, rfl, p31, p32, hs40'⟩
          have hs40 : SH w w39 [rb] [.own Ag3 zs.length cg3 27 3 (zs.flatMap gRule), .own (some ⟨b_8_4, 0, none⟩) (([0, 80, 443] : List Int).length) 3 3 1 (([0, 80, 443] : List Int).map I), .own (some ⟨b_8_2, 0, none⟩) (([[], [46, 111, 114, 103], [111, 114, 103], [46, 49], [120, 46, 111, 114, 103], [110, 101, 116]] : List (List UInt8)).length) 6 9 1 (([[], [46, 111, 114, 103], [111, 114, 103], [46, 49], [120, 46, 111, 114, 103], [110, 101, 116]] : List (List UInt8)).map Str), .blk rb 50 [.slice Ab bs.length cb, .int .i64 ((q_8_3 : Nat) : Int)]] := hs39.callM 1 rfl hs40' (by intro k hk; simp at hk; exact hk.symm)
          clear hs40'
          refine nl (kq ⟨_, hs40, trivial⟩ ?_)
          refine a1 (i := 6) (by kernel_rfl) ?_
          refine one_ rfl ?_
          refine cl trivial rfl (pick (rb := rb) (Ab := Ab) (cb := cb) (bs := bs) (p := q_8_3) (n := 3) (w := _) (hr := (blk_heap hs40 3 rfl)) (hb := (hb.up hs40 (fun _ h => h) (fun _ h => .inl h))) (hbn := (by first | assumption | (simp; omega))) (hp := (by omega))) ?_
          rintro _ w40 ⟨r_8_6, q_8_6, rfl, p33, p34, hs41'⟩
          have hs41 : SH w w40 [rb] [.own Ag3 zs.length cg3 27 3 (zs.flatMap gRule), .own (some ⟨b_8_4, 0, none⟩) (([0, 80, 443] : List Int).length) 3 3 1 (([0, 80, 443] : List Int).map I), .own (some ⟨b_8_2, 0, none⟩) (([[], [46, 111, 114, 103], [111, 114, 103], [46, 49], [120, 46, 111, 114, 103], [110, 101, 116]] : List (List UInt8)).length) 6 9 1 (([[], [46, 111, 114, 103], [111, 114, 103], [46, 49], [120, 46, 111, 114, 103], [110, 101, 116]] : List (List UInt8)).map Str), .blk rb 50 [.slice Ab bs.length cb, .int .i64 ((q_8_6 : Nat) : Int)]] := hs40.callM 3 rfl hs41' (by intro k hk; simp at hk; exact hk.symm)
          clear hs41'
          refine nl (kq ⟨_, hs41, trivial⟩ ?_)
          refine tk (fuel := 7) (is := [7]) (.cons rfl (.nil)) (by kernel_rfl) (by kernel_rfl) ⟨_, hs41, trivial⟩ ?_
          refine .op trivial rfl rfl (fun wq _ => ixo r_8_6.toNat sl38 rfl (ieq (x := r_8_6) (by omega)) (by first | omega | (simp; omega))) ?_
          refine .nil ?_
          refine a2 (i := 8) (j := 10) (by kernel_rfl) ?_ ?_
          · refine one_ rfl ?_
            refine q trivial rfl rfl (ldo1n (g := I) (ys := ([0, 80, 443] : List Int)) (o := r_8_6.toNat) 0 hs41 1 rfl rfl (by first | omega | (simp; omega)) one3) ?_
            refine nl (kq ⟨_, hs41, trivial⟩ ?_)
            refine a1 (i := 10) (by kernel_rfl) ?_
            refine one_ rfl ?_
            refine cl trivial rfl (pick (rb := rb) (Ab := Ab) (cb := cb) (bs := bs) (p := q_8_6) (n := 3) (w := _) (hr := (blk_heap hs41 3 rfl)) (hb := (hb.up hs41 (fun _ h => h) (fun _ h => .inl h))) (hbn := (by first | assumption | (simp; omega))) (hp := (by omega))) ?_
            rintro _ w41 ⟨r_8_10, q_8_10, rfl, p35, p36, hs42'⟩
            have hs42 : SH w w41 [rb] [.own Ag3 zs.length cg3 27 3 (zs.flatMap gRule), .own (some ⟨b_8_4, 0, none⟩) (([0, 80, 443] : List Int).length) 3 3 1 (([0, 80, 443] : List Int).map I), .own (some ⟨b_8_2, 0, none⟩) (([[], [46, 111, 114, 103], [111, 114, 103], [46, 49], [120, 46, 111, 114, 103], [110, 101, 116]] : List (List UInt8)).length) 6 9 1 (([[], [46, 111, 114, 103], [111, 114, 103], [46, 49], [120, 46, 111, 114, 103], [110, 101, 116]] : List (List UInt8)).map Str), .blk rb 50 [.slice Ab bs.length cb, .int .i64 ((q_8_10 : Nat) : Int)]] := hs41.callM 3 rfl hs42' (by intro k hk; simp at hk; exact hk.symm)
            clear hs42'
            refine nl (kq ⟨_, hs42, trivial⟩ ?_)
            refine tk (fuel := 3) (is := [11, 12]) (.cons rfl (.cons rfl (.nil))) (by kernel_rfl) (by kernel_rfl) ⟨_, hs42, trivial⟩ ?_
            refine .op trivial rfl rfl (fun wq _ => gtr (k := .i64) (a := r_8_10) (b := 0) rfl rfl) ?_
            refine .op trivial rfl rfl (fun wq _ => bdv (v := .agg #[Str s_8_3, .int .i64 (([0, 80, 443] : List Int).getD r_8_6.toNat 0), .bool (decide ((0 : Int) < r_8_10))]) [(0, Str s_8_3), (1, .int .i64 (([0, 80, 443] : List Int).getD r_8_6.toNat 0)), (2, .bool (decide ((0 : Int) < r_8_10)))] rfl (fun _ => by kernel_rfl)) ?_
            refine .nil ?_
            refine a1 (i := 13) (by kernel_rfl) ?_
            refine one_ rfl ?_
            refine Go.PF.bs hs42 sl23 [(0, .agg #[Str s_8_3, .int .i64 (([0, 80, 443] : List Int).getD r_8_6.toNat 0), .bool (decide ((0 : Int) < r_8_10))])] rfl (cs := [Str s_8_3, .int .i64 (([0, 80, 443] : List Int).getD r_8_6.toNat 0), .bool (decide ((0 : Int) < r_8_10))]) (by kernel_rfl) rfl (by decide) (by decide) trivial rfl (fun b_8_13 w42 (hs43 : SH w w42 [rb] [.own Ag3 zs.length cg3 27 3 (zs.flatMap gRule), .own (some ⟨b_8_4, 0, none⟩) (([0, 80, 443] : List Int).length) 3 3 1 (([0, 80, 443] : List Int).map I), .own (some ⟨b_8_2, 0, none⟩) (([[], [46, 111, 114, 103], [111, 114, 103], [46, 49], [120, 46, 111, 114, 103], [110, 101, 116]] : List (List UInt8)).length) 6 9 1 (([[], [46, 111, 114, 103], [111, 114, 103], [46, 49], [120, 46, 111, 114, 103], [110, 101, 116]] : List (List UInt8)).map Str), .blk rb 50 [.slice Ab bs.length cb, .int .i64 ((q_8_10 : Nat) : Int)], .own (some ⟨b_8_13, 0, none⟩) (([((s_8_3, ([0, 80, 443] : List Int).getD r_8_6.toNat 0, (decide ((0 : Int) < r_8_10))) : List UInt8 × Int × Bool)] : List (List UInt8 × Int × Bool)).length) 1 27 3 (([((s_8_3, ([0, 80, 443] : List Int).getD r_8_6.toNat 0, (decide ((0 : Int) < r_8_10))) : List UInt8 × Int × Bool)] : List (List UInt8 × Int × Bool)).flatMap gRule)]) => ?_)
            refine nl (kq ⟨_, hs43, trivial⟩ ?_)
            refine a1 (i := 14) (by kernel_rfl) ?_
            refine one_ rfl ?_
            refine apf (g := gRule) (ys := zs) (zs := ([((s_8_3, ([0, 80, 443] : List Int).getD r_8_6.toNat 0, (decide ((0 : Int) < r_8_10))) : List UInt8 × Int × Bool)] : List (List UInt8 × Int × Bool))) hs43 0 rfl sl23 rfl (by decide) rfl rfl (hs43.sl0 4 rfl) (fun _ => rfl) (by unfold maxLen; first | omega | (simp; omega)) (by first | omega | (simp; omega)) trivial rfl (fun A_8_14 c_8_14 w43 (hs44 : SH w w43 [rb] [.own (some ⟨b_8_4, 0, none⟩) (([0, 80, 443] : List Int).length) 3 3 1 (([0, 80, 443] : List Int).map I), .own (some ⟨b_8_2, 0, none⟩) (([[], [46, 111, 114, 103], [111, 114, 103], [46, 49], [120, 46, 111, 114, 103], [110, 101, 116]] : List (List UInt8)).length) 6 9 1 (([[], [46, 111, 114, 103], [111, 114, 103], [46, 49], [120, 46, 111, 114, 103], [110, 101, 116]] : List (List UInt8)).map Str), .blk rb 50 [.slice Ab bs.length cb, .int .i64 ((q_8_10 : Nat) : Int)], .own (some ⟨b_8_13, 0, none⟩) (([((s_8_3, ([0, 80, 443] : List Int).getD r_8_6.toNat 0, (decide ((0 : Int) < r_8_10))) : List UInt8 × Int × Bool)] : List (List UInt8 × Int × Bool)).length) 1 27 3 (([((s_8_3, ([0, 80, 443] : List Int).getD r_8_6.toNat 0, (decide ((0 : Int) < r_8_10))) : List UInt8 × Int × Bool)] : List (List UInt8 × Int × Bool)).flatMap gRule), .own A_8_14 ((zs ++ ([((s_8_3, ([0, 80, 443] : List Int).getD r_8_6.toNat 0, (decide ((0 : Int) < r_8_10))) : List UInt8 × Int × Bool)] : List (List UInt8 × Int × Bool))).length) c_8_14 27 3 ((zs ++ ([((s_8_3, ([0, 80, 443] : List Int).getD r_8_6.toNat 0, (decide ((0 : Int) < r_8_10))) : List UInt8 × Int × Bool)] : List (List UInt8 × Int × Bool))).flatMap gRule)]) => ?_)
            refine nl (kq ⟨_, hs44, trivial⟩ ?_)
            refine tk (fuel := 0) (is := [15]) (.cons rfl (.nil)) (by kernel_rfl) (by kernel_rfl) ⟨_, hs44, trivial⟩ ?_
            refine .op trivial rfl rfl (fun wq _ => asg (v := .slice A_8_14 ((zs ++ ([((s_8_3, ([0, 80, 443] : List Int).getD r_8_6.toNat 0, (decide ((0 : Int) < r_8_10))) : List UInt8 × Int × Bool)] : List (List UInt8 × Int × Bool))).length) c_8_14) rfl) ?_
            refine .nil ?_
            refine ad (by kernel_rfl) ?_
            exact ⟨b_8_2, s_8_3, q_8_3, b_8_4, r_8_6, q_8_6, r_8_10, q_8_10, b_8_13, A_8_14, c_8_14, ⟨rfl, rfl, rfl, rfl, trivial⟩, p31, p32, p33, p34, p35, p36, (hs44.pick [1, 0, 2, 3, 4] rfl (by decide))⟩
          · refine one_ rfl ?_
            refine cl trivial rfl (pick (rb := rb) (Ab := Ab) (cb := cb) (bs := bs) (p := q_8_6) (n := 3) (w := _) (hr := (blk_heap hs41 3 rfl)) (hb := (hb.up hs41 (fun _ h => h) (fun _ h => .inl h))) (hbn := (by first | assumption | (simp; omega))) (hp := (by omega))) ?_
            rintro _ w44 ⟨r_8_10, q_8_10, rfl, p37, p38, hs45'⟩
            have hs45 : SH w w44 [rb] [.own Ag3 zs.length cg3 27 3 (zs.flatMap gRule), .own (some ⟨b_8_4, 0, none⟩) (([0, 80, 443] : List Int).length) 3 3 1 (([0, 80, 443] : List Int).map I), .own (some ⟨b_8_2, 0, none⟩) (([[], [46, 111, 114, 103], [111, 114, 103], [46, 49], [120, 46, 111, 114, 103], [110, 101, 116]] : List (List UInt8)).length) 6 9 1 (([[], [46, 111, 114, 103], [111, 114, 103], [46, 49], [120, 46, 111, 114, 103], [110, 101, 116]] : List (List UInt8)).map Str), .blk rb 50 [.slice Ab bs.length cb, .int .i64 ((q_8_10 : Nat) : Int)]] := hs41.callM 3 rfl hs45' (by intro k hk; simp at hk; exact hk.symm)
            clear hs45'
            refine nl (kq ⟨_, hs45, trivial⟩ ?_)
            refine tk (fuel := 5) (is := [11]) (.cons rfl (.nil)) (by kernel_rfl) (by kernel_rfl) ⟨_, hs45, trivial⟩ ?_
            refine .op trivial rfl rfl (fun wq _ => gtr (k := .i64) (a := r_8_10) (b := 0) rfl rfl) ?_
            refine .nil ?_
            refine a1 (i := 8) (by kernel_rfl) ?_
            refine one_ rfl ?_
            refine q trivial rfl rfl (ldo1n (g := I) (ys := ([0, 80, 443] : List Int)) (o := r_8_6.toNat) 0 hs45 1 rfl rfl (by first | omega | (simp; omega)) one3) ?_
            refine nl (kq ⟨_, hs45, trivial⟩ ?_)
            refine tk (fuel := 3) (is := [12]) (.cons rfl (.nil)) (by kernel_rfl) (by kernel_rfl) ⟨_, hs45, trivial⟩ ?_
            refine .op trivial rfl rfl (fun wq _ => bdv (v := .agg #[Str s_8_3, .int .i64 (([0, 80, 443] : List Int).getD r_8_6.toNat 0), .bool (decide ((0 : Int) < r_8_10))]) [(0, Str s_8_3), (1, .int .i64 (([0, 80, 443] : List Int).getD r_8_6.toNat 0)), (2, .bool (decide ((0 : Int) < r_8_10)))] rfl (fun _ => by kernel_rfl)) ?_
            refine .nil ?_
            refine a1 (i := 13) (by kernel_rfl) ?_
            refine one_ rfl ?_
            refine Go.PF.bs hs45 sl23 [(0, .agg #[Str s_8_3, .int .i64 (([0, 80, 443] : List Int).getD r_8_6.toNat 0), .bool (decide ((0 : Int) < r_8_10))])] rfl (cs := [Str s_8_3, .int .i64 (([0, 80, 443] : List Int).getD r_8_6.toNat 0), .bool (decide ((0 : Int) < r_8_10))]) (by kernel_rfl) rfl (by decide) (by decide) trivial rfl (fun b_8_13 w45 (hs46 : SH w w45 [rb] [.own Ag3 zs.length cg3 27 3 (zs.flatMap gRule), .own (some ⟨b_8_4, 0, none⟩) (([0, 80, 443] : List Int).length) 3 3 1 (([0, 80, 443] : List Int).map I), .own (some ⟨b_8_2, 0, none⟩) (([[], [46, 111, 114, 103], [111, 114, 103], [46, 49], [120, 46, 111, 114, 103], [110, 101, 116]] : List (List UInt8)).length) 6 9 1 (([[], [46, 111, 114, 103], [111, 114, 103], [46, 49], [120, 46, 111, 114, 103], [110, 101, 116]] : List (List UInt8)).map Str), .blk rb 50 [.slice Ab bs.length cb, .int .i64 ((q_8_10 : Nat) : Int)], .own (some ⟨b_8_13, 0, none⟩) (([((s_8_3, ([0, 80, 443] : List Int).getD r_8_6.toNat 0, (decide ((0 : Int) < r_8_10))) : List UInt8 × Int × Bool)] : List (List UInt8 × Int × Bool)).length) 1 27 3 (([((s_8_3, ([0, 80, 443] : List Int).getD r_8_6.toNat 0, (decide ((0 : Int) < r_8_10))) : List UInt8 × Int × Bool)] : List (List UInt8 × Int × Bool)).flatMap gRule)]) => ?_)
            refine nl (kq ⟨_, hs46, trivial⟩ ?_)
            refine a1 (i := 14) (by kernel_rfl) ?_
            refine one_ rfl ?_
            refine apf (g := gRule) (ys := zs) (zs := ([((s_8_3, ([0, 80, 443] : List Int).getD r_8_6.toNat 0, (decide ((0 : Int) < r_8_10))) : List UInt8 × Int × Bool)] : List (List UInt8 × Int × Bool))) hs46 0 rfl sl23 rfl (by decide) rfl rfl (hs46.sl0 4 rfl) (fun _ => rfl) (by unfold maxLen; first | omega | (simp; omega)) (by first | omega | (simp; omega)) trivial rfl (fun A_8_14 c_8_14 w46 (hs47 : SH w w46 [rb] [.own (some ⟨b_8_4, 0, none⟩) (([0, 80, 443] : List Int).length) 3 3 1 (([0, 80, 443] : List Int).map I), .own (some ⟨b_8_2, 0, none⟩) (([[], [46, 111, 114, 103], [111, 114, 103], [46, 49], [120, 46, 111, 114, 103], [110, 101, 116]] : List (List UInt8)).length) 6 9 1 (([[], [46, 111, 114, 103], [111, 114, 103], [46, 49], [120, 46, 111, 114, 103], [110, 101, 116]] : List (List UInt8)).map Str), .blk rb 50 [.slice Ab bs.length cb, .int .i64 ((q_8_10 : Nat) : Int)], .own (some ⟨b_8_13, 0, none⟩) (([((s_8_3, ([0, 80, 443] : List Int).getD r_8_6.toNat 0, (decide ((0 : Int) < r_8_10))) : List UInt8 × Int × Bool)] : List (List UInt8 × Int × Bool)).length) 1 27 3 (([((s_8_3, ([0, 80, 443] : List Int).getD r_8_6.toNat 0, (decide ((0 : Int) < r_8_10))) : List UInt8 × Int × Bool)] : List (List UInt8 × Int × Bool)).flatMap gRule), .own A_8_14 ((zs ++ ([((s_8_3, ([0, 80, 443] : List Int).getD r_8_6.toNat 0, (decide ((0 : Int) < r_8_10))) : List UInt8 × Int × Bool)] : List (List UInt8 × Int × Bool))).length) c_8_14 27 3 ((zs ++ ([((s_8_3, ([0, 80, 443] : List Int).getD r_8_6.toNat 0, (decide ((0 : Int) < r_8_10))) : List UInt8 × Int × Bool)] : List (List UInt8 × Int × Bool))).flatMap gRule)]) => ?_)
            refine nl (kq ⟨_, hs47, trivial⟩ ?_)
            refine tk (fuel := 0) (is := [15]) (.cons rfl (.nil)) (by kernel_rfl) (by kernel_rfl) ⟨_, hs47, trivial⟩ ?_
            refine .op trivial rfl rfl (fun wq _ => asg (v := .slice A_8_14 ((zs ++ ([((s_8_3, ([0, 80, 443] : List Int).getD r_8_6.toNat 0, (decide ((0 : Int) < r_8_10))) : List UInt8 × Int × Bool)] : List (List UInt8 × Int × Bool))).length) c_8_14) rfl) ?_
            refine .nil ?_
            refine ad (by kernel_rfl) ?_
            exact ⟨b_8_2, s_8_3, q_8_3, b_8_4, r_8_6, q_8_6, r_8_10, q_8_10, b_8_13, A_8_14, c_8_14, ⟨rfl, rfl, rfl, rfl, trivial⟩, p31, p32, p33, p34, p37, p38, (hs47.pick [1, 0, 2, 3, 4] rfl (by decide))⟩
      rintro f w47 ⟨b_8_2, s_8_3, q_8_3, b_8_4, r_8_6, q_8_6, r_8_10, q_8_10, b_8_13, A_8_14, c_8_14, hf, p39, p40, p41, p42, p43, p44, hs48⟩
      obtain ⟨g2, rfl⟩ := has_upd hf
      clear hf
      refine bN ?_
      refine nN ?_
      have hs49 : SH w w47 [rb] [.blk rb 50 [.slice Ab bs.length cb, .int .i64 ((q_8_10 : Nat) : Int)], .own A_8_14 ((zs ++ ([((s_8_3, ([0, 80, 443] : List Int).getD r_8_6.toNat 0, (decide ((0 : Int) < r_8_10))) : List UInt8 × Int × Bool)] : List (List UInt8 × Int × Bool))).length) c_8_14 27 3 ((zs ++ ([((s_8_3, ([0, 80, 443] : List Int).getD r_8_6.toNat 0, (decide ((0 : Int) < r_8_10))) : List UInt8 × Int × Bool)] : List (List UInt8 × Int × Bool))).flatMap gRule)] := hs48.pick [2, 4] rfl (by decide)
      refine rg ?_
      refine q trivial rfl rfl (mv (v := .int .i64 ((k : Nat) : Int)) rfl) ?_
      refine q trivial rfl rfl (add (a := ((k : Nat) : Int)) (b := 1) rfl rfl (by exact ⟨by omega, by omega⟩)) ?_
      refine q trivial rfl rfl (asg (v := .int .i64 (((k : Nat) : Int) + 1)) rfl) ?_
      refine nl ?_
      refine nN ?_
      refine ⟨(A_8_14, c_8_14, q_8_10, k + 1, (zs ++ ([((s_8_3, ([0, 80, 443] : List Int).getD r_8_6.toNat 0, (decide ((0 : Int) < r_8_10))) : List UInt8 × Int × Bool)] : List (List UInt8 × Int × Bool)))), ⟨⟨rfl, rfl, rfl, rfl, trivial⟩, (by omega), (by simp; omega), (rules_app he (words5 (by assumption))), (by omega), (hs49.pick [1, 0] rfl (by decide))⟩, ?_⟩
      show 7 - (k + 1) < 7 - k
      omega
    · refine ex (tE (tE (bE ?_)))
      refine nN ?_
      refine sq ?_
      refine sq ?_
      refine rg ?_
      refine q trivial rfl rfl (mv (v := .int .i64 (6 + r3)) rfl) ?_
      refine q trivial rfl rfl (gtr (k := .i64) (a := 6 + r3) (b := 0) rfl rfl) ?_
      refine q trivial rfl rfl (mv (v := .bool (decide ((0 : Int) < (6 + r3)))) rfl) ?_
      refine spd (p := (0 : Int) < (6 + r3)) 37 rfl (fun h3 => ?_) (fun h3 => ?_)
      · refine q ⟨_, rfl, rfl⟩ rfl rfl (mv (v := .pointer (some ⟨rb, 0, none⟩)) rfl) ?_
        refine cl ⟨_, rfl, rfl⟩ rfl (pick (rb := rb) (Ab := Ab) (cb := cb) (bs := bs) (p := q0) (n := 24) (w := _) (hr := (blk_heap hs5 1 rfl)) (hb := (hb.up hs5 (fun _ h => h) (fun _ h => .inl h))) (hbn := (by first | assumption | (simp; omega))) (hp := (by omega))) ?_
        rintro _ w48 ⟨r4, q4, rfl, p45, p46, hs50'⟩
        have hs50 : SH w w48 [rb] [.own Ag3 zs.length cg3 27 3 (zs.flatMap gRule), .blk rb 50 [.slice Ab bs.length cb, .int .i64 ((q4 : Nat) : Int)]] := hs5.callM 1 rfl hs50' (by intro k hk; simp at hk; exact hk.symm)
        clear hs50'
        refine q ⟨_, rfl, rfl⟩ rfl rfl (eqi (k := .i64) (a := r4) (b := 0) rfl rfl) ?_
        refine q trivial rfl rfl (pt (v := .bool (decide (r4 = 0))) rfl rfl) ?_
        refine nl ?_
        refine nN ?_
        refine cdd (p := r4 = 0) rfl (fun h4 => ?_) (fun h4 => ?_)
        · refine rg ?_
          refine q trivial rfl rfl (mv (v := .slice Ag3 zs.length cg3) rfl) ?_
          refine q trivial rfl rfl (mv (v := .pointer (some ⟨rb, 0, none⟩)) rfl) ?_
          refine Go.PF.bs hs50 sl52 [(0, Str [65]), (1, Str [97, 32, 98])] rfl (cs := [Str [65], Str [97, 32, 98]]) (by kernel_rfl) rfl (by decide) (by decide) trivial rfl (fun b2 w49 (hs51 : SH w w49 [rb] [.own Ag3 zs.length cg3 27 3 (zs.flatMap gRule), .blk rb 50 [.slice Ab bs.length cb, .int .i64 ((q4 : Nat) : Int)], .own (some ⟨b2, 0, none⟩) (([[65], [97, 32, 98]] : List (List UInt8)).length) 2 9 1 (([[65], [97, 32, 98]] : List (List UInt8)).map Str)]) => ?_)
          refine cl trivial rfl (rdOf (rb := rb) (Ab := Ab) (cb := cb) (bs := bs) (p := q4) (Ass := (some ⟨b2, 0, none⟩)) (css := 2) (ss := ([[65], [97, 32, 98]] : List (List UInt8))) (w := _) (hr := (blk_heap hs51 1 rfl)) (hb := (hb.up hs51 (fun _ h => h) (fun _ h => .inl h))) (hbn := (by first | assumption | (simp; omega))) (hp := (by omega)) (hss := (hs51.sl 2 rfl (by intro k hk; simp at hk; subst hk; exact ⟨_, memi 1 rfl, rfl⟩))) (hne := (by first | omega | assumption | (simp; done) | (simp; omega)))) ?_
          rintro _ w50 ⟨s1, q5, rfl, p47, p48, hs52'⟩
          have hs52 : SH w w50 [rb] [.own Ag3 zs.length cg3 27 3 (zs.flatMap gRule), .own (some ⟨b2, 0, none⟩) (([[65], [97, 32, 98]] : List (List UInt8)).length) 2 9 1 (([[65], [97, 32, 98]] : List (List UInt8)).map Str), .blk rb 50 [.slice Ab bs.length cb, .int .i64 ((q5 : Nat) : Int)]] := hs51.callM 1 rfl hs52' (by intro k hk; simp at hk; exact hk.symm)
          clear hs52'
          obtain ⟨b3, rfl⟩ := own_form hs52 0 rfl (by first | omega | (simp; omega))
          refine q trivial rfl rfl (ixo 0 sl23 rfl rfl (by first | omega | (simp; omega))) ?_
          refine q trivial rfl rfl (fa 0 fo27_0 rfl) ?_
          refine stoff (g := gRule) (ys := zs) (o := 0) (off := 0) (u := ((s1, (zs.getD 0 rule0).2.1, ((zs.getD 0 rule0).2.2)) : List UInt8 × Int × Bool)) (v := Str s1) rule0 (fun _ => rfl) hs52 0 rfl rfl rfl (by first | omega | (simp; omega)) (by first | omega | (simp; omega)) rfl rfl rfl one9 trivial (fun w51 (hs53 : SH w w51 [rb] [.own (some ⟨b2, 0, none⟩) (([[65], [97, 32, 98]] : List (List UInt8)).length) 2 9 1 (([[65], [97, 32, 98]] : List (List UInt8)).map Str), .blk rb 50 [.slice Ab bs.length cb, .int .i64 ((q5 : Nat) : Int)], .own (some ⟨b3, 0, none⟩) zs.length cg3 27 3 ((zs.set 0 ((s1, (zs.getD 0 rule0).2.1, ((zs.getD 0 rule0).2.2)) : List UInt8 × Int × Bool)).flatMap gRule)]) => ?_)
          refine nl ?_
          refine nN ?_
          refine sq ?_
          refine rg ?_
          refine q trivial rfl rfl (mv (v := .slice (some ⟨b3, 0, none⟩) zs.length cg3) rfl) ?_
          refine q trivial rfl rfl (asg (v := .slice (some ⟨b3, 0, none⟩) zs.length cg3) rfl) ?_
          refine nl ?_
          refine nN ?_
          refine rt ?_
          refine fret (v := .slice (some ⟨b3, 0, none⟩) zs.length cg3) (.tmp .nil) rfl ?_
          have e1 : zs.length = (zs.set 0 ((s1, (zs.getD 0 rule0).2.1, ((zs.getD 0 rule0).2.2)) : List UInt8 × Int × Bool)).length := by first | rfl | (simp; done) | (simp; omega) | omega
          exact ⟨(some ⟨b3, 0, none⟩), cg3, zs.set 0 ((s1, (zs.getD 0 rule0).2.1, ((zs.getD 0 rule0).2.2)) : List UInt8 × Int × Bool), q5, (slv rfl e1 rfl), (by first | omega | (simp; omega)), (by first | assumption | exact rules_set he (words2 (by assumption))), (by omega), ((hs53.pick [1, 2] rfl (by decide)).cast (lc rfl (lc (own_eqf (g := gRule) rfl e1 rfl rfl) rfl)))⟩
        · refine sk ?_
          refine nN ?_
          refine sq ?_
          refine rg ?_
          refine q trivial rfl rfl (mv (v := .slice Ag3 zs.length cg3) rfl) ?_
          refine q trivial rfl rfl (asg (v := .slice Ag3 zs.length cg3) rfl) ?_
          refine nl ?_
          refine nN ?_
          refine rt ?_
          refine fret (v := .slice Ag3 zs.length cg3) (.tmp .nil) rfl ?_
          exact ⟨Ag3, cg3, zs, q4, rfl, (by first | omega | (simp; omega)), (by first | assumption | exact rules_set he (words2 (by assumption))), (by omega), (hs50.pick [1, 0] rfl (by decide))⟩
      · refine gk false rfl rfl rfl rfl rfl ?_
        refine gk false rfl rfl rfl rfl rfl ?_
        refine gk false rfl rfl rfl rfl rfl ?_
        refine q trivial rfl rfl (pf (v := .bool false) rfl rfl) ?_
        refine nl ?_
        refine nN ?_
        refine cdf rfl ?_
        refine sk ?_
        refine nN ?_
        refine sq ?_
        refine rg ?_
        refine q trivial rfl rfl (mv (v := .slice Ag3 zs.length cg3) rfl) ?_
        refine q trivial rfl rfl (asg (v := .slice Ag3 zs.length cg3) rfl) ?_
        refine nl ?_
        refine nN ?_
        refine rt ?_
        refine fret (v := .slice Ag3 zs.length cg3) (.tmp .nil) rfl ?_
        exact ⟨Ag3, cg3, zs, q0, rfl, (by first | omega | (simp; omega)), (by first | assumption | exact rules_set he (words2 (by assumption))), (by omega), (hs5.pick [1, 0] rfl (by decide))⟩
  · refine sk ?_
    refine nN ?_
    refine sq ?_
    refine sq ?_
    refine rg ?_
    refine q trivial rfl rfl (asg (v := .int .i64 0) rfl) ?_
    refine nl ?_
    refine nN ?_
    refine bl ?_
    refine lp (σ := (Option Addr) × Nat × Nat × Nat × (List (List UInt8 × Int × Bool))) (fun ⟨Ag3, cg3, q0, k, zs⟩ f w' => Has f [(0, .pointer (some ⟨rb, 0, none⟩)), (3, .slice Ag3 zs.length cg3), (4, .int .i64 r1), (5, .int .i64 ((k : Nat) : Int))] ∧ (k ≤ 7) ∧ (zs.length = k) ∧ (∀ u ∈ zs, u.1.length ≤ 5) ∧ (q0 ≤ p + 3 + 4 * k) ∧ SH w w' [rb] [.own Ag3 zs.length cg3 27 3 (zs.flatMap gRule), .blk rb 50 [.slice Ab bs.length cb, .int .i64 ((q0 : Nat) : Int)]]) (fun ⟨Ag3, cg3, q0, k, zs⟩ => 7 - k) ((some ⟨b1, 0, none⟩), 0, q2, 0, ([] : List (List UInt8 × Int × Bool))) ⟨⟨rfl, rfl, rfl, rfl, trivial⟩, (by omega), (rfl), (by simp), (by omega), hs3⟩ ?_
    rintro ⟨Ag3, cg3, q0, k, zs⟩ f w52 ⟨hf, hk, hz, he, hq, hs54⟩
    obtain ⟨g3, rfl⟩ := has_upd hf
    clear hf
    refine sq ?_
    refine sq ?_
    refine rg ?_
    refine q trivial rfl rfl (mv (v := .int .i64 ((k : Nat) : Int)) rfl) ?_
    refine q trivial rfl rfl (mv (v := .int .i64 r1) rfl) ?_
    refine q trivial rfl rfl (lss (k := .i64) (a := ((k : Nat) : Int)) (b := r1) rfl rfl) ?_
    refine nl ?_
    refine nN ?_
    refine cdd (p := ((k : Nat) : Int) < r1) rfl (fun h5 => ?_) (fun h5 => ?_)
    · refine sk ?_
      refine nN ?_
      refine sq ?_
      refine bl ?_
      refine raJ (fun w' => ∃ L, SH w w' [rb] L ∧ True) (fun f w' => ∃ b_8_2 : Nat, ∃ s_8_3 : List UInt8, ∃ q_8_3 : Nat, ∃ b_8_4 : Nat, ∃ r_8_6 : Int, ∃ q_8_6 : Nat, ∃ r_8_10 : Int, ∃ q_8_10 : Nat, ∃ b_8_13 : Nat, ∃ A_8_14 : Option Addr, ∃ c_8_14 : Nat, Has f [(0, .pointer (some ⟨rb, 0, none⟩)), (3, .slice A_8_14 ((zs ++ ([((s_8_3, ([0, 80, 443] : List Int).getD r_8_6.toNat 0, (decide ((0 : Int) < r_8_10))) : List UInt8 × Int × Bool)] : List (List UInt8 × Int × Bool))).length) c_8_14), (4, .int .i64 r1), (5, .int .i64 ((k : Nat) : Int))] ∧ (s_8_3 ∈ ([[], [46, 111, 114, 103], [111, 114, 103], [46, 49], [120, 46, 111, 114, 103], [110, 101, 116]] : List (List UInt8))) ∧ (q_8_3 ≤ q0 + 1) ∧ (0 ≤ r_8_6 ∧ (r_8_6 < 3 ∨ r_8_6 = 0)) ∧ (q_8_6 ≤ q_8_3 + 1) ∧ (0 ≤ r_8_10 ∧ (r_8_10 < 3 ∨ r_8_10 = 0)) ∧ (q_8_10 ≤ q_8_6 + 1) ∧ SH w w' [rb] [.own (some ⟨b_8_2, 0, none⟩) (([[], [46, 111, 114, 103], [111, 114, 103], [46, 49], [120, 46, 111, 114, 103], [110, 101, 116]] : List (List UInt8)).length) 6 9 1 (([[], [46, 111, 114, 103], [111, 114, 103], [46, 49], [120, 46, 111, 114, 103], [110, 101, 116]] : List (List UInt8)).map Str), .own (some ⟨b_8_4, 0, none⟩) (([0, 80, 443] : List Int).length) 3 3 1 (([0, 80, 443] : List Int).map I), .blk rb 50 [.slice Ab bs.length cb, .int .i64 ((q_8_10 : Nat) : Int)], .own (some ⟨b_8_13, 0, none⟩) (([((s_8_3, ([0, 80, 443] : List Int).getD r_8_6.toNat 0, (decide ((0 : Int) < r_8_10))) : List UInt8 × Int × Bool)] : List (List UInt8 × Int × Bool)).length) 1 27 3 (([((s_8_3, ([0, 80, 443] : List Int).getD r_8_6.toNat 0, (decide ((0 : Int) < r_8_10))) : List UInt8 × Int × Bool)] : List (List UInt8 × Int × Bool)).flatMap gRule), .own A_8_14 ((zs ++ ([((s_8_3, ([0, 80, 443] : List Int).getD r_8_6.toNat 0, (decide ((0 : Int) < r_8_10))) : List UInt8 × Int × Bool)] : List (List UInt8 × Int × Bool))).length) c_8_14 27 3 ((zs ++ ([((s_8_3, ([0, 80, 443] : List Int).getD r_8_6.toNat 0, (decide ((0 : Int) < r_8_10))) : List UInt8 × Int × Bool)] : List (List UInt8 × Int × Bool))).flatMap gRule)]) mixed ?_ ?_
      · have hs55 := hs54.drew
        refine tk (fuel := 12) (is := [0, 1, 5, 9]) (.cons rfl (.cons rfl (.cons rfl (.cons rfl (.nil))))) (by kernel_rfl) (by kernel_rfl) ⟨_, hs55, trivial⟩ ?_
        refine .op trivial rfl rfl (fun wq _ => mv (v := .slice Ag3 zs.length cg3) rfl) ?_
        refine .op trivial rfl rfl (fun wq _ => mv (v := .pointer (some ⟨rb, 0, none⟩)) rfl) ?_
        refine .op trivial rfl rfl (fun wq _ => mv (v := .pointer (some ⟨rb, 0, none⟩)) rfl) ?_
        refine .op trivial rfl rfl (fun wq _ => mv (v := .pointer (some ⟨rb, 0, none⟩)) rfl) ?_
        refine .nil ?_
        refine a2 (i := 2) (j := 4) (by kernel_rfl) ?_ ?_
        · refine one_ rfl ?_
          refine Go.PF.bs hs55 sl52 [(0, Str []), (1, Str [46, 111, 114, 103]), (2, Str [111, 114, 103]), (3, Str [46, 49]), (4, Str [120, 46, 111, 114, 103]), (5, Str [110, 101, 116])] rfl (cs := [Str [], Str [46, 111, 114, 103], Str [111, 114, 103], Str [46, 49], Str [120, 46, 111, 114, 103], Str [110, 101, 116]]) (by kernel_rfl) rfl (by decide) (by decide) trivial rfl (fun b_8_2 w53 (hs56 : SH w w53 [rb] [.own Ag3 zs.length cg3 27 3 (zs.flatMap gRule), .blk rb 50 [.slice Ab bs.length cb, .int .i64 ((q0 : Nat) : Int)], .own (some ⟨b_8_2, 0, none⟩) (([[], [46, 111, 114, 103], [111, 114, 103], [46, 49], [120, 46, 111, 114, 103], [110, 101, 116]] : List (List UInt8)).length) 6 9 1 (([[], [46, 111, 114, 103], [111, 114, 103], [46, 49], [120, 46, 111, 114, 103], [110, 101, 116]] : List (List UInt8)).map Str)]) => ?_)
          refine nl (kq ⟨_, hs56, trivial⟩ ?_)
          refine a2 (i := 3) (j := 4) (by kernel_rfl) ?_ ?_
          · refine one_ rfl ?_
            refine cl trivial rfl (rdOf (rb := rb) (Ab := Ab) (cb := cb) (bs := bs) (p := q0) (Ass := (some ⟨b_8_2, 0, none⟩)) (css := 6) (ss := ([[], [46, 111, 114, 103], [111, 114, 103], [46, 49], [120, 46, 111, 114, 103], [110, 101, 116]] : List (List UInt8))) (w := _) (hr := (blk_heap hs56 1 rfl)) (hb := (hb.up hs56 (fun _ h => h) (fun _ h => .inl h))) (hbn := (by first | assumption | (simp; omega))) (hp := (by omega)) (hss := (hs56.sl 2 rfl (by intro k hk; simp at hk; subst hk; exact ⟨_, memi 1 rfl, rfl⟩))) (hne := (by first | omega | assumption | (simp; done) | (simp; omega)))) ?_
            rintro _ w54 ⟨s_8_3, q_8_3, rfl, p49, p50, hs57'⟩
            have hs57 : SH w w54 [rb] [.own Ag3 zs.length cg3 27 3 (zs.flatMap gRule), .own (some ⟨b_8_2, 0, none⟩) (([[], [46, 111, 114, 103], [111, 114, 103], [46, 49], [120, 46, 111, 114, 103], [110, 101, 116]] : List (List UInt8)).length) 6 9 1 (([[], [46, 111, 114, 103], [111, 114, 103], [46, 49], [120, 46, 111, 114, 103], [110, 101, 116]] : List (List UInt8)).map Str), .blk rb 50 [.slice Ab bs.length cb, .int .i64 ((q_8_3 : Nat) : Int)]] := hs56.callM 1 rfl hs57' (by intro k hk; simp at hk; exact hk.symm)
            clear hs57'
            refine nl (kq ⟨_, hs57, trivial⟩ ?_)
            refine a2 (i := 4) (j := 6) (by kernel_rfl) ?_ ?_
            · refine one_ rfl ?_
              refine Go.PF.bs hs57 sl38 [(0, .int .i64 0), (1, .int .i64 80), (2, .int .i64 443)] rfl (cs := [.int .i64 0, .int .i64 80, .int .i64 443]) (by kernel_rfl) rfl (by decide) (by decide) trivial rfl (fun b_8_4 w55 (hs58 : SH w w55 [rb] [.own Ag3 zs.length cg3 27 3 (zs.flatMap gRule), .own (some ⟨b_8_2, 0, none⟩) (([[], [46, 111, 114, 103], [111, 114, 103], [46, 49], [120, 46, 111, 114, 103], [110, 101, 116]] : List (List UInt8)).length) 6 9 1 (([[], [46, 111, 114, 103], [111, 114, 103], [46, 49], [120, 46, 111, 114, 103], [110, 101, 116]] : List (List UInt8)).map Str), .blk rb 50 [.slice Ab bs.length cb, .int .i64 ((q_8_3 : Nat) : Int)], .own (some ⟨b_8_4, 0, none⟩) (([0, 80, 443] : List Int).length) 3 3 1 (([0, 80, 443] : List Int).map I)]) => ?_)
              refine nl (kq ⟨_, hs58, trivial⟩ ?_)
              refine a1 (i := 6) (by kernel_rfl) ?_
              refine one_ rfl ?_
              refine cl trivial rfl (pick (rb := rb) (Ab := Ab) (cb := cb) (bs := bs) (p := q_8_3) (n := 3) (w := _) (hr := (blk_heap hs58 2 rfl)) (hb := (hb.up hs58 (fun _ h => h) (fun _ h => .inl h))) (hbn := (by first | assumption | (simp; omega))) (hp := (by omega))) ?_
              rintro _ w56 ⟨r_8_6, q_8_6, rfl, p51, p52, hs59'⟩
              have hs59 : SH w w56 [rb] [.own Ag3 zs.length cg3 27 3 (zs.flatMap gRule), .own (some ⟨b_8_2, 0, none⟩) (([[], [46, 111, 114, 103], [111, 114, 103], [46, 49], [120, 46, 111, 114, 103], [110, 101, 116]] : List (List UInt8)).length) 6 9 1 (([[], [46, 111, 114, 103], [111, 114, 103], [46, 49], [120, 46, 111, 114, 103], [110, 101, 116]] : List (List UInt8)).map Str), .own (some ⟨b_8_4, 0, none⟩) (([0, 80, 443] : List Int).length) 3 3 1 (([0, 80, 443] : List Int).map I), .blk rb 50 [.slice Ab bs.length cb, .int .i64 ((q_8_6 : Nat) : Int)]] := hs58.callM 2 rfl hs59' (by intro k hk; simp at hk; exact hk.symm)
              clear hs59'
              refine nl (kq ⟨_, hs59, trivial⟩ ?_)
              refine tk (fuel := 7) (is := [7]) (.cons rfl (.nil)) (by kernel_rfl) (by kernel_rfl) ⟨_, hs59, trivial⟩ ?_
              refine .op trivial rfl rfl (fun wq _ => ixo r_8_6.toNat sl38 rfl (ieq (x := r_8_6) (by omega)) (by first | omega | (simp; omega))) ?_
              refine .nil ?_
              refine a2 (i := 8) (j := 10) (by kernel_rfl) ?_ ?_
              · refine one_ rfl ?_
                refine q trivial rfl rfl (ldo1n (g := I) (ys := ([0, 80, 443] : List Int)) (o := r_8_6.toNat) 0 hs59 2 rfl rfl (by first | omega | (simp; omega)) one3) ?_
                refine nl (kq ⟨_, hs59, trivial⟩ ?_)
                refine a1 (i := 10) (by kernel_rfl) ?_
                refine one_ rfl ?_
                refine cl trivial rfl (pick (rb := rb) (Ab := Ab) (cb := cb) (bs := bs) (p := q_8_6) (n := 3) (w := _) (hr := (blk_heap hs59 3 rfl)) (hb := (hb.up hs59 (fun _ h => h) (fun _ h => .inl h))) (hbn := (by first | assumption | (simp; omega))) (hp := (by omega))) ?_
                rintro _ w57 ⟨r_8_10, q_8_10, rfl, p53, p54, hs60'⟩
                have hs60 : SH w w57 [rb] [.own Ag3 zs.length cg3 27 3 (zs.flatMap gRule), .own (some ⟨b_8_2, 0, none⟩) (([[], [46, 111, 114, 103], [111, 114, 103], [46, 49], [120, 46, 111, 114, 103], [110, 101, 116]] : List (List UInt8)).length) 6 9 1 (([[], [46, 111, 114, 103], [111, 114, 103], [46, 49], [120, 46, 111, 114, 103], [110, 101, 116]] : List (List UInt8)).map Str), .own (some ⟨b_8_4, 0, none⟩) (([0, 80, 443] : List Int).length) 3 3 1 (([0, 80, 443] : List Int).map I), .blk rb 50 [.slice Ab bs.length cb, .int .i64 ((q_8_10 : Nat) : Int)]] := hs59.callM 3 rfl hs60' (by intro k hk; simp at hk; exact hk.symm)
                clear hs60'
                refine nl (kq ⟨_, hs60, trivial⟩ ?_)
                refine tk (fuel := 3) (is := [11, 12]) (.cons rfl (.cons rfl (.nil))) (by kernel_rfl) (by kernel_rfl) ⟨_, hs60, trivial⟩ ?_
                refine .op trivial rfl rfl (fun wq _ => gtr (k := .i64) (a := r_8_10) (b := 0) rfl rfl) ?_
                refine .op trivial rfl rfl (fun wq _ => bdv (v := .agg #[Str s_8_3, .int .i64 (([0, 80, 443] : List Int).getD r_8_6.toNat 0), .bool (decide ((0 : Int) < r_8_10))]) [(0, Str s_8_3), (1, .int .i64 (([0, 80, 443] : List Int).getD r_8_6.toNat 0)), (2, .bool (decide ((0 : Int) < r_8_10)))] rfl (fun _ => by kernel_rfl)) ?_
                refine .nil ?_
                refine a1 (i := 13) (by kernel_rfl) ?_
                refine one_ rfl ?_
                refine Go.PF.bs hs60 sl23 [(0, .agg #[Str s_8_3, .int .i64 (([0, 80, 443] : List Int).getD r_8_6.toNat 0), .bool (decide ((0 : Int) < r_8_10))])] rfl (cs := [Str s_8_3, .int .i64 (([0, 80, 443] : List Int).getD r_8_6.toNat 0), .bool (decide ((0 : Int) < r_8_10))]) (by kernel_rfl) rfl (by decide) (by decide) trivial rfl (fun b_8_13 w58 (hs61 : SH w w58 [rb] [.own Ag3 zs.length cg3 27 3 (zs.flatMap gRule), .own (some ⟨b_8_2, 0, none⟩) (([[], [46, 111, 114, 103], [111, 114, 103], [46, 49], [120, 46, 111, 114, 103], [110, 101, 116]] : List (List UInt8)).length) 6 9 1 (([[], [46, 111, 114, 103], [111, 114, 103], [46, 49], [120, 46, 111, 114, 103], [110, 101, 116]] : List (List UInt8)).map Str), .own (some ⟨b_8_4, 0, none⟩) (([0, 80, 443] : List Int).length) 3 3 1 (([0, 80, 443] : List Int).map I), .blk rb 50 [.slice Ab bs.length cb, .int .i64 ((q_8_10 : Nat) : Int)], .own (some ⟨b_8_13, 0, none⟩) (([((s_8_3, ([0, 80, 443] : List Int).getD r_8_6.toNat 0, (decide ((0 : Int) < r_8_10))) : List UInt8 × Int × Bool)] : List (List UInt8 × Int × Bool)).length) 1 27 3 (([((s_8_3, ([0, 80, 443] : List Int).getD r_8_6.toNat 0, (decide ((0 : Int) < r_8_10))) : List UInt8 × Int × Bool)] : List (List UInt8 × Int × Bool)).flatMap gRule)]) => ?_)
                refine nl (kq ⟨_, hs61, trivial⟩ ?_)
                refine a1 (i := 14) (by kernel_rfl) ?_
                refine one_ rfl ?_
                refine apf (g := gRule) (ys := zs) (zs := ([((s_8_3, ([0, 80, 443] : List Int).getD r_8_6.toNat 0, (decide ((0 : Int) < r_8_10))) : List UInt8 × Int × Bool)] : List (List UInt8 × Int × Bool))) hs61 0 rfl sl23 rfl (by decide) rfl rfl (hs61.sl0 4 rfl) (fun _ => rfl) (by unfold maxLen; first | omega | (simp; omega)) (by first | omega | (simp; omega)) trivial rfl (fun A_8_14 c_8_14 w59 (hs62 : SH w w59 [rb] [.own (some ⟨b_8_2, 0, none⟩) (([[], [46, 111, 114, 103], [111, 114, 103], [46, 49], [120, 46, 111, 114, 103], [110, 101, 116]] : List (List UInt8)).length) 6 9 1 (([[], [46, 111, 114, 103], [111, 114, 103], [46, 49], [120, 46, 111, 114, 103], [110, 101, 116]] : List (List UInt8)).map Str), .own (some ⟨b_8_4, 0, none⟩) (([0, 80, 443] : List Int).length) 3 3 1 (([0, 80, 443] : List Int).map I), .blk rb 50 [.slice Ab bs.length cb, .int .i64 ((q_8_10 : Nat) : Int)], .own (some ⟨b_8_13, 0, none⟩) (([((s_8_3, ([0, 80, 443] : List Int).getD r_8_6.toNat 0, (decide ((0 : Int) < r_8_10))) : List UInt8 × Int × Bool)] : List (List UInt8 × Int × Bool)).length) 1 27 3 (([((s_8_3, ([0, 80, 443] : List Int).getD r_8_6.toNat 0, (decide ((0 : Int) < r_8_10))) : List UInt8 × Int × Bool)] : List (List UInt8 × Int × Bool)).flatMap gRule), .own A_8_14 ((zs ++ ([((s_8_3, ([0, 80, 443] : List Int).getD r_8_6.toNat 0, (decide ((0 : Int) < r_8_10))) : List UInt8 × Int × Bool)] : List (List UInt8 × Int × Bool))).length) c_8_14 27 3 ((zs ++ ([((s_8_3, ([0, 80, 443] : List Int).getD r_8_6.toNat 0, (decide ((0 : Int) < r_8_10))) : List UInt8 × Int × Bool)] : List (List UInt8 × Int × Bool))).flatMap gRule)]) => ?_)
                refine nl (kq ⟨_, hs62, trivial⟩ ?_)
                refine tk (fuel := 0) (is := [15]) (.cons rfl (.nil)) (by kernel_rfl) (by kernel_rfl) ⟨_, hs62, trivial⟩ ?_
                refine .op trivial rfl rfl (fun wq _ => asg (v := .slice A_8_14 ((zs ++ ([((s_8_3, ([0, 80, 443] : List Int).getD r_8_6.toNat 0, (decide ((0 : Int) < r_8_10))) : List UInt8 × Int × Bool)] : List (List UInt8 × Int × Bool))).length) c_8_14) rfl) ?_
                refine .nil ?_
                refine ad (by kernel_rfl) ?_
                exact ⟨b_8_2, s_8_3, q_8_3, b_8_4, r_8_6, q_8_6, r_8_10, q_8_10, b_8_13, A_8_14, c_8_14, ⟨rfl, rfl, rfl, rfl, trivial⟩, p49, p50, p51, p52, p53, p54, hs62⟩
              · refine one_ rfl ?_
                refine cl trivial rfl (pick (rb := rb) (Ab := Ab) (cb := cb) (bs := bs) (p := q_8_6) (n := 3) (w := _) (hr := (blk_heap hs59 3 rfl)) (hb := (hb.up hs59 (fun _ h => h) (fun _ h => .inl h))) (hbn := (by first | assumption | (simp; omega))) (hp := (by omega))) ?_
                rintro _ w60 ⟨r_8_10, q_8_10, rfl, p55, p56, hs63'⟩
                have hs63 : SH w w60 [rb] [.own Ag3 zs.length cg3 27 3 (zs.flatMap gRule), .own (some ⟨b_8_2, 0, none⟩) (([[], [46, 111, 114, 103], [111, 114, 103], [46, 49], [120, 46, 111, 114, 103], [110, 101, 116]] : List (List UInt8)).length) 6 9 1 (([[], [46, 111, 114, 103], [111, 114, 103], [46, 49], [120, 46, 111, 114, 103], [110, 101, 116]] : List (List UInt8)).map Str), .own (some ⟨b_8_4, 0, none⟩) (([0, 80, 443] : List Int).length) 3 3 1 (([0, 80, 443] : List Int).map I), .blk rb 50 [.slice Ab bs.length cb, .int .i64 ((q_8_10 : Nat) : Int)]] := hs59.callM 3 rfl hs63' (by intro k hk; simp at hk; exact hk.symm)
                clear hs63'
                refine nl (kq ⟨_, hs63, trivial⟩ ?_)
                refine tk (fuel := 5) (is := [11]) (.cons rfl (.nil)) (by kernel_rfl) (by kernel_rfl) ⟨_, hs63, trivial⟩ ?_
                refine .op trivial rfl rfl (fun wq _ => gtr (k := .i64) (a := r_8_10) (b := 0) rfl rfl) ?_
                refine .nil ?_
                refine a1 (i := 8) (by kernel_rfl) ?_
                refine one_ rfl ?_
                refine q trivial rfl rfl (ldo1n (g := I) (ys := ([0, 80, 443] : List Int)) (o := r_8_6.toNat) 0 hs63 2 rfl rfl (by first | omega | (simp; omega)) one3) ?_
                refine nl (kq ⟨_, hs63, trivial⟩ ?_)
                refine tk (fuel := 3) (is := [12]) (.cons rfl (.nil)) (by kernel_rfl) (by kernel_rfl) ⟨_, hs63, trivial⟩ ?_
                refine .op trivial rfl rfl (fun wq _ => bdv (v := .agg #[Str s_8_3, .int .i64 (([0, 80, 443] : List Int).getD r_8_6.toNat 0), .bool (decide ((0 : Int) < r_8_10))]) [(0, Str s_8_3), (1, .int .i64 (([0, 80, 443] : List Int).getD r_8_6.toNat 0)), (2, .bool (decide ((0 : Int) < r_8_10)))] rfl (fun _ => by kernel_rfl)) ?_
                refine .nil ?_
                refine a1 (i := 13) (by kernel_rfl) ?_
                refine one_ rfl ?_
                refine Go.PF.bs hs63 sl23 [(0, .agg #[Str s_8_3, .int .i64 (([0, 80, 443] : List Int).getD r_8_6.toNat 0), .bool (decide ((0 : Int) < r_8_10))])] rfl (cs := [Str s_8_3, .int .i64 (([0, 80, 443] : List Int).getD r_8_6.toNat 0), .bool (decide ((0 : Int) < r_8_10))]) (by kernel_rfl) rfl (by decide) (by decide) trivial rfl (fun b_8_13 w61 (hs64 : SH w w61 [rb] [.own Ag3 zs.length cg3 27 3 (zs.flatMap gRule), .own (some ⟨b_8_2, 0, none⟩) (([[], [46, 111, 114, 103], [111, 114, 103], [46, 49], [120, 46, 111, 114, 103], [110, 101, 116]] : List (List UInt8)).length) 6 9 1 (([[], [46, 111, 114, 103], [111, 114, 103], [46, 49], [120, 46, 111, 114, 103], [110, 101, 116]] : List (List UInt8)).map Str), .own (some ⟨b_8_4, 0, none⟩) (([0, 80, 443] : List Int).length) 3 3 1 (([0, 80, 443] : List Int).map I), .blk rb 50 [.slice Ab bs.length cb, .int .i64 ((q_8_10 : Nat) : Int)], .own (some ⟨b_8_13, 0, none⟩) (([((s_8_3, ([0, 80, 443] : List Int).getD r_8_6.toNat 0, (decide ((0 : Int) < r_8_10))) : List UInt8 × Int × Bool)] : List (List UInt8 × Int × Bool)).length) 1 27 3 (([((s_8_3, ([0, 80, 443] : List Int).getD r_8_6.toNat 0, (decide ((0 : Int) < r_8_10))) : List UInt8 × Int × Bool)] : List (List UInt8 × Int × Bool)).flatMap gRule)]) => ?_)
                refine nl (kq ⟨_, hs64, trivial⟩ ?_)
                refine a1 (i := 14) (by kernel_rfl) ?_
                refine one_ rfl ?_
                refine apf (g := gRule) (ys := zs) (zs := ([((s_8_3, ([0, 80, 443] : List Int).getD r_8_6.toNat 0, (decide ((0 : Int) < r_8_10))) : List UInt8 × Int × Bool)] : List (List UInt8 × Int × Bool))) hs64 0 rfl sl23 rfl (by decide) rfl rfl (hs64.sl0 4 rfl) (fun _ => rfl) (by unfold maxLen; first | omega | (simp; omega)) (by first | omega | (simp; omega)) trivial rfl (fun A_8_14 c_8_14 w62 (hs65 : SH w w62 [rb] [.own (some ⟨b_8_2, 0, none⟩) (([[], [46, 111, 114, 103], [111, 114, 103], [46, 49], [120, 46, 111, 114, 103], [110, 101, 116]] : List (List UInt8)).length) 6 9 1 (([[], [46, 111, 114, 103], [111, 114, 103], [46, 49], [120, 46, 111, 114, 103], [110, 101, 116]] : List (List UInt8)).map Str), .own (some ⟨b_8_4, 0, none⟩) (([0, 80, 443] : List Int).length) 3 3 1 (([0, 80, 443] : List Int).map I), .blk rb 50 [.slice Ab bs.length cb, .int .i64 ((q_8_10 : Nat) : Int)], .own (some ⟨b_8_13, 0, none⟩) (([((s_8_3, ([0, 80, 443] : List Int).getD r_8_6.toNat 0, (decide ((0 : Int) < r_8_10))) : List UInt8 × Int × Bool)] : List (List UInt8 × Int × Bool)).length) 1 27 3 (([((s_8_3, ([0, 80, 443] : List Int).getD r_8_6.toNat 0, (decide ((0 : Int) < r_8_10))) : List UInt8 × Int × Bool)] : List (List UInt8 × Int × Bool)).flatMap gRule), .own A_8_14 ((zs ++ ([((s_8_3, ([0, 80, 443] : List Int).getD r_8_6.toNat 0, (decide ((0 : Int) < r_8_10))) : List UInt8 × Int × Bool)] : List (List UInt8 × Int × Bool))).length) c_8_14 27 3 ((zs ++ ([((s_8_3, ([0, 80, 443] : List Int).getD r_8_6.toNat 0, (decide ((0 : Int) < r_8_10))) : List UInt8 × Int × Bool)] : List (List UInt8 × Int × Bool))).flatMap gRule)]) => ?_)
                refine nl (kq ⟨_, hs65, trivial⟩ ?_)
                refine tk (fuel := 0) (is := [15]) (.cons rfl (.nil)) (by kernel_rfl) (by kernel_rfl) ⟨_, hs65, trivial⟩ ?_
                refine .op trivial rfl rfl (fun wq _ => asg (v := .slice A_8_14 ((zs ++ ([((s_8_3, ([0, 80, 443] : List Int).getD r_8_6.toNat 0, (decide ((0 : Int) < r_8_10))) : List UInt8 × Int × Bool)] : List (List UInt8 × Int × Bool))).length) c_8_14) rfl) ?_
                refine .nil ?_
                refine ad (by kernel_rfl) ?_
                exact ⟨b_8_2, s_8_3, q_8_3, b_8_4, r_8_6, q_8_6, r_8_10, q_8_10, b_8_13, A_8_14, c_8_14, ⟨rfl, rfl, rfl, rfl, trivial⟩, p49, p50, p51, p52, p55, p56, hs65⟩
            · refine one_ rfl ?_
              refine cl trivial rfl (pick (rb := rb) (Ab := Ab) (cb := cb) (bs := bs) (p := q_8_3) (n := 3) (w := _) (hr := (blk_heap hs57 2 rfl)) (hb := (hb.up hs57 (fun _ h => h) (fun _ h => .inl h))) (hbn := (by first | assumption | (simp; omega))) (hp := (by omega))) ?_
              rintro _ w63 ⟨r_8_6, q_8_6, rfl, p57, p58, hs66'⟩
              have hs66 : SH w w63 [rb] [.own Ag3 zs.length cg3 27 3 (zs.flatMap gRule), .own (some ⟨b_8_2, 0, none⟩) (([[], [46, 111, 114, 103], [111, 114, 103], [46, 49], [120, 46, 111, 114, 103], [110, 101, 116]] : List (List UInt8)).length) 6 9 1 (([[], [46, 111, 114, 103], [111, 114, 103], [46, 49], [120, 46, 111, 114, 103], [110, 101, 116]] : List (List UInt8)).map Str), .blk rb 50 [.slice Ab bs.length cb, .int .i64 ((q_8_6 : Nat) : Int)]] := hs57.callM 2 rfl hs66' (by intro k hk; simp at hk; exact hk.symm)
              clear hs66'
              refine nl (kq ⟨_, hs66, trivial⟩ ?_)
              refine a2 (i := 4) (j := 10) (by kernel_rfl) ?_ ?_
              · refine one_ rfl ?_
                refine Go.PF.bs hs66 sl38 [(0, .int .i64 0), (1, .int .i64 80), (2, .int .i64 443)] rfl (cs := [.int .i64 0, .int .i64 80, .int .i64 443]) (by kernel_rfl) rfl (by decide) (by decide) trivial rfl (fun b_8_4 w64 (hs67 : SH w w64 [rb] [.own Ag3 zs.length cg3 27 3 (zs.flatMap gRule), .own (some ⟨b_8_2, 0, none⟩) (([[], [46, 111, 114, 103], [111, 114, 103], [46, 49], [120, 46, 111, 114, 103], [110, 101, 116]] : List (List UInt8)).length) 6 9 1 (([[], [46, 111, 114, 103], [111, 114, 103], [46, 49], [120, 46, 111, 114, 103], [110, 101, 116]] : List (List UInt8)).map Str), .blk rb 50 [.slice Ab bs.length cb, .int .i64 ((q_8_6 : Nat) : Int)], .own (some ⟨b_8_4, 0, none⟩) (([0, 80, 443] : List Int).length) 3 3 1 (([0, 80, 443] : List Int).map I)]) => ?_)
                refine nl (kq ⟨_, hs67, trivial⟩ ?_)
                refine tk (fuel := 7) (is := [7]) (.cons rfl (.nil)) (by kernel_rfl) (by kernel_rfl) ⟨_, hs67, trivial⟩ ?_
                refine .op trivial rfl rfl (fun wq _ => ixo r_8_6.toNat sl38 rfl (ieq (x := r_8_6) (by omega)) (by first | omega | (simp; omega))) ?_
                refine .nil ?_
                refine a2 (i := 8) (j := 10) (by kernel_rfl) ?_ ?_
                · refine one_ rfl ?_
                  refine q trivial rfl rfl (ldo1n (g := I) (ys := ([0, 80, 443] : List Int)) (o := r_8_6.toNat) 0 hs67 3 rfl rfl (by first | omega | (simp; omega)) one3) ?_
                  refine nl (kq ⟨_, hs67, trivial⟩ ?_)
                  refine a1 (i := 10) (by kernel_rfl) ?_
                  refine one_ rfl ?_
                  refine cl trivial rfl (pick (rb := rb) (Ab := Ab) (cb := cb) (bs := bs) (p := q_8_6) (n := 3) (w := _) (hr := (blk_heap hs67 2 rfl)) (hb := (hb.up hs67 (fun _ h => h) (fun _ h => .inl h))) (hbn := (by first | assumption | (simp; omega))) (hp := (by omega))) ?_
                  rintro _ w65 ⟨r_8_10, q_8_10, rfl, p59, p60, hs68'⟩
                  have hs68 : SH w w65 [rb] [.own Ag3 zs.length cg3 27 3 (zs.flatMap gRule), .own (some ⟨b_8_2, 0, none⟩) (([[], [46, 111, 114, 103], [111, 114, 103], [46, 49], [120, 46, 111, 114, 103], [110, 101, 116]] : List (List UInt8)).length) 6 9 1 (([[], [46, 111, 114, 103], [111, 114, 103], [46, 49], [120, 46, 111, 114, 103], [110, 101, 116]] : List (List UInt8)).map Str), .own (some ⟨b_8_4, 0, none⟩) (([0, 80, 443] : List Int).length) 3 3 1 (([0, 80, 443] : List Int).map I), .blk rb 50 [.slice Ab bs.length cb, .int .i64 ((q_8_10 : Nat) : Int)]] := hs67.callM 2 rfl hs68' (by intro k hk; simp at hk; exact hk.symm)
                  clear hs68'
                  refine nl (kq ⟨_, hs68, trivial⟩ ?_)
                  refine tk (fuel := 3) (is := [11, 12]) (.cons rfl (.cons rfl (.nil))) (by kernel_rfl) (by kernel_rfl) ⟨_, hs68, trivial⟩ ?_
                  refine .op trivial rfl rfl (fun wq _ => gtr (k := .i64) (a := r_8_10) (b := 0) rfl rfl) ?_
                  refine .op trivial rfl rfl (fun wq _ => bdv (v := .agg #[Str s_8_3, .int .i64 (([0, 80, 443] : List Int).getD r_8_6.toNat 0), .bool (decide ((0 : Int) < r_8_10))]) [(0, Str s_8_3), (1, .int .i64 (([0, 80, 443] : List Int).getD r_8_6.toNat 0)), (2, .bool (decide ((0 : Int) < r_8_10)))] rfl (fun _ => by kernel_rfl)) ?_
                  refine .nil ?_
                  refine a1 (i := 13) (by kernel_rfl) ?_
                  refine one_ rfl ?_
                  refine Go.PF.bs hs68 sl23 [(0, .agg #[Str s_8_3, .int .i64 (([0, 80, 443] : List Int).getD r_8_6.toNat 0), .bool (decide ((0 : Int) < r_8_10))])] rfl (cs := [Str s_8_3, .int .i64 (([0, 80, 443] : List Int).getD r_8_6.toNat 0), .bool (decide ((0 : Int) < r_8_10))]) (by kernel_rfl) rfl (by decide) (by decide) trivial rfl (fun b_8_13 w66 (hs69 : SH w w66 [rb] [.own Ag3 zs.length cg3 27 3 (zs.flatMap gRule), .own (some ⟨b_8_2, 0, none⟩) (([[], [46, 111, 114, 103], [111, 114, 103], [46, 49], [120, 46, 111, 114, 103], [110, 101, 116]] : List (List UInt8)).length) 6 9 1 (([[], [46, 111, 114, 103], [111, 114, 103], [46, 49], [120, 46, 111, 114, 103], [110, 101, 116]] : List (List UInt8)).map Str), .own (some ⟨b_8_4, 0, none⟩) (([0, 80, 443] : List Int).length) 3 3 1 (([0, 80, 443] : List Int).map I), .blk rb 50 [.slice Ab bs.length cb, .int .i64 ((q_8_10 : Nat) : Int)], .own (some ⟨b_8_13, 0, none⟩) (([((s_8_3, ([0, 80, 443] : List Int).getD r_8_6.toNat 0, (decide ((0 : Int) < r_8_10))) : List UInt8 × Int × Bool)] : List (List UInt8 × Int × Bool)).length) 1 27 3 (([((s_8_3, ([0, 80, 443] : List Int).getD r_8_6.toNat 0, (decide ((0 : Int) < r_8_10))) : List UInt8 × Int × Bool)] : List (List UInt8 × Int × Bool)).flatMap gRule)]) => ?_)
                  refine nl (kq ⟨_, hs69, trivial⟩ ?_)
                  refine a1 (i := 14) (by kernel_rfl) ?_
                  refine one_ rfl ?_
                  refine apf (g := gRule) (ys := zs) (zs := ([((s_8_3, ([0, 80, 443] : List Int).getD r_8_6.toNat 0, (decide ((0 : Int) < r_8_10))) : List UInt8 × Int × Bool)] : List (List UInt8 × Int × Bool))) hs69 0 rfl sl23 rfl (by decide) rfl rfl (hs69.sl0 4 rfl) (fun _ => rfl) (by unfold maxLen; first | omega | (simp; omega)) (by first | omega | (simp; omega)) trivial rfl (fun A_8_14 c_8_14 w67 (hs70 : SH w w67 [rb] [.own (some ⟨b_8_2, 0, none⟩) (([[], [46, 111, 114, 103], [111, 114, 103], [46, 49], [120, 46, 111, 114, 103], [110, 101, 116]] : List (List UInt8)).length) 6 9 1 (([[], [46, 111, 114, 103], [111, 114, 103], [46, 49], [120, 46, 111, 114, 103], [110, 101, 116]] : List (List UInt8)).map Str), .own (some ⟨b_8_4, 0, none⟩) (([0, 80, 443] : List Int).length) 3 3 1 (([0, 80, 443] : List Int).map I), .blk rb 50 [.slice Ab bs.length cb, .int .i64 ((q_8_10 : Nat) : Int)], .own (some ⟨b_8_13, 0, none⟩) (([((s_8_3, ([0, 80, 443] : List Int).getD r_8_6.toNat 0, (decide ((0 : Int) < r_8_10))) : List UInt8 × Int × Bool)] : List (List UInt8 × Int × Bool)).length) 1 27 3 (([((s_8_3, ([0, 80, 443] : List Int).getD r_8_6.toNat 0, (decide ((0 : Int) < r_8_10))) : List UInt8 × Int × Bool)] : List (List UInt8 × Int × Bool)).flatMap gRule), .own A_8_14 ((zs ++ ([((s_8_3, ([0, 80, 443] : List Int).getD r_8_6.toNat 0, (decide ((0 : Int) < r_8_10))) : List UInt8 × Int × Bool)] : List (List UInt8 × Int × Bool))).length) c_8_14 27 3 ((zs ++ ([((s_8_3, ([0, 80, 443] : List Int).getD r_8_6.toNat 0, (decide ((0 : Int) < r_8_10))) : List UInt8 × Int × Bool)] : List (List UInt8 × Int × Bool))).flatMap gRule)]) => ?_)
                  refine nl (kq ⟨_, hs70, trivial⟩ ?_)
                  refine tk (fuel := 0) (is := [15]) (.cons rfl (.nil)) (by kernel_rfl) (by kernel_rfl) ⟨_, hs70, trivial⟩ ?_
                  refine .op trivial rfl rfl (fun wq _ => asg (v := .slice A_8_14 ((zs ++ ([((s_8_3, ([0, 80, 443] : List Int).getD r_8_6.toNat 0, (decide ((0 : Int) < r_8_10))) : List UInt8 × Int × Bool)] : List (List UInt8 × Int × Bool))).length) c_8_14) rfl) ?_
                  refine .nil ?_
                  refine ad (by kernel_rfl) ?_
                  exact ⟨b_8_2, s_8_3, q_8_3, b_8_4, r_8_6, q_8_6, r_8_10, q_8_10, b_8_13, A_8_14, c_8_14, ⟨rfl, rfl, rfl, rfl, trivial⟩, p49, p50, p57, p58, p59, p60, hs70⟩
                · refine one_ rfl ?_
                  refine cl trivial rfl (pick (rb := rb) (Ab := Ab) (cb := cb) (bs := bs) (p := q_8_6) (n := 3) (w := _) (hr := (blk_heap hs67 2 rfl)) (hb := (hb.up hs67 (fun _ h => h) (fun _ h => .inl h))) (hbn := (by first | assumption | (simp; omega))) (hp := (by omega))) ?_
                  rintro _ w68 ⟨r_8_10, q_8_10, rfl, p61, p62, hs71'⟩
                  have hs71 : SH w w68 [rb] [.own Ag3 zs.length cg3 27 3 (zs.flatMap gRule), .own (some ⟨b_8_2, 0, none⟩) (([[], [46, 111, 114, 103], [111, 114, 103], [46, 49], [120, 46, 111, 114, 103], [110, 101, 116]] : List (List UInt8)).length) 6 9 1 (([[], [46, 111, 114, 103], [111, 114, 103], [46, 49], [120, 46, 111, 114, 103], [110, 101, 116]] : List (List UInt8)).map Str), .own (some ⟨b_8_4, 0, none⟩) (([0, 80, 443] : List Int).length) 3 3 1 (([0, 80, 443] : List Int).map I), .blk rb 50 [.slice Ab bs.length cb, .int .i64 ((q_8_10 : Nat) : Int)]] := hs67.callM 2 rfl hs71' (by intro k hk; simp at hk; exact hk.symm)
                  clear hs71'
                  refine nl (kq ⟨_, hs71, trivial⟩ ?_)
                  refine tk (fuel := 5) (is := [11]) (.cons rfl (.nil)) (by kernel_rfl) (by kernel_rfl) ⟨_, hs71, trivial⟩ ?_
                  refine .op trivial rfl rfl (fun wq _ => gtr (k := .i64) (a := r_8_10) (b := 0) rfl rfl) ?_
                  refine .nil ?_
                  refine a1 (i := 8) (by kernel_rfl) ?_
                  refine one_ rfl ?_
                  refine q trivial rfl rfl (ldo1n (g := I) (ys := ([0, 80, 443] : List Int)) (o := r_8_6.toNat) 0 hs71 2 rfl rfl (by first | omega | (simp; omega)) one3) ?_
                  refine nl (kq ⟨_, hs71, trivial⟩ ?_)
                  refine tk (fuel := 3) (is := [12]) (.cons rfl (.nil)) (by kernel_rfl) (by kernel_rfl) ⟨_, hs71, trivial⟩ ?_
                  refine .op trivial rfl rfl (fun wq _ => bdv (v := .agg #[Str s_8_3, .int .i64 (([0, 80, 443] : List Int).getD r_8_6.toNat 0), .bool (decide ((0 : Int) < r_8_10))]) [(0, Str s_8_3), (1, .int .i64 (([0, 80, 443] : List Int).getD r_8_6.toNat 0)), (2, .bool (decide ((0 : Int) < r_8_10)))] rfl (fun _ => by kernel_rfl)) ?_
                  refine .nil ?_
                  refine a1 (i := 13) (by kernel_rfl) ?_
                  refine one_ rfl ?_
                  refine Go.PF.bs hs71 sl23 [(0, .agg #[Str s_8_3, .int .i64 (([0, 80, 443] : List Int).getD r_8_6.toNat 0), .bool (decide ((0 : Int) < r_8_10))])] rfl (cs := [Str s_8_3, .int .i64 (([0, 80, 443] : List Int).getD r_8_6.toNat 0), .bool (decide ((0 : Int) < r_8_10))]) (by kernel_rfl) rfl (by decide) (by decide) trivial rfl (fun b_8_13 w69 (hs72 : SH w w69 [rb] [.own Ag3 zs.length cg3 27 3 (zs.flatMap gRule), .own (some ⟨b_8_2, 0, none⟩) (([[], [46, 111, 114, 103], [111, 114, 103], [46, 49], [120, 46, 111, 114, 103], [110, 101, 116]] : List (List UInt8)).length) 6 9 1 (([[], [46, 111, 114, 103], [111, 114, 103], [46, 49], [120, 46, 111, 114, 103], [110, 101, 116]] : List (List UInt8)).map Str), .own (some ⟨b_8_4, 0, none⟩) (([0, 80, 443] : List Int).length) 3 3 1 (([0, 80, 443] : List Int).map I), .blk rb 50 [.slice Ab bs.length cb, .int .i64 ((q_8_10 : Nat) : Int)], .own (some ⟨b_8_13, 0, none⟩) (([((s_8_3, ([0, 80, 443] : List Int).getD r_8_6.toNat 0, (decide ((0 : Int) < r_8_10))) : List UInt8 × Int × Bool)] : List (List UInt8 × Int × Bool)).length) 1 27 3 (([((s_8_3, ([0, 80, 443] : List Int).getD r_8_6.toNat 0, (decide ((0 : Int) < r_8_10))) : List UInt8 × Int × Bool)] : List (List UInt8 × Int × Bool)).flatMap gRule)]) => ?_)
                  refine nl (kq ⟨_, hs72, trivial⟩ ?_)
                  refine a1 (i := 14) (by kernel_rfl) ?_
                  refine one_ rfl ?_
                  refine apf (g := gRule) (ys := zs) (zs := ([((s_8_3, ([0, 80, 443] : List Int).getD r_8_6.toNat 0, (decide ((0 : Int) < r_8_10))) : List UInt8 × Int × Bool)] : List (List UInt8 × Int × Bool))) hs72 0 rfl sl23 rfl (by decide) rfl rfl (hs72.sl0 4 rfl) (fun _ => rfl) (by unfold maxLen; first | omega | (simp; omega)) (by first | omega | (simp; omega)) trivial rfl (fun A_8_14 c_8_14 w70 (hs73 : SH w w70 [rb] [.own (some ⟨b_8_2, 0, none⟩) (([[], [46, 111, 114, 103], [111, 114, 103], [46, 49], [120, 46, 111, 114, 103], [110, 101, 116]] : List (List UInt8)).length) 6 9 1 (([[], [46, 111, 114, 103], [111, 114, 103], [46, 49], [120, 46, 111, 114, 103], [110, 101, 116]] : List (List UInt8)).map Str), .own (some ⟨b_8_4, 0, none⟩) (([0, 80, 443] : List Int).length) 3 3 1 (([0, 80, 443] : List Int).map I), .blk rb 50 [.slice Ab bs.length cb, .int .i64 ((q_8_10 : Nat) : Int)], .own (some ⟨b_8_13, 0, none⟩) (([((s_8_3, ([0, 80, 443] : List Int).getD r_8_6.toNat 0, (decide ((0 : Int) < r_8_10))) : List UInt8 × Int × Bool)] : List (List UInt8 × Int × Bool)).length) 1 27 3 (([((s_8_3, ([0, 80, 443] : List Int).getD r_8_6.toNat 0, (decide ((0 : Int) < r_8_10))) : List UInt8 × Int × Bool)] : List (List UInt8 × Int × Bool)).flatMap gRule), .own A_8_14 ((zs ++ ([((s_8_3, ([0, 80, 443] : List Int).getD r_8_6.toNat 0, (decide ((0 : Int) < r_8_10))) : List UInt8 × Int × Bool)] : List (List UInt8 × Int × Bool))).length) c_8_14 27 3 ((zs ++ ([((s_8_3, ([0, 80, 443] : List Int).getD r_8_6.toNat 0, (decide ((0 : Int) < r_8_10))) : List UInt8 × Int × Bool)] : List (List UInt8 × Int × Bool))).flatMap gRule)]) => ?_)
                  refine nl (kq ⟨_, hs73, trivial⟩ ?_)
                  refine tk (fuel := 0) (is := [15]) (.cons rfl (.nil)) (by kernel_rfl) (by kernel_rfl) ⟨_, hs73, trivial⟩ ?_
                  refine .op trivial rfl rfl (fun wq _ => asg (v := .slice A_8_14 ((zs ++ ([((s_8_3, ([0, 80, 443] : List Int).getD r_8_6.toNat 0, (decide ((0 : Int) < r_8_10))) : List UInt8 × Int × Bool)] : List (List UInt8 × Int × Bool))).length) c_8_14) rfl) ?_
                  refine .nil ?_
                  refine ad (by kernel_rfl) ?_
                  exact ⟨b_8_2, s_8_3, q_8_3, b_8_4, r_8_6, q_8_6, r_8_10, q_8_10, b_8_13, A_8_14, c_8_14, ⟨rfl, rfl, rfl, rfl, trivial⟩, p49, p50, p57, p58, p61, p62, hs73⟩
              · refine one_ rfl ?_
                refine cl trivial rfl (pick (rb := rb) (Ab := Ab) (cb := cb) (bs := bs) (p := q_8_6) (n := 3) (w := _) (hr := (blk_heap hs66 2 rfl)) (hb := (hb.up hs66 (fun _ h => h) (fun _ h => .inl h))) (hbn := (by first | assumption | (simp; omega))) (hp := (by omega))) ?_
                rintro _ w71 ⟨r_8_10, q_8_10, rfl, p63, p64, hs74'⟩
                have hs74 : SH w w71 [rb] [.own Ag3 zs.length cg3 27 3 (zs.flatMap gRule), .own (some ⟨b_8_2, 0, none⟩) (([[], [46, 111, 114, 103], [111, 114, 103], [46, 49], [120, 46, 111, 114, 103], [110, 101, 116]] : List (List UInt8)).length) 6 9 1 (([[], [46, 111, 114, 103], [111, 114, 103], [46, 49], [120, 46, 111, 114, 103], [110, 101, 116]] : List (List UInt8)).map Str), .blk rb 50 [.slice Ab bs.length cb, .int .i64 ((q_8_10 : Nat) : Int)]] := hs66.callM 2 rfl hs74' (by intro k hk; simp at hk; exact hk.symm)
                clear hs74'
                refine nl (kq ⟨_, hs74, trivial⟩ ?_)
                refine tk (fuel := 7) (is := [11]) (.cons rfl (.nil)) (by kernel_rfl) (by kernel_rfl) ⟨_, hs74, trivial⟩ ?_
                refine .op trivial rfl rfl (fun wq _ => gtr (k := .i64) (a := r_8_10) (b := 0) rfl rfl) ?_
                refine .nil ?_
                refine a1 (i := 4) (by kernel_rfl) ?_
                refine one_ rfl ?_
                refine Go.PF.bs hs74 sl38 [(0, .int .i64 0), (1, .int .i64 80), (2, .int .i64 443)] rfl (cs := [.int .i64 0, .int .i64 80, .int .i64 443]) (by kernel_rfl) rfl (by decide) (by decide) trivial rfl (fun b_8_4 w72 (hs75 : SH w w72 [rb] [.own Ag3 zs.length cg3 27 3 (zs.flatMap gRule), .own (some ⟨b_8_2, 0, none⟩) (([[], [46, 111, 114, 103], [111, 114, 103], [46, 49], [120, 46, 111, 114, 103], [110, 101, 116]] : List (List UInt8)).length) 6 9 1 (([[], [46, 111, 114, 103], [111, 114, 103], [46, 49], [120, 46, 111, 114, 103], [110, 101, 116]] : List (List UInt8)).map Str), .blk rb 50 [.slice Ab bs.length cb, .int .i64 ((q_8_10 : Nat) : Int)], .own (some ⟨b_8_4, 0, none⟩) (([0, 80, 443] : List Int).length) 3 3 1 (([0, 80, 443] : List Int).map I)]) => ?_)
                refine nl (kq ⟨_, hs75, trivial⟩ ?_)
                refine tk (fuel := 5) (is := [7]) (.cons rfl (.nil)) (by kernel_rfl) (by kernel_rfl) ⟨_, hs75, trivial⟩ ?_
                refine .op trivial rfl rfl (fun wq _ => ixo r_8_6.toNat sl38 rfl (ieq (x := r_8_6) (by omega)) (by first | omega | (simp; omega))) ?_
                refine .nil ?_
                refine a1 (i := 8) (by kernel_rfl) ?_
                refine one_ rfl ?_
                refine q trivial rfl rfl (ldo1n (g := I) (ys := ([0, 80, 443] : List Int)) (o := r_8_6.toNat) 0 hs75 3 rfl rfl (by first | omega | (simp; omega)) one3) ?_
                refine nl (kq ⟨_, hs75, trivial⟩ ?_)
                refine tk (fuel := 3) (is := [12]) (.cons rfl (.nil)) (by kernel_rfl) (by kernel_rfl) ⟨_, hs75, trivial⟩ ?_
                refine .op trivial rfl rfl (fun wq _ => bdv (v := .agg #[Str s_8_3, .int .i64 (([0, 80, 443] : List Int).getD r_8_6.toNat 0), .bool (decide ((0 : Int) < r_8_10))]) [(0, Str s_8_3), (1, .int .i64 (([0, 80, 443] : List Int).getD r_8_6.toNat 0)), (2, .bool (decide ((0 : Int) < r_8_10)))] rfl (fun _ => by kernel_rfl)) ?_
                refine .nil ?_
                refine a1 (i := 13) (by kernel_rfl) ?_
                refine one_ rfl ?_
                refine Go.PF.bs hs75 sl23 [(0, .agg #[Str s_8_3, .int .i64 (([0, 80, 443] : List Int).getD r_8_6.toNat 0), .bool (decide ((0 : Int) < r_8_10))])] rfl (cs := [Str s_8_3, .int .i64 (([0, 80, 443] : List Int).getD r_8_6.toNat 0), .bool (decide ((0 : Int) < r_8_10))]) (by kernel_rfl) rfl (by decide) (by decide) trivial rfl (fun b_8_13 w73 (hs76 : SH w w73 [rb] [.own Ag3 zs.length cg3 27 3 (zs.flatMap gRule), .own (some ⟨b_8_2, 0, none⟩) (([[], [46, 111, 114, 103], [111, 114, 103], [46, 49], [120, 46, 111, 114, 103], [110, 101, 116]] : List (List UInt8)).length) 6 9 1 (([[], [46, 111, 114, 103], [111, 114, 103], [46, 49], [120, 46, 111, 114, 103], [110, 101, 116]] : List (List UInt8)).map Str), .blk rb 50 [.slice Ab bs.length cb, .int .i64 ((q_8_10 : Nat) : Int)], .own (some ⟨b_8_4, 0, none⟩) (([0, 80, 443] : List Int).length) 3 3 1 (([0, 80, 443] : List Int).map I), .own (some ⟨b_8_13, 0, none⟩) (([((s_8_3, ([0, 80, 443] : List Int).getD r_8_6.toNat 0, (decide ((0 : Int) < r_8_10))) : List UInt8 × Int × Bool)] : List (List UInt8 × Int × Bool)).length) 1 27 3 (([((s_8_3, ([0, 80, 443] : List Int).getD r_8_6.toNat 0, (decide ((0 : Int) < r_8_10))) : List UInt8 × Int × Bool)] : List (List UInt8 × Int × Bool)).flatMap gRule)]) => ?_)
                refine nl (kq ⟨_, hs76, trivial⟩ ?_)
                refine a1 (i := 14) (by kernel_rfl) ?_
                refine one_ rfl ?_
                refine apf (g := gRule) (ys := zs) (zs := ([((s_8_3, ([0, 80, 443] : List Int).getD r_8_6.toNat 0, (decide ((0 : Int) < r_8_10))) : List UInt8 × Int × Bool)] : List (List UInt8 × Int × Bool))) hs76 0 rfl sl23 rfl (by decide) rfl rfl (hs76.sl0 4 rfl) (fun _ => rfl) (by unfold maxLen; first | omega | (simp; omega)) (by first | omega | (simp; omega)) trivial rfl (fun A_8_14 c_8_14 w74 (hs77 : SH w w74 [rb] [.own (some ⟨b_8_2, 0, none⟩) (([[], [46, 111, 114, 103], [111, 114, 103], [46, 49], [120, 46, 111, 114, 103], [110, 101, 116]] : List (List UInt8)).length) 6 9 1 (([[], [46, 111, 114, 103], [111, 114, 103], [46, 49], [120, 46, 111, 114, 103], [110, 101, 116]] : List (List UInt8)).map Str), .blk rb 50 [.slice Ab bs.length cb, .int .i64 ((q_8_10 : Nat) : Int)], .own (some ⟨b_8_4, 0, none⟩) (([0, 80, 443] : List Int).length) 3 3 1 (([0, 80, 443] : List Int).map I), .own (some ⟨b_8_13, 0, none⟩) (([((s_8_3, ([0, 80, 443] : List Int).getD r_8_6.toNat 0, (decide ((0 : Int) < r_8_10))) : List UInt8 × Int × Bool)] : List (List UInt8 × Int × Bool)).length) 1 27 3 (([((s_8_3, ([0, 80, 443] : List Int).getD r_8_6.toNat 0, (decide ((0 : Int) < r_8_10))) : List UInt8 × Int × Bool)] : List (List UInt8 × Int × Bool)).flatMap gRule), .own A_8_14 ((zs ++ ([((s_8_3, ([0, 80, 443] : List Int).getD r_8_6.toNat 0, (decide ((0 : Int) < r_8_10))) : List UInt8 × Int × Bool)] : List (List UInt8 × Int × Bool))).length) c_8_14 27 3 ((zs ++ ([((s_8_3, ([0, 80, 443] : List Int).getD r_8_6.toNat 0, (decide ((0 : Int) < r_8_10))) : List UInt8 × Int × Bool)] : List (List UInt8 × Int × Bool))).flatMap gRule)]) => ?_)
                refine nl (kq ⟨_, hs77, trivial⟩ ?_)
                refine tk (fuel := 0) (is := [15]) (.cons rfl (.nil)) (by kernel_rfl) (by kernel_rfl) ⟨_, hs77, trivial⟩ ?_
                refine .op trivial rfl rfl (fun wq _ => asg (v := .slice A_8_14 ((zs ++ ([((s_8_3, ([0, 80, 443] : List Int).getD r_8_6.toNat 0, (decide ((0 : Int) < r_8_10))) : List UInt8 × Int × Bool)] : List (List UInt8 × Int × Bool))).length) c_8_14) rfl) ?_
                refine .nil ?_
                refine ad (by kernel_rfl) ?_
                exact ⟨b_8_2, s_8_3, q_8_3, b_8_4, r_8_6, q_8_6, r_8_10, q_8_10, b_8_13, A_8_14, c_8_14, ⟨rfl, rfl, rfl, rfl, trivial⟩, p49, p50, p57, p58, p63, p64, (hs77.pick [0, 2, 1, 3, 4] rfl (by decide))⟩
          · refine one_ rfl ?_
            refine Go.PF.bs hs56 sl38 [(0, .int .i64 0), (1, .int .i64 80), (2, .int .i64 443)] rfl (cs := [.int .i64 0, .int .i64 80, .int .i64 443]) (by kernel_rfl) rfl (by decide) (by decide) trivial rfl (fun b_8_4 w75 (hs78 : SH w w75 [rb] [.own Ag3 zs.length cg3 27 3 (zs.flatMap gRule), .blk rb 50 [.slice Ab bs.length cb, .int .i64 ((q0 : Nat) : Int)], .own (some ⟨b_8_2, 0, none⟩) (([[], [46, 111, 114, 103], [111, 114, 103], [46, 49], [120, 46, 111, 114, 103], [110, 101, 116]] : List (List UInt8)).length) 6 9 1 (([[], [46, 111, 114, 103], [111, 114, 103], [46, 49], [120, 46, 111, 114, 103], [110, 101, 116]] : List (List UInt8)).map Str), .own (some ⟨b_8_4, 0, none⟩) (([0, 80, 443] : List Int).length) 3 3 1 (([0, 80, 443] : List Int).map I)]) => ?_)
            refine nl (kq ⟨_, hs78, trivial⟩ ?_)
            refine a1 (i := 3) (by kernel_rfl) ?_
            refine one_ rfl ?_
            refine cl trivial rfl (rdOf (rb := rb) (Ab := Ab) (cb := cb) (bs := bs) (p := q0) (Ass := (some ⟨b_8_2, 0, none⟩)) (css := 6) (ss := ([[], [46, 111, 114, 103], [111, 114, 103], [46, 49], [120, 46, 111, 114, 103], [110, 101, 116]] : List (List UInt8))) (w := _) (hr := (blk_heap hs78 1 rfl)) (hb := (hb.up hs78 (fun _ h => h) (fun _ h => .inl h))) (hbn := (by first | assumption | (simp; omega))) (hp := (by omega)) (hss := (hs78.sl 2 rfl (by intro k hk; simp at hk; subst hk; exact ⟨_, memi 1 rfl, rfl⟩))) (hne := (by first | omega | assumption | (simp; done) | (simp; omega)))) ?_
            rintro _ w76 ⟨s_8_3, q_8_3, rfl, p65, p66, hs79'⟩
            have hs79 : SH w w76 [rb] [.own Ag3 zs.length cg3 27 3 (zs.flatMap gRule), .own (some ⟨b_8_2, 0, none⟩) (([[], [46, 111, 114, 103], [111, 114, 103], [46, 49], [120, 46, 111, 114, 103], [110, 101, 116]] : List (List UInt8)).length) 6 9 1 (([[], [46, 111, 114, 103], [111, 114, 103], [46, 49], [120, 46, 111, 114, 103], [110, 101, 116]] : List (List UInt8)).map Str), .own (some ⟨b_8_4, 0, none⟩) (([0, 80, 443] : List Int).length) 3 3 1 (([0, 80, 443] : List Int).map I), .blk rb 50 [.slice Ab bs.length cb, .int .i64 ((q_8_3 : Nat) : Int)]] := hs78.callM 1 rfl hs79' (by intro k hk; simp at hk; exact hk.symm)
            clear hs79'
            refine nl (kq ⟨_, hs79, trivial⟩ ?_)
            refine a1 (i := 6) (by kernel_rfl) ?_
            refine one_ rfl ?_
            refine cl trivial rfl (pick (rb := rb) (Ab := Ab) (cb := cb) (bs := bs) (p := q_8_3) (n := 3) (w := _) (hr := (blk_heap hs79 3 rfl)) (hb := (hb.up hs79 (fun _ h => h) (fun _ h => .inl h))) (hbn := (by first | assumption | (simp; omega))) (hp := (by omega))) ?_
            rintro _ w77 ⟨r_8_6, q_8_6, rfl, p67, p68, hs80'⟩
            have hs80 : SH w w77 [rb] [.own Ag3 zs.length cg3 27 3 (zs.flatMap gRule), .own (some ⟨b_8_2, 0, none⟩) (([[], [46, 111, 114, 103], [111, 114, 103], [46, 49], [120, 46, 111, 114, 103], [110, 101, 116]] : List (List UInt8)).length) 6 9 1 (([[], [46, 111, 114, 103], [111, 114, 103], [46, 49], [120, 46, 111, 114, 103], [110, 101, 116]] : List (List UInt8)).map Str), .own (some ⟨b_8_4, 0, none⟩) (([0, 80, 443] : List Int).length) 3 3 1 (([0, 80, 443] : List Int).map I), .blk rb 50 [.slice Ab bs.length cb, .int .i64 ((q_8_6 : Nat) : Int)]] := hs79.callM 3 rfl hs80' (by intro k hk; simp at hk; exact hk.symm)
            clear hs80'
            refine nl (kq ⟨_, hs80, trivial⟩ ?_)
            refine tk (fuel := 7) (is := [7]) (.cons rfl (.nil)) (by kernel_rfl) (by kernel_rfl) ⟨_, hs80, trivial⟩ ?_
            refine .op trivial rfl rfl (fun wq _ => ixo r_8_6.toNat sl38 rfl (ieq (x := r_8_6) (by omega)) (by first | omega | (simp; omega))) ?_
            refine .nil ?_
            refine a2 (i := 8) (j := 10) (by kernel_rfl) ?_ ?_
            · refine one_ rfl ?_
              refine q trivial rfl rfl (ldo1n (g := I) (ys := ([0, 80, 443] : List Int)) (o := r_8_6.toNat) 0 hs80 2 rfl rfl (by first | omega | (simp; omega)) one3) ?_
              refine nl (kq ⟨_, hs80, trivial⟩ ?_)
              refine a1 (i := 10) (by kernel_rfl) ?_
              refine one_ rfl ?_
              refine cl trivial rfl (pick (rb := rb) (Ab := Ab) (cb := cb) (bs := bs) (p := q_8_6) (n := 3) (w := _) (hr := (blk_heap hs80 3 rfl)) (hb := (hb.up hs80 (fun _ h => h) (fun _ h => .inl h))) (hbn := (by first | assumption | (simp; omega))) (hp := (by omega))) ?_
              rintro _ w78 ⟨r_8_10, q_8_10, rfl, p69, p70, hs81'⟩
              have hs81 : SH w w78 [rb] [.own Ag3 zs.length cg3 27 3 (zs.flatMap gRule), .own (some ⟨b_8_2, 0, none⟩) (([[], [46, 111, 114, 103], [111, 114, 103], [46, 49], [120, 46, 111, 114, 103], [110, 101, 116]] : List (List UInt8)).length) 6 9 1 (([[], [46, 111, 114, 103], [111, 114, 103], [46, 49], [120, 46, 111, 114, 103], [110, 101, 116]] : List (List UInt8)).map Str), .own (some ⟨b_8_4, 0, none⟩) (([0, 80, 443] : List Int).length) 3 3 1 (([0, 80, 443] : List Int).map I), .blk rb 50 [.slice Ab bs.length cb, .int .i64 ((q_8_10 : Nat) : Int)]] := hs80.callM 3 rfl hs81' (by intro k hk; simp at hk; exact hk.symm)
              clear hs81'
              refine nl (kq ⟨_, hs81, trivial⟩ ?_)
              refine tk (fuel := 3) (is := [11, 12]) (.cons rfl (.cons rfl (.nil))) (by kernel_rfl) (by kernel_rfl) ⟨_, hs81, trivial⟩ ?_
              refine .op trivial rfl rfl (fun wq _ => gtr (k := .i64) (a := r_8_10) (b := 0) rfl rfl) ?_
              refine .op trivial rfl rfl (fun wq _ => bdv (v := .agg #[Str s_8_3, .int .i64 (([0, 80, 443] : List Int).getD r_8_6.toNat 0), .bool (decide ((0 : Int) < r_8_10))]) [(0, Str s_8_3), (1, .int .i64 (([0, 80, 443] : List Int).getD r_8_6.toNat 0)), (2, .bool (decide ((0 : Int) < r_8_10)))] rfl (fun _ => by kernel_rfl)) ?_
              refine .nil ?_
              refine a1 (i := 13) (by kernel_rfl) ?_
              refine one_ rfl ?_
              refine Go.PF.bs hs81 sl23 [(0, .agg #[Str s_8_3, .int .i64 (([0, 80, 443] : List Int).getD r_8_6.toNat 0), .bool (decide ((0 : Int) < r_8_10))])] rfl (cs := [Str s_8_3, .int .i64 (([0, 80, 443] : List Int).getD r_8_6.toNat 0), .bool (decide ((0 : Int) < r_8_10))]) (by kernel_rfl) rfl (by decide) (by decide) trivial rfl (fun b_8_13 w79 (hs82 : SH w w79 [rb] [.own Ag3 zs.length cg3 27 3 (zs.flatMap gRule), .own (some ⟨b_8_2, 0, none⟩) (([[], [46, 111, 114, 103], [111, 114, 103], [46, 49], [120, 46, 111, 114, 103], [110, 101, 116]] : List (List UInt8)).length) 6 9 1 (([[], [46, 111, 114, 103], [111, 114, 103], [46, 49], [120, 46, 111, 114, 103], [110, 101, 116]] : List (List UInt8)).map Str), .own (some ⟨b_8_4, 0, none⟩) (([0, 80, 443] : List Int).length) 3 3 1 (([0, 80, 443] : List Int).map I), .blk rb 50 [.slice Ab bs.length cb, .int .i64 ((q_8_10 : Nat) : Int)], .own (some ⟨b_8_13, 0, none⟩) (([((s_8_3, ([0, 80, 443] : List Int).getD r_8_6.toNat 0, (decide ((0 : Int) < r_8_10))) : List UInt8 × Int × Bool)] : List (List UInt8 × Int × Bool)).length) 1 27 3 (([((s_8_3, ([0, 80, 443] : List Int).getD r_8_6.toNat 0, (decide ((0 : Int) < r_8_10))) : List UInt8 × Int × Bool)] : List (List UInt8 × Int × Bool)).flatMap gRule)]) => ?_)
              refine nl (kq ⟨_, hs82, trivial⟩ ?_)
              refine a1 (i := 14) (by kernel_rfl) ?_
              refine one_ rfl ?_
              refine apf (g := gRule) (ys := zs) (zs := ([((s_8_3, ([0, 80, 443] : List Int).getD r_8_6.toNat 0, (decide ((0 : Int) < r_8_10))) : List UInt8 × Int × Bool)] : List (List UInt8 × Int × Bool))) hs82 0 rfl sl23 rfl (by decide) rfl rfl (hs82.sl0 4 rfl) (fun _ => rfl) (by unfold maxLen; first | omega | (simp; omega)) (by first | omega | (simp; omega)) trivial rfl (fun A_8_14 c_8_14 w80 (hs83 : SH w w80 [rb] [.own (some ⟨b_8_2, 0, none⟩) (([[], [46, 111, 114, 103], [111, 114, 103], [46, 49], [120, 46, 111, 114, 103], [110, 101, 116]] : List (List UInt8)).length) 6 9 1 (([[], [46, 111, 114, 103], [111, 114, 103], [46, 49], [120, 46, 111, 114, 103], [110, 101, 116]] : List (List UInt8)).map Str), .own (some ⟨b_8_4, 0, none⟩) (([0, 80, 443] : List Int).length) 3 3 1 (([0, 80, 443] : List Int).map I), .blk rb 50 [.slice Ab bs.length cb, .int .i64 ((q_8_10 : Nat) : Int)], .own (some ⟨b_8_13, 0, none⟩) (([((s_8_3, ([0, 80, 443] : List Int).getD r_8_6.toNat 0, (decide ((0 : Int) < r_8_10))) : List UInt8 × Int × Bool)] : List (List UInt8 × Int × Bool)).length) 1 27 3 (([((s_8_3, ([0, 80, 443] : List Int).getD r_8_6.toNat 0, (decide ((0 : Int) < r_8_10))) : List UInt8 × Int × Bool)] : List (List UInt8 × Int × Bool)).flatMap gRule), .own A_8_14 ((zs ++ ([((s_8_3, ([0, 80, 443] : List Int).getD r_8_6.toNat 0, (decide ((0 : Int) < r_8_10))) : List UInt8 × Int × Bool)] : List (List UInt8 × Int × Bool))).length) c_8_14 27 3 ((zs ++ ([((s_8_3, ([0, 80, 443] : List Int).getD r_8_6.toNat 0, (decide ((0 : Int) < r_8_10))) : List UInt8 × Int × Bool)] : List (List UInt8 × Int × Bool))).flatMap gRule)]) => ?_)
              refine nl (kq ⟨_, hs83, trivial⟩ ?_)
              refine tk (fuel := 0) (is := [15]) (.cons rfl (.nil)) (by kernel_rfl) (by kernel_rfl) ⟨_, hs83, trivial⟩ ?_
              refine .op trivial rfl rfl (fun wq _ => asg (v := .slice A_8_14 ((zs ++ ([((s_8_3, ([0, 80, 443] : List Int).getD r_8_6.toNat 0, (decide ((0 : Int) < r_8_10))) : List UInt8 × Int × Bool)] : List (List UInt8 × Int × Bool))).length) c_8_14) rfl) ?_
              refine .nil ?_
              refine ad (by kernel_rfl) ?_
              exact ⟨b_8_2, s_8_3, q_8_3, b_8_4, r_8_6, q_8_6, r_8_10, q_8_10, b_8_13, A_8_14, c_8_14, ⟨rfl, rfl, rfl, rfl, trivial⟩, p65, p66, p67, p68, p69, p70, hs83⟩
            · refine one_ rfl ?_
              refine cl trivial rfl (pick (rb := rb) (Ab := Ab) (cb := cb) (bs := bs) (p := q_8_6) (n := 3) (w := _) (hr := (blk_heap hs80 3 rfl)) (hb := (hb.up hs80 (fun _ h => h) (fun _ h => .inl h))) (hbn := (by first | assumption | (simp; omega))) (hp := (by omega))) ?_
              rintro _ w81 ⟨r_8_10, q_8_10, rfl, p71, p72, hs84'⟩
              have hs84 : SH w w81 [rb] [.own Ag3 zs.length cg3 27 3 (zs.flatMap gRule), .own (some ⟨b_8_2, 0, none⟩) (([[], [46, 111, 114, 103], [111, 114, 103], [46, 49], [120, 46, 111, 114, 103], [110, 101, 116]] : List (List UInt8)).length) 6 9 1 (([[], [46, 111, 114, 103], [111, 114, 103], [46, 49], [120, 46, 111, 114, 103], [110, 101, 116]] : List (List UInt8)).map Str), .own (some ⟨b_8_4, 0, none⟩) (([0, 80, 443] : List Int).length) 3 3 1 (([0, 80, 443] : List Int).map I), .blk rb 50 [.slice Ab bs.length cb, .int .i64 ((q_8_10 : Nat) : Int)]] := hs80.callM 3 rfl hs84' (by intro k hk; simp at hk; exact hk.symm)
              clear hs84'
              refine nl (kq ⟨_, hs84, trivial⟩ ?_)
              refine tk (fuel := 5) (is := [11]) (.cons rfl (.nil)) (by kernel_rfl) (by kernel_rfl) ⟨_, hs84, trivial⟩ ?_
              refine .op trivial rfl rfl (fun wq _ => gtr (k := .i64) (a := r_8_10) (b := 0) rfl rfl) ?_
              refine .nil ?_
              refine a1 (i := 8) (by kernel_rfl) ?_
              refine one_ rfl ?_
              refine q trivial rfl rfl (ldo1n (g := I) (ys := ([0, 80, 443] : List Int)) (o := r_8_6.toNat) 0 hs84 2 rfl rfl (by first | omega | (simp; omega)) one3) ?_
              refine nl (kq ⟨_, hs84, trivial⟩ ?_)
              refine tk (fuel := 3) (is := [12]) (.cons rfl (.nil)) (by kernel_rfl) (by kernel_rfl) ⟨_, hs84, trivial⟩ ?_
              refine .op trivial rfl rfl (fun wq _ => bdv (v := .agg #[Str s_8_3, .int .i64 (([0, 80, 443] : List Int).getD r_8_6.toNat 0), .bool (decide ((0 : Int) < r_8_10))]) [(0, Str s_8_3), (1, .int .i64 (([0, 80, 443] : List Int).getD r_8_6.toNat 0)), (2, .bool (decide ((0 : Int) < r_8_10)))] rfl (fun _ => by kernel_rfl)) ?_
              refine .nil ?_
              refine a1 (i := 13) (by kernel_rfl) ?_
              refine one_ rfl ?_
              refine Go.PF.bs hs84 sl23 [(0, .agg #[Str s_8_3, .int .i64 (([0, 80, 443] : List Int).getD r_8_6.toNat 0), .bool (decide ((0 : Int) < r_8_10))])] rfl (cs := [Str s_8_3, .int .i64 (([0, 80, 443] : List Int).getD r_8_6.toNat 0), .bool (decide ((0 : Int) < r_8_10))]) (by kernel_rfl) rfl (by decide) (by decide) trivial rfl (fun b_8_13 w82 (hs85 : SH w w82 [rb] [.own Ag3 zs.length cg3 27 3 (zs.flatMap gRule), .own (some ⟨b_8_2, 0, none⟩) (([[], [46, 111, 114, 103], [111, 114, 103], [46, 49], [120, 46, 111, 114, 103], [110, 101, 116]] : List (List UInt8)).length) 6 9 1 (([[], [46, 111, 114, 103], [111, 114, 103], [46, 49], [120, 46, 111, 114, 103], [110, 101, 116]] : List (List UInt8)).map Str), .own (some ⟨b_8_4, 0, none⟩) (([0, 80, 443] : List Int).length) 3 3 1 (([0, 80, 443] : List Int).map I), .blk rb 50 [.slice Ab bs.length cb, .int .i64 ((q_8_10 : Nat) : Int)], .own (some ⟨b_8_13, 0, none⟩) (([((s_8_3, ([0, 80, 443] : List Int).getD r_8_6.toNat 0, (decide ((0 : Int) < r_8_10))) : List UInt8 × Int × Bool)] : List (List UInt8 × Int × Bool)).length) 1 27 3 (([((s_8_3, ([0, 80, 443] : List Int).getD r_8_6.toNat 0, (decide ((0 : Int) < r_8_10))) : List UInt8 × Int × Bool)] : List (List UInt8 × Int × Bool)).flatMap gRule)]) => ?_)
              refine nl (kq ⟨_, hs85, trivial⟩ ?_)
              refine a1 (i := 14) (by kernel_rfl) ?_
              refine one_ rfl ?_
              refine apf (g := gRule) (ys := zs) (zs := ([((s_8_3, ([0, 80, 443] : List Int).getD r_8_6.toNat 0, (decide ((0 : Int) < r_8_10))) : List UInt8 × Int × Bool)] : List (List UInt8 × Int × Bool))) hs85 0 rfl sl23 rfl (by decide) rfl rfl (hs85.sl0 4 rfl) (fun _ => rfl) (by unfold maxLen; first | omega | (simp; omega)) (by first | omega | (simp; omega)) trivial rfl (fun A_8_14 c_8_14 w83 (hs86 : SH w w83 [rb] [.own (some ⟨b_8_2, 0, none⟩) (([[], [46, 111, 114, 103], [111, 114, 103], [46, 49], [120, 46, 111, 114, 103], [110, 101, 116]] : List (List UInt8)).length) 6 9 1 (([[], [46, 111, 114, 103], [111, 114, 103], [46, 49], [120, 46, 111, 114, 103], [110, 101, 116]] : List (List UInt8)).map Str), .own (some ⟨b_8_4, 0, none⟩) (([0, 80, 443] : List Int).length) 3 3 1 (([0, 80, 443] : List Int).map I), .blk rb 50 [.slice Ab bs.length cb, .int .i64 ((q_8_10 : Nat) : Int)], .own (some ⟨b_8_13, 0, none⟩) (([((s_8_3, ([0, 80, 443] : List Int).getD r_8_6.toNat 0, (decide ((0 : Int) < r_8_10))) : List UInt8 × Int × Bool)] : List (List UInt8 × Int × Bool)).length) 1 27 3 (([((s_8_3, ([0, 80, 443] : List Int).getD r_8_6.toNat 0, (decide ((0 : Int) < r_8_10))) : List UInt8 × Int × Bool)] : List (List UInt8 × Int × Bool)).flatMap gRule), .own A_8_14 ((zs ++ ([((s_8_3, ([0, 80, 443] : List Int).getD r_8_6.toNat 0, (decide ((0 : Int) < r_8_10))) : List UInt8 × Int × Bool)] : List (List UInt8 × Int × Bool))).length) c_8_14 27 3 ((zs ++ ([((s_8_3, ([0, 80, 443] : List Int).getD r_8_6.toNat 0, (decide ((0 : Int) < r_8_10))) : List UInt8 × Int × Bool)] : List (List UInt8 × Int × Bool))).flatMap gRule)]) => ?_)
              refine nl (kq ⟨_, hs86, trivial⟩ ?_)
              refine tk (fuel := 0) (is := [15]) (.cons rfl (.nil)) (by kernel_rfl) (by kernel_rfl) ⟨_, hs86, trivial⟩ ?_
              refine .op trivial rfl rfl (fun wq _ => asg (v := .slice A_8_14 ((zs ++ ([((s_8_3, ([0, 80, 443] : List Int).getD r_8_6.toNat 0, (decide ((0 : Int) < r_8_10))) : List UInt8 × Int × Bool)] : List (List UInt8 × Int × Bool))).length) c_8_14) rfl) ?_
              refine .nil ?_
              refine ad (by kernel_rfl) ?_
              exact ⟨b_8_2, s_8_3, q_8_3, b_8_4, r_8_6, q_8_6, r_8_10, q_8_10, b_8_13, A_8_14, c_8_14, ⟨rfl, rfl, rfl, rfl, trivial⟩, p65, p66, p67, p68, p71, p72, hs86⟩
        · refine one_ rfl ?_
          refine Go.PF.bs hs55 sl38 [(0, .int .i64 0), (1, .int .i64 80), (2, .int .i64 443)] rfl (cs := [.int .i64 0, .int .i64 80, .int .i64 443]) (by kernel_rfl) rfl (by decide) (by decide) trivial rfl (fun b_8_4 w84 (hs87 : SH w w84 [rb] [.own Ag3 zs.length cg3 27 3 (zs.flatMap gRule), .blk rb 50 [.slice Ab bs.length cb, .int .i64 ((q0 : Nat) : Int)], .own (some ⟨b_8_4, 0, none⟩) (([0, 80, 443] : List Int).length) 3 3 1 (([0, 80, 443] : List Int).map I)]) => ?_)
          refine nl (kq ⟨_, hs87, trivial⟩ ?_)
          refine a1 (i := 2) (by kernel_rfl) ?_
          refine one_ rfl ?_
          refine Go.PF.bs hs87 sl52 [(0, Str []), (1, Str [46, 111, 114, 103]), (2, Str [111, 114, 103]), (3, Str [46, 49]), (4, Str [120, 46, 111, 114, 103]), (5, Str [110, 101, 116])] rfl (cs := [Str [], Str [46, 111, 114, 103], Str [111, 114, 103], Str [46, 49], Str [120, 46, 111, 114, 103], Str [110, 101, 116]]) (by kernel_rfl) rfl (by decide) (by decide) trivial rfl (fun b_8_2 w85 (hs88 : SH w w85 [rb] [.own Ag3 zs.length cg3 27 3 (zs.flatMap gRule), .blk rb 50 [.slice Ab bs.length cb, .int .i64 ((q0 : Nat) : Int)], .own (some ⟨b_8_4, 0, none⟩) (([0, 80, 443] : List Int).length) 3 3 1 (([0, 80, 443] : List Int).map I), .own (some ⟨b_8_2, 0, none⟩) (([[], [46, 111, 114, 103], [111, 114, 103], [46, 49], [120, 46, 111, 114, 103], [110, 101, 116]] : List (List UInt8)).length) 6 9 1 (([[], [46, 111, 114, 103], [111, 114, 103], [46, 49], [120, 46, 111, 114, 103], [110, 101, 116]] : List (List UInt8)).map Str)]) => ?_)
          refine nl (kq ⟨_, hs88, trivial⟩ ?_)
          refine a1 (i := 3) (by kernel_rfl) ?_
          refine one_ rfl ?_
          refine cl trivial rfl (rdOf (rb := rb) (Ab := Ab) (cb := cb) (bs := bs) (p := q0) (Ass := (some ⟨b_8_2, 0, none⟩)) (css := 6) (ss := ([[], [46, 111, 114, 103], [111, 114, 103], [46, 49], [120, 46, 111, 114, 103], [110, 101, 116]] : List (List UInt8))) (w := _) (hr := (blk_heap hs88 1 rfl)) (hb := (hb.up hs88 (fun _ h => h) (fun _ h => .inl h))) (hbn := (by first | assumption | (simp; omega))) (hp := (by omega)) (hss := (hs88.sl 3 rfl (by intro k hk; simp at hk; subst hk; exact ⟨_, memi 1 rfl, rfl⟩))) (hne := (by first | omega | assumption | (simp; done) | (simp; omega)))) ?_
          rintro _ w86 ⟨s_8_3, q_8_3, rfl, p73, p74, hs89'⟩
          have hs89 : SH w w86 [rb] [.own Ag3 zs.length cg3 27 3 (zs.flatMap gRule), .own (some ⟨b_8_4, 0, none⟩) (([0, 80, 443] : List Int).length) 3 3 1 (([0, 80, 443] : List Int).map I), .own (some ⟨b_8_2, 0, none⟩) (([[], [46, 111, 114, 103], [111, 114, 103], [46, 49], [120, 46, 111, 114, 103], [110, 101, 116]] : List (List UInt8)).length) 6 9 1 (([[], [46, 111, 114, 103], [111, 114, 103], [46, 49], [120, 46, 111, 114, 103], [110, 101, 116]] : List (List UInt8)).map Str), .blk rb 50 [.slice Ab bs.length cb, .int .i64 ((q_8_3 : Nat) : Int)]] := hs88.callM 1 rfl hs89' (by intro k hk; simp at hk; exact hk.symm)
          clear hs89'
          refine nl (kq ⟨_, hs89, trivial⟩ ?_)
          refine a1 (i := 6) (by kernel_rfl) ?_
          refine one_ rfl ?_
          refine cl trivial rfl (pick (rb := rb) (Ab := Ab) (cb := cb) (bs := bs) (p := q_8_3) (n := 3) (w := _) (hr := (blk_heap hs89 3 rfl)) (hb := (hb.up hs89 (fun _ h => h) (fun _ h => .inl h))) (hbn := (by first | assumption | (simp; omega))) (hp := (by omega))) ?_
          rintro _ w87 ⟨r_8_6, q_8_6, rfl, p75, p76, hs90'⟩
          have hs90 : SH w w87 [rb] [.own Ag3 zs.length cg3 27 3 (zs.flatMap gRule), .own (some ⟨b_8_4, 0, none⟩) (([0, 80, 443] : List Int).length) 3 3 1 (([0, 80, 443] : List Int).map I), .own (some ⟨b_8_2, 0, none⟩) (([[], [46, 111, 114, 103], [111, 114, 103], [46, 49], [120, 46, 111, 114, 103], [110, 101, 116]] : List (List UInt8)).length) 6 9 1 (([[], [46, 111, 114, 103], [111, 114, 103], [46, 49], [120, 46, 111, 114, 103], [110, 101, 116]] : List (List UInt8)).map Str), .blk rb 50 [.slice Ab bs.length cb, .int .i64 ((q_8_6 : Nat) : Int)]] := hs89.callM 3 rfl hs90' (by intro k hk; simp at hk; exact hk.symm)
          clear hs90'
          refine nl (kq ⟨_, hs90, trivial⟩ ?_)
          refine tk (fuel := 7) (is := [7]) (.cons rfl (.nil)) (by kernel_rfl) (by kernel_rfl) ⟨_, hs90, trivial⟩ ?_
          refine .op trivial rfl rfl (fun wq _ => ixo r_8_6.toNat sl38 rfl (ieq (x := r_8_6) (by omega)) (by first | omega | (simp; omega))) ?_
          refine .nil ?_
          refine a2 (i := 8) (j := 10) (by kernel_rfl) ?_ ?_
          · refine one_ rfl ?_
            refine q trivial rfl rfl (ldo1n (g := I) (ys := ([0, 80, 443] : List Int)) (o := r_8_6.toNat) 0 hs90 1 rfl rfl (by first | omega | (simp; omega)) one3) ?_
            refine nl (kq ⟨_, hs90, trivial⟩ ?_)
            refine a1 (i := 10) (by kernel_rfl) ?_
            refine one_ rfl ?_
            refine cl trivial rfl (pick (rb := rb) (Ab := Ab) (cb := cb) (bs := bs) (p := q_8_6) (n := 3) (w := _) (hr := (blk_heap hs90 3 rfl)) (hb := (hb.up hs90 (fun _ h => h) (fun _ h => .inl h))) (hbn := (by first | assumption | (simp; omega))) (hp := (by omega))) ?_
            rintro _ w88 ⟨r_8_10, q_8_10, rfl, p77, p78, hs91'⟩
            have hs91 : SH w w88 [rb] [.own Ag3 zs.length cg3 27 3 (zs.flatMap gRule), .own (some ⟨b_8_4, 0, none⟩) (([0, 80, 443] : List Int).length) 3 3 1 (([0, 80, 443] : List Int).map I), .own (some ⟨b_8_2, 0, none⟩) (([[], [46, 111, 114, 103], [111, 114, 103], [46, 49], [120, 46, 111, 114, 103], [110, 101, 116]] : List (List UInt8)).length) 6 9 1 (([[], [46, 111, 114, 103], [111, 114, 103], [46, 49], [120, 46, 111, 114, 103], [110, 101, 116]] : List (List UInt8)).map Str), .blk rb 50 [.slice Ab bs.length cb, .int .i64 ((q_8_10 : Nat) : Int)]] := hs90.callM 3 rfl hs91' (by intro k hk; simp at hk; exact hk.symm)
            clear hs91'
            refine nl (kq ⟨_, hs91, trivial⟩ ?_)
            refine tk (fuel := 3) (is := [11, 12]) (.cons rfl (.cons rfl (.nil))) (by kernel_rfl) (by kernel_rfl) ⟨_, hs91, trivial⟩ ?_
            refine .op trivial rfl rfl (fun wq _ => gtr (k := .i64) (a := r_8_10) (b := 0) rfl rfl) ?_
            refine .op trivial rfl rfl (fun wq _ => bdv (v := .agg #[Str s_8_3, .int .i64 (([0, 80, 443] : List Int).getD r_8_6.toNat 0), .bool (decide ((0 : Int) < r_8_10))]) [(0, Str s_8_3), (1, .int .i64 (([0, 80, 443] : List Int).getD r_8_6.toNat 0)), (2, .bool (decide ((0 : Int) < r_8_10)))] rfl (fun _ => by kernel_rfl)) ?_
            refine .nil ?_
            refine a1 (i := 13) (by kernel_rfl) ?_
            refine one_ rfl ?_
            refine Go.PF.bs hs91 sl23 [(0, .agg #[Str s_8_3, .int .i64 (([0, 80, 443] : List Int).getD r_8_6.toNat 0), .bool (decide ((0 : Int) < r_8_10))])] rfl (cs := [Str s_8_3, .int .i64 (([0, 80, 443] : List Int).getD r_8_6.toNat 0), .bool (decide ((0 : Int) < r_8_10))]) (by kernel_rfl) rfl (by decide) (by decide) trivial rfl (fun b_8_13 w89 (hs92 : SH w w89 [rb] [.own Ag3 zs.length cg3 27 3 (zs.flatMap gRule), .own (some ⟨b_8_4, 0, none⟩) (([0, 80, 443] : List Int).length) 3 3 1 (([0, 80, 443] : List Int).map I), .own (some ⟨b_8_2, 0, none⟩) (([[], [46, 111, 114, 103], [111, 114, 103], [46, 49], [120, 46, 111, 114, 103], [110, 101, 116]] : List (List UInt8)).length) 6 9 1 (([[], [46, 111, 114, 103], [111, 114, 103], [46, 49], [120, 46, 111, 114, 103], [110, 101, 116]] : List (List UInt8)).map Str), .blk rb 50 [.slice Ab bs.length cb, .int .i64 ((q_8_10 : Nat) : Int)], .own (some ⟨b_8_13, 0, none⟩) (([((s_8_3, ([0, 80, 443] : List Int).getD r_8_6.toNat 0, (decide ((0 : Int) < r_8_10))) : List UInt8 × Int × Bool)] : List (List UInt8 × Int × Bool)).length) 1 27 3 (([((s_8_3, ([0, 80, 443] : List Int).getD r_8_6.toNat 0, (decide ((0 : Int) < r_8_10))) : List UInt8 × Int × Bool)] : List (List UInt8 × Int × Bool)).flatMap gRule)]) => ?_)
            refine nl (kq ⟨_, hs92, trivial⟩ ?_)
            refine a1 (i := 14) (by kernel_rfl) ?_
            refine one_ rfl ?_
            refine apf (g := gRule) (ys := zs) (zs := ([((s_8_3, ([0, 80, 443] : List Int).getD r_8_6.toNat 0, (decide ((0 : Int) < r_8_10))) : List UInt8 × Int × Bool)] : List (List UInt8 × Int × Bool))) hs92 0 rfl sl23 rfl (by decide) rfl rfl (hs92.sl0 4 rfl) (fun _ => rfl) (by unfold maxLen; first | omega | (simp; omega)) (by first | omega | (simp; omega)) trivial rfl (fun A_8_14 c_8_14 w90 (hs93 : SH w w90 [rb] [.own (some ⟨b_8_4, 0, none⟩) (([0, 80, 443] : List Int).length) 3 3 1 (([0, 80, 443] : List Int).map I), .own (some ⟨b_8_2, 0, none⟩) (([[], [46, 111, 114, 103], [111, 114, 103], [46, 49], [120, 46, 111, 114, 103], [110, 101, 116]] : List (List UInt8)).length) 6 9 1 (([[], [46, 111, 114, 103], [111, 114, 103], [46, 49], [120, 46, 111, 114, 103], [110, 101, 116]] : List (List UInt8)).map Str), .blk rb 50 [.slice Ab bs.length cb, .int .i64 ((q_8_10 : Nat) : Int)], .own (some ⟨b_8_13, 0, none⟩) (([((s_8_3, ([0, 80, 443] : List Int).getD r_8_6.toNat 0, (decide ((0 : Int) < r_8_10))) : List UInt8 × Int × Bool)] : List (List UInt8 × Int × Bool)).length) 1 27 3 (([((s_8_3, ([0, 80, 443] : List Int).getD r_8_6.toNat 0, (decide ((0 : Int) < r_8_10))) : List UInt8 × Int × Bool)] : List (List UInt8 × Int × Bool)).flatMap gRule), .own A_8_14 ((zs ++ ([((s_8_3, ([0, 80, 443] : List Int).getD r_8_6.toNat 0, (decide ((0 : Int) < r_8_10))) : List UInt8 × Int × Bool)] : List (List UInt8 × Int × Bool))).length) c_8_14 27 3 ((zs ++ ([((s_8_3, ([0, 80, 443] : List Int).getD r_8_6.toNat 0, (decide ((0 : Int) < r_8_10))) : List UInt8 × Int × Bool)] : List (List UInt8 × Int × Bool))).flatMap gRule)]) => ?_)
            refine nl (kq ⟨_, hs93, trivial⟩ ?_)
            refine tk (fuel := 0) (is := [15]) (.cons rfl (.nil)) (by kernel_rfl) (by kernel_rfl) ⟨_, hs93, trivial⟩ ?_
            refine .op trivial rfl rfl (fun wq _ => asg (v := .slice A_8_14 ((zs ++ ([((s_8_3, ([0, 80, 443] : List Int).getD r_8_6.toNat 0, (decide ((0 : Int) < r_8_10))) : List UInt8 × Int × Bool)] : List (List UInt8 × Int × Bool))).length) c_8_14) rfl) ?_
            refine .nil ?_
            refine ad (by kernel_rfl) ?_
            exact ⟨b_8_2, s_8_3, q_8_3, b_8_4, r_8_6, q_8_6, r_8_10, q_8_10, b_8_13, A_8_14, c_8_14, ⟨rfl, rfl, rfl, rfl, trivial⟩, p73, p74, p75, p76, p77, p78, (hs93.pick [1, 0, 2, 3, 4] rfl (by decide))⟩
          · refine one_ rfl ?_
            refine cl trivial rfl (pick (rb := rb) (Ab := Ab) (cb := cb) (bs := bs) (p := q_8_6) (n := 3) (w := _) (hr := (blk_heap hs90 3 rfl)) (hb := (hb.up hs90 (fun _ h => h) (fun _ h => .inl h))) (hbn := (by first | assumption | (simp; omega))) (hp := (by omega))) ?_
            rintro _ w91 ⟨r_8_10, q_8_10, rfl, p79, p80, hs94'⟩
            have hs94 : SH w w91 [rb] [.own Ag3 zs.length cg3 27 3 (zs.flatMap gRule), .own (some ⟨b_8_4, 0, none⟩) (([0, 80, 443] : List Int).length) 3 3 1 (([0, 80, 443] : List Int).map I), .own (some ⟨b_8_2, 0, none⟩) (([[], [46, 111, 114, 103], [111, 114, 103], [46, 49], [120, 46, 111, 114, 103], [110, 101, 116]] : List (List UInt8)).length) 6 9 1 (([[], [46, 111, 114, 103], [111, 114, 103], [46, 49], [120, 46, 111, 114, 103], [110, 101, 116]] : List (List UInt8)).map Str), .blk rb 50 [.slice Ab bs.length cb, .int .i64 ((q_8_10 : Nat) : Int)]] := hs90.callM 3 rfl hs94' (by intro k hk; simp at hk; exact hk.symm)
            clear hs94'
            refine nl (kq ⟨_, hs94, trivial⟩ ?_)
            refine tk (fuel := 5) (is := [11]) (.cons rfl (.nil)) (by kernel_rfl) (by kernel_rfl) ⟨_, hs94, trivial⟩ ?_
            refine .op trivial rfl rfl (fun wq _ => gtr (k := .i64) (a := r_8_10) (b := 0) rfl rfl) ?_
            refine .nil ?_
            refine a1 (i := 8) (by kernel_rfl) ?_
            refine one_ rfl ?_
            refine q trivial rfl rfl (ldo1n (g := I) (ys := ([0, 80, 443] : List Int)) (o := r_8_6.toNat) 0 hs94 1 rfl rfl (by first | omega | (simp; omega)) one3) ?_
            refine nl (kq ⟨_, hs94, trivial⟩ ?_)
            refine tk (fuel := 3) (is := [12]) (.cons rfl (.nil)) (by kernel_rfl) (by kernel_rfl) ⟨_, hs94, trivial⟩ ?_
            refine .op trivial rfl rfl (fun wq _ => bdv (v := .agg #[Str s_8_3, .int .i64 (([0, 80, 443] : List Int).getD r_8_6.toNat 0), .bool (decide ((0 : Int) < r_8_10))]) [(0, Str s_8_3), (1, .int .i64 (([0, 80, 443] : List Int).getD r_8_6.toNat 0)), (2, .bool (decide ((0 : Int) < r_8_10)))] rfl (fun _ => by kernel_rfl)) ?_
            refine .nil ?_
            refine a1 (i := 13) (by kernel_rfl) ?_
            refine one_ rfl ?_
            refine Go.PF.bs hs94 sl23 [(0, .agg #[Str s_8_3, .int .i64 (([0, 80, 443] : List Int).getD r_8_6.toNat 0), .bool (decide ((0 : Int) < r_8_10))])] rfl (cs := [Str s_8_3, .int .i64 (([0, 80, 443] : List Int).getD r_8_6.toNat 0), .bool (decide ((0 : Int) < r_8_10))]) (by kernel_rfl) rfl (by decide) (by decide) trivial rfl (fun b_8_13 w92 (hs95 : SH w w92 [rb] [.own Ag3 zs.length cg3 27 3 (zs.flatMap gRule), .own (some ⟨b_8_4, 0, none⟩) (([0, 80, 443] : List Int).length) 3 3 1 (([0, 80, 443] : List Int).map I), .own (some ⟨b_8_2, 0, none⟩) (([[], [46, 111, 114, 103], [111, 114, 103], [46, 49], [120, 46, 111, 114, 103], [110, 101, 116]] : List (List UInt8)).length) 6 9 1 (([[], [46, 111, 114, 103], [111, 114, 103], [46, 49], [120, 46, 111, 114, 103], [110, 101, 116]] : List (List UInt8)).map Str), .blk rb 50 [.slice Ab bs.length cb, .int .i64 ((q_8_10 : Nat) : Int)], .own (some ⟨b_8_13, 0, none⟩) (([((s_8_3, ([0, 80, 443] : List Int).getD r_8_6.toNat 0, (decide ((0 : Int) < r_8_10))) : List UInt8 × Int × Bool)] : List (List UInt8 × Int × Bool)).length) 1 27 3 (([((s_8_3, ([0, 80, 443] : List Int).getD r_8_6.toNat 0, (decide ((0 : Int) < r_8_10))) : List UInt8 × Int × Bool)] : List (List UInt8 × Int × Bool)).flatMap gRule)]) => ?_)
            refine nl (kq ⟨_, hs95, trivial⟩ ?_)
            refine a1 (i := 14) (by kernel_rfl) ?_
            refine one_ rfl ?_
            refine apf (g := gRule) (ys := zs) (zs := ([((s_8_3, ([0, 80, 443] : List Int).getD r_8_6.toNat 0, (decide ((0 : Int) < r_8_10))) : List UInt8 × Int × Bool)] : List (List UInt8 × Int × Bool))) hs95 0 rfl sl23 rfl (by decide) rfl rfl (hs95.sl0 4 rfl) (fun _ => rfl) (by unfold maxLen; first | omega | (simp; omega)) (by first | omega | (simp; omega)) trivial rfl (fun A_8_14 c_8_14 w93 (hs96 : SH w w93 [rb] [.own (some ⟨b_8_4, 0, none⟩) (([0, 80, 443] : List Int).length) 3 3 1 (([0, 80, 443] : List Int).map I), .own (some ⟨b_8_2, 0, none⟩) (([[], [46, 111, 114, 103], [111, 114, 103], [46, 49], [120, 46, 111, 114, 103], [110, 101, 116]] : List (List UInt8)).length) 6 9 1 (([[], [46, 111, 114, 103], [111, 114, 103], [46, 49], [120, 46, 111, 114, 103], [110, 101, 116]] : List (List UInt8)).map Str), .blk rb 50 [.slice Ab bs.length cb, .int .i64 ((q_8_10 : Nat) : Int)], .own (some ⟨b_8_13, 0, none⟩) (([((s_8_3, ([0, 80, 443] : List Int).getD r_8_6.toNat 0, (decide ((0 : Int) < r_8_10))) : List UInt8 × Int × Bool)] : List (List UInt8 × Int × Bool)).length) 1 27 3 (([((s_8_3, ([0, 80, 443] : List Int).getD r_8_6.toNat 0, (decide ((0 : Int) < r_8_10))) : List UInt8 × Int × Bool)] : List (List UInt8 × Int × Bool)).flatMap gRule), .own A_8_14 ((zs ++ ([((s_8_3, ([0, 80, 443] : List Int).getD r_8_6.toNat 0, (decide ((0 : Int) < r_8_10))) : List UInt8 × Int × Bool)] : List (List UInt8 × Int × Bool))).length) c_8_14 27 3 ((zs ++ ([((s_8_3, ([0, 80, 443] : List Int).getD r_8_6.toNat 0, (decide ((0 : Int) < r_8_10))) : List UInt8 × Int × Bool)] : List (List UInt8 × Int × Bool))).flatMap gRule)]) => ?_)
            refine nl (kq ⟨_, hs96, trivial⟩ ?_)
            refine tk (fuel := 0) (is := [15]) (.cons rfl (.nil)) (by kernel_rfl) (by kernel_rfl) ⟨_, hs96, trivial⟩ ?_
            refine .op trivial rfl rfl (fun wq _ => asg (v := .slice A_8_14 ((zs ++ ([((s_8_3, ([0, 80, 443] : List Int).getD r_8_6.toNat 0, (decide ((0 : Int) < r_8_10))) : List UInt8 × Int × Bool)] : List (List UInt8 × Int × Bool))).length) c_8_14) rfl) ?_
            refine .nil ?_
            refine ad (by kernel_rfl) ?_
            exact ⟨b_8_2, s_8_3, q_8_3, b_8_4, r_8_6, q_8_6, r_8_10, q_8_10, b_8_13, A_8_14, c_8_14, ⟨rfl, rfl, rfl, rfl, trivial⟩, p73, p74, p75, p76, p79, p80, (hs96.pick [1, 0, 2, 3, 4] rfl (by decide))⟩
      rintro f w94 ⟨b_8_2, s_8_3, q_8_3, b_8_4, r_8_6, q_8_6, r_8_10, q_8_10, b_8_13, A_8_14, c_8_14, hf, p81, p82, p83, p84, p85, p86, hs97⟩
      obtain ⟨g4, rfl⟩ := has_upd hf
      clear hf
      refine bN ?_
      refine nN ?_
      have hs98 : SH w w94 [rb] [.blk rb 50 [.slice Ab bs.length cb, .int .i64 ((q_8_10 : Nat) : Int)], .own A_8_14 ((zs ++ ([((s_8_3, ([0, 80, 443] : List Int).getD r_8_6.toNat 0, (decide ((0 : Int) < r_8_10))) : List UInt8 × Int × Bool)] : List (List UInt8 × Int × Bool))).length) c_8_14 27 3 ((zs ++ ([((s_8_3, ([0, 80, 443] : List Int).getD r_8_6.toNat 0, (decide ((0 : Int) < r_8_10))) : List UInt8 × Int × Bool)] : List (List UInt8 × Int × Bool))).flatMap gRule)] := hs97.pick [2, 4] rfl (by decide)
      refine rg ?_
      refine q trivial rfl rfl (mv (v := .int .i64 ((k : Nat) : Int)) rfl) ?_
      refine q trivial rfl rfl (add (a := ((k : Nat) : Int)) (b := 1) rfl rfl (by exact ⟨by omega, by omega⟩)) ?_
      refine q trivial rfl rfl (asg (v := .int .i64 (((k : Nat) : Int) + 1)) rfl) ?_
      refine nl ?_
      refine nN ?_
      refine ⟨(A_8_14, c_8_14, q_8_10, k + 1, (zs ++ ([((s_8_3, ([0, 80, 443] : List Int).getD r_8_6.toNat 0, (decide ((0 : Int) < r_8_10))) : List UInt8 × Int × Bool)] : List (List UInt8 × Int × Bool)))), ⟨⟨rfl, rfl, rfl, rfl, trivial⟩, (by omega), (by simp; omega), (rules_app he (words5 (by assumption))), (by omega), (hs98.pick [1, 0] rfl (by decide))⟩, ?_⟩
      show 7 - (k + 1) < 7 - k
      omega
    · refine ex (tE (tE (bE ?_)))
      refine nN ?_
      refine sq ?_
      refine sq ?_
      refine rg ?_
      refine q trivial rfl rfl (mv (v := .int .i64 r1) rfl) ?_
      refine q trivial rfl rfl (gtr (k := .i64) (a := r1) (b := 0) rfl rfl) ?_
      refine q trivial rfl rfl (mv (v := .bool (decide ((0 : Int) < r1))) rfl) ?_
      refine spd (p := (0 : Int) < r1) 37 rfl (fun h6 => ?_) (fun h6 => ?_)
      · refine q ⟨_, rfl, rfl⟩ rfl rfl (mv (v := .pointer (some ⟨rb, 0, none⟩)) rfl) ?_
        refine cl ⟨_, rfl, rfl⟩ rfl (pick (rb := rb) (Ab := Ab) (cb := cb) (bs := bs) (p := q0) (n := 24) (w := _) (hr := (blk_heap hs54 1 rfl)) (hb := (hb.up hs54 (fun _ h => h) (fun _ h => .inl h))) (hbn := (by first | assumption | (simp; omega))) (hp := (by omega))) ?_
        rintro _ w95 ⟨r5, q6, rfl, p87, p88, hs99'⟩
        have hs99 : SH w w95 [rb] [.own Ag3 zs.length cg3 27 3 (zs.flatMap gRule), .blk rb 50 [.slice Ab bs.length cb, .int .i64 ((q6 : Nat) : Int)]] := hs54.callM 1 rfl hs99' (by intro k hk; simp at hk; exact hk.symm)
        clear hs99'
        refine q ⟨_, rfl, rfl⟩ rfl rfl (eqi (k := .i64) (a := r5) (b := 0) rfl rfl) ?_
        refine q trivial rfl rfl (pt (v := .bool (decide (r5 = 0))) rfl rfl) ?_
        refine nl ?_
        refine nN ?_
        refine cdd (p := r5 = 0) rfl (fun h7 => ?_) (fun h7 => ?_)
        · refine rg ?_
          refine q trivial rfl rfl (mv (v := .slice Ag3 zs.length cg3) rfl) ?_
          refine q trivial rfl rfl (mv (v := .pointer (some ⟨rb, 0, none⟩)) rfl) ?_
          refine Go.PF.bs hs99 sl52 [(0, Str [65]), (1, Str [97, 32, 98])] rfl (cs := [Str [65], Str [97, 32, 98]]) (by kernel_rfl) rfl (by decide) (by decide) trivial rfl (fun b4 w96 (hs100 : SH w w96 [rb] [.own Ag3 zs.length cg3 27 3 (zs.flatMap gRule), .blk rb 50 [.slice Ab bs.length cb, .int .i64 ((q6 : Nat) : Int)], .own (some ⟨b4, 0, none⟩) (([[65], [97, 32, 98]] : List (List UInt8)).length) 2 9 1 (([[65], [97, 32, 98]] : List (List UInt8)).map Str)]) => ?_)
          refine cl trivial rfl (rdOf (rb := rb) (Ab := Ab) (cb := cb) (bs := bs) (p := q6) (Ass := (some ⟨b4, 0, none⟩)) (css := 2) (ss := ([[65], [97, 32, 98]] : List (List UInt8))) (w := _) (hr := (blk_heap hs100 1 rfl)) (hb := (hb.up hs100 (fun _ h => h) (fun _ h => .inl h))) (hbn := (by first | assumption | (simp; omega))) (hp := (by omega)) (hss := (hs100.sl 2 rfl (by intro k hk; simp at hk; subst hk; exact ⟨_, memi 1 rfl, rfl⟩))) (hne := (by first | omega | assumption | (simp; done) | (simp; omega)))) ?_
          rintro _ w97 ⟨s2, q7, rfl, p89, p90, hs101'⟩
          have hs101 : SH w w97 [rb] [.own Ag3 zs.length cg3 27 3 (zs.flatMap gRule), .own (some ⟨b4, 0, none⟩) (([[65], [97, 32, 98]] : List (List UInt8)).length) 2 9 1 (([[65], [97, 32, 98]] : List (List UInt8)).map Str), .blk rb 50 [.slice Ab bs.length cb, .int .i64 ((q7 : Nat) : Int)]] := hs100.callM 1 rfl hs101' (by intro k hk; simp at hk; exact hk.symm)
          clear hs101'
          obtain ⟨b5, rfl⟩ := own_form hs101 0 rfl (by first | omega | (simp; omega))
          refine q trivial rfl rfl (ixo 0 sl23 rfl rfl (by first | omega | (simp; omega))) ?_
          refine q trivial rfl rfl (fa 0 fo27_0 rfl) ?_
          refine stoff (g := gRule) (ys := zs) (o := 0) (off := 0) (u := ((s2, (zs.getD 0 rule0).2.1, ((zs.getD 0 rule0).2.2)) : List UInt8 × Int × Bool)) (v := Str s2) rule0 (fun _ => rfl) hs101 0 rfl rfl rfl (by first | omega | (simp; omega)) (by first | omega | (simp; omega)) rfl rfl rfl one9 trivial (fun w98 (hs102 : SH w w98 [rb] [.own (some ⟨b4, 0, none⟩) (([[65], [97, 32, 98]] : List (List UInt8)).length) 2 9 1 (([[65], [97, 32, 98]] : List (List UInt8)).map Str), .blk rb 50 [.slice Ab bs.length cb, .int .i64 ((q7 : Nat) : Int)], .own (some ⟨b5, 0, none⟩) zs.length cg3 27 3 ((zs.set 0 ((s2, (zs.getD 0 rule0).2.1, ((zs.getD 0 rule0).2.2)) : List UInt8 × Int × Bool)).flatMap gRule)]) => ?_)
          refine nl ?_
          refine nN ?_
          refine sq ?_
          refine rg ?_
          refine q trivial rfl rfl (mv (v := .slice (some ⟨b5, 0, none⟩) zs.length cg3) rfl) ?_
          refine q trivial rfl rfl (asg (v := .slice (some ⟨b5, 0, none⟩) zs.length cg3) rfl) ?_
          refine nl ?_
          refine nN ?_
          refine rt ?_
          refine fret (v := .slice (some ⟨b5, 0, none⟩) zs.length cg3) (.tmp .nil) rfl ?_
          have e2 : zs.length = (zs.set 0 ((s2, (zs.getD 0 rule0).2.1, ((zs.getD 0 rule0).2.2)) : List UInt8 × Int × Bool)).length := by first | rfl | (simp; done) | (simp; omega) | omega
          exact ⟨(some ⟨b5, 0, none⟩), cg3, zs.set 0 ((s2, (zs.getD 0 rule0).2.1, ((zs.getD 0 rule0).2.2)) : List UInt8 × Int × Bool), q7, (slv rfl e2 rfl), (by first | omega | (simp; omega)), (by first | assumption | exact rules_set he (words2 (by assumption))), (by omega), ((hs102.pick [1, 2] rfl (by decide)).cast (lc rfl (lc (own_eqf (g := gRule) rfl e2 rfl rfl) rfl)))⟩
        · refine sk ?_
          refine nN ?_
          refine sq ?_
          refine rg ?_
          refine q trivial rfl rfl (mv (v := .slice Ag3 zs.length cg3) rfl) ?_
          refine q trivial rfl rfl (asg (v := .slice Ag3 zs.length cg3) rfl) ?_
          refine nl ?_
          refine nN ?_
          refine rt ?_
          refine fret (v := .slice Ag3 zs.length cg3) (.tmp .nil) rfl ?_
          exact ⟨Ag3, cg3, zs, q6, rfl, (by first | omega | (simp; omega)), (by first | assumption | exact rules_set he (words2 (by assumption))), (by omega), (hs99.pick [1, 0] rfl (by decide))⟩
      · refine gk false rfl rfl rfl rfl rfl ?_
        refine gk false rfl rfl rfl rfl rfl ?_
        refine gk false rfl rfl rfl rfl rfl ?_
        refine q trivial rfl rfl (pf (v := .bool false) rfl rfl) ?_
        refine nl ?_
        refine nN ?_
        refine cdf rfl ?_
        refine sk ?_
        refine nN ?_
        refine sq ?_
        refine rg ?_
        refine q trivial rfl rfl (mv (v := .slice Ag3 zs.length cg3) rfl) ?_
        refine q trivial rfl rfl (asg (v := .slice Ag3 zs.length cg3) rfl) ?_
        refine nl ?_
        refine nN ?_
        refine rt ?_
        refine fret (v := .slice Ag3 zs.length cg3) (.tmp .nil) rfl ?_
        exact ⟨Ag3, cg3, zs, q0, rfl, (by first | omega | (simp; omega)), (by first | assumption | exact rules_set he (words2 (by assumption))), (by omega), (hs54.pick [1, 0] rfl (by decide))⟩

theorem drawRulesValid {Acs : Option Addr} {ccs : Nat} (cs : List UInt8) (w : World) (hcs : Sl w [] 1 Acs cs.length ccs (cs.map U)) : Does Try.prog 5 [.slice Acs cs.length ccs] w (fun v w' => ∃ Ar : Option Addr, ∃ cr : Nat, ∃ r : List (List UInt8 × Int × Bool), v = .slice Ar r.length cr ∧ (r.length ≤ 7) ∧ ((∀ u ∈ r, u.1.length ≤ 5)) ∧ SH w w' [] [.own Ar r.length cr 27 3 (r.flatMap gRule)]) := by
  refine fn_enter (N := 30) Try.func5 rfl (by kernel_rfl) rfl rfl rfl ?_
  have hs0 : SH w w [] [] := SH.refl w []
  have hcs_m : cs.length ≤ 9223372036854775807 := Nat.le_trans hcs.cap hcs.capMax
  refine sq ?_
  refine rg ?_
  refine q trivial rfl rfl (asg (v := .slice none 0 0) rfl) ?_
  refine nl ?_
  refine nN ?_
  refine sq ?_
  refine rg ?_
  refine q trivial rfl rfl (mv (v := .slice Acs cs.length ccs) rfl) ?_
  refine cl trivial rfl (l6Open (Acs := Acs) (ccs := ccs) (cs := cs) (w := _) (hcs := (hcs.up0 hs0))) ?_
  rintro _ w1 ⟨g1, rfl, hs1'⟩
  have hs1 : SH w w1 [] [.blk g1 50 [.slice Acs ((cs.take 2000).length) ccs, .int .i64 0]] := hs0.call0 hs1'
  clear hs1'
  refine q trivial rfl rfl (asg (v := .pointer (some ⟨g1, 0, none⟩)) rfl) ?_
  refine nl ?_
  refine nN ?_
  refine sq ?_
  refine rg ?_
  refine q trivial rfl rfl (mv (v := .pointer (some ⟨g1, 0, none⟩)) rfl) ?_
  refine cl trivial rfl (l92Rules (rb := g1) (Ab := Acs) (cb := ccs) (bs := cs.take 2000) (p := 0) (w := _) (hr := (blk_heap hs1 0 rfl)) (hb := (Sl.take_ (hcs.up hs1 (by simp) (fun k h => .inr (hs1.lo1 0 rfl k h))) 2000)) (hbn := (by first | assumption | (simp; omega))) (hp := (by omega))) ?_
  rintro _ w2 ⟨A1, c1, r1, q1, rfl, p1, p2, p3, hs2'⟩
  have hs2 : SH w w2 [] [.blk g1 50 [.slice Acs ((cs.take 2000).length) ccs, .int .i64 ((q1 : Nat) : Int)], .own A1 r1.length c1 27 3 (r1.flatMap gRule)] := hs1.callM 0 rfl hs2' (by intro k hk; simp at hk; exact hk.symm)
  clear hs2'
  refine q trivial rfl rfl (asg (v := .slice A1 r1.length c1) rfl) ?_
  refine nl ?_
  refine nN ?_
  refine sq ?_
  refine sq ?_
  refine rg ?_
  refine q trivial rfl rfl (mv (v := .slice A1 r1.length c1) rfl) ?_
  refine q trivial rfl rfl (lnA (n := r1.length) sl23 rfl) ?_
  refine q trivial rfl rfl (gtr (k := .i64) (a := ((r1.length : Nat) : Int)) (b := 0) rfl rfl) ?_
  refine q trivial rfl rfl (mv (v := .bool (decide ((0 : Int) < ((r1.length : Nat) : Int)))) rfl) ?_
  refine spd (p := (0 : Int) < ((r1.length : Nat) : Int)) 12 rfl (fun h1 => ?_) (fun h1 => ?_)
  · refine q ⟨_, rfl, rfl⟩ rfl rfl (mv (v := .pointer (some ⟨g1, 0, none⟩)) rfl) ?_
    refine cl ⟨_, rfl, rfl⟩ rfl (pick (rb := g1) (Ab := Acs) (cb := ccs) (bs := cs.take 2000) (p := q1) (n := 8) (w := _) (hr := (blk_heap hs2 0 rfl)) (hb := (Sl.take_ (hcs.up hs2 (by simp) (fun k h => .inr (hs2.lo1 0 rfl k h))) 2000)) (hbn := (by first | assumption | (simp; omega))) (hp := (by omega))) ?_
    rintro _ w3 ⟨r2, q2, rfl, p4, p5, hs3'⟩
    have hs3 : SH w w3 [] [.own A1 r1.length c1 27 3 (r1.flatMap gRule), .blk g1 50 [.slice Acs ((cs.take 2000).length) ccs, .int .i64 ((q2 : Nat) : Int)]] := hs2.callM 0 rfl hs3' (by intro k hk; simp at hk; exact hk.symm)
    clear hs3'
    refine q ⟨_, rfl, rfl⟩ rfl rfl (eqi (k := .i64) (a := r2) (b := 0) rfl rfl) ?_
    refine q trivial rfl rfl (pt (v := .bool (decide (r2 = 0))) rfl rfl) ?_
    refine nl ?_
    refine nN ?_
    refine cdd (p := r2 = 0) rfl (fun h2 => ?_) (fun h2 => ?_)
    · refine rg ?_
      refine q trivial rfl rfl (mv (v := .slice A1 r1.length c1) rfl) ?_
      refine q trivial rfl rfl (mv (v := .pointer (some ⟨g1, 0, none⟩)) rfl) ?_
      refine q trivial rfl rfl (mv (v := .slice A1 r1.length c1) rfl) ?_
      refine q trivial rfl rfl (lnA (n := r1.length) sl23 rfl) ?_
      refine cl trivial rfl (pick (rb := g1) (Ab := Acs) (cb := ccs) (bs := cs.take 2000) (p := q2) (n := ((r1.length : Nat) : Int)) (w := _) (hr := (blk_heap hs3 1 rfl)) (hb := (Sl.take_ (hcs.up hs3 (by simp) (fun k h => .inr (hs3.lo1 1 rfl k h))) 2000)) (hbn := (by first | assumption | (simp; omega))) (hp := (by omega))) ?_
      rintro _ w4 ⟨r3, q3, rfl, p6, p7, hs4'⟩
      have hs4 : SH w w4 [] [.own A1 r1.length c1 27 3 (r1.flatMap gRule), .blk g1 50 [.slice Acs ((cs.take 2000).length) ccs, .int .i64 ((q3 : Nat) : Int)]] := hs3.callM 1 rfl hs4' (by intro k hk; simp at hk; exact hk.symm)
      clear hs4'
      refine Go.PF.bs hs4 sl38 [(0, .int .i64 (-1)), (1, .int .i64 65535), (2, .int .i64 65536)] rfl (cs := [.int .i64 (-1), .int .i64 65535, .int .i64 65536]) (by kernel_rfl) rfl (by decide) (by decide) trivial rfl (fun b1 w5 (hs5 : SH w w5 [] [.own A1 r1.length c1 27 3 (r1.flatMap gRule), .blk g1 50 [.slice Acs ((cs.take 2000).length) ccs, .int .i64 ((q3 : Nat) : Int)], .own (some ⟨b1, 0, none⟩) (([(-1), 65535, 65536] : List Int).length) 3 3 1 (([(-1), 65535, 65536] : List Int).map I)]) => ?_)
      refine q trivial rfl rfl (mv (v := .pointer (some ⟨g1, 0, none⟩)) rfl) ?_
      refine cl trivial rfl (pick (rb := g1) (Ab := Acs) (cb := ccs) (bs := cs.take 2000) (p := q3) (n := 3) (w := _) (hr := (blk_heap hs5 1 rfl)) (hb := (Sl.take_ (hcs.up hs5 (by simp) (fun k h => .inr (hs5.lo1 1 rfl k h))) 2000)) (hbn := (by first | assumption | (simp; omega))) (hp := (by omega))) ?_
      rintro _ w6 ⟨r4, q4, rfl, p8, p9, hs6'⟩
      have hs6 : SH w w6 [] [.own A1 r1.length c1 27 3 (r1.flatMap gRule), .own (some ⟨b1, 0, none⟩) (([(-1), 65535, 65536] : List Int).length) 3 3 1 (([(-1), 65535, 65536] : List Int).map I), .blk g1 50 [.slice Acs ((cs.take 2000).length) ccs, .int .i64 ((q4 : Nat) : Int)]] := hs5.callM 1 rfl hs6' (by intro k hk; simp at hk; exact hk.symm)
      clear hs6'
      refine q trivial rfl rfl (ixo r4.toNat sl38 rfl (ieq (x := r4) (by omega)) (by first | omega | (simp; omega))) ?_
      refine q trivial rfl rfl (ldo1n (g := I) (ys := ([(-1), 65535, 65536] : List Int)) (o := r4.toNat) 0 hs6 1 rfl rfl (by first | omega | (simp; omega)) one3) ?_
      obtain ⟨b2, rfl⟩ := own_form hs6 0 rfl (by first | omega | (simp; omega))
      refine q trivial rfl rfl (ixo r3.toNat sl23 rfl (ieq (x := r3) (by omega)) (by first | omega | (simp; omega))) ?_
      refine q trivial rfl rfl (fa 1 fo27_1 rfl) ?_
      refine stoff (g := gRule) (ys := r1) (o := r3.toNat) (off := 1) (u := (((r1.getD r3.toNat rule0).1, ([(-1), 65535, 65536] : List Int).getD r4.toNat 0, ((r1.getD r3.toNat rule0).2.2)) : List UInt8 × Int × Bool)) (v := .int .i64 (([(-1), 65535, 65536] : List Int).getD r4.toNat 0)) rule0 (fun _ => rfl) hs6 0 rfl rfl rfl (by first | omega | (simp; omega)) (by first | omega | (simp; omega)) rfl rfl rfl one3 trivial (fun w7 (hs7 : SH w w7 [] [.own (some ⟨b1, 0, none⟩) (([(-1), 65535, 65536] : List Int).length) 3 3 1 (([(-1), 65535, 65536] : List Int).map I), .blk g1 50 [.slice Acs ((cs.take 2000).length) ccs, .int .i64 ((q4 : Nat) : Int)], .own (some ⟨b2, 0, none⟩) r1.length c1 27 3 ((r1.set r3.toNat (((r1.getD r3.toNat rule0).1, ([(-1), 65535, 65536] : List Int).getD r4.toNat 0, ((r1.getD r3.toNat rule0).2.2)) : List UInt8 × Int × Bool)).flatMap gRule)]) => ?_)
      refine nl ?_
      refine nN ?_
      refine sq ?_
      refine rg ?_
      refine q trivial rfl rfl (mv (v := .slice (some ⟨b2, 0, none⟩) r1.length c1) rfl) ?_
      refine q trivial rfl rfl (asg (v := .slice (some ⟨b2, 0, none⟩) r1.length c1) rfl) ?_
      refine nl ?_
      refine nN ?_
      refine rt ?_
      refine fret (v := .slice (some ⟨b2, 0, none⟩) r1.length c1) (.tmp .nil) rfl ?_
      have e1 : r1.length = (r1.set r3.toNat (((r1.getD r3.toNat rule0).1, ([(-1), 65535, 65536] : List Int).getD r4.toNat 0, ((r1.getD r3.toNat rule0).2.2)) : List UInt8 × Int × Bool)).length := by first | rfl | (simp; done) | (simp; omega) | omega
      exact ⟨(some ⟨b2, 0, none⟩), c1, r1.set r3.toNat (((r1.getD r3.toNat rule0).1, ([(-1), 65535, 65536] : List Int).getD r4.toNat 0, ((r1.getD r3.toNat rule0).2.2)) : List UInt8 × Int × Bool), (slv rfl e1 rfl), (by first | omega | (simp; omega)), (by first | assumption | exact rules_set p2 (rules_at p2)), ((hs7.pick [2] rfl (by decide)).cast (lc (own_eqf (g := gRule) rfl e1 rfl rfl) rfl))⟩
    · refine sk ?_
      refine nN ?_
      refine sq ?_
      refine rg ?_
      refine q trivial rfl rfl (mv (v := .slice A1 r1.length c1) rfl) ?_
      refine q trivial rfl rfl (asg (v := .slice A1 r1.length c1) rfl) ?_
      refine nl ?_
      refine nN ?_
      refine rt ?_
      refine fret (v := .slice A1 r1.length c1) (.tmp .nil) rfl ?_
      exact ⟨A1, c1, r1, rfl, (by first | omega | (simp; omega)), (by first | assumption | exact rules_set p2 (rules_at p2)), (hs3.pick [0] rfl (by decide))⟩
  · refine gk false rfl rfl rfl rfl rfl ?_
    refine gk false rfl rfl rfl rfl rfl ?_
    refine gk false rfl rfl rfl rfl rfl ?_
    refine q trivial rfl rfl (pf (v := .bool false) rfl rfl) ?_
    refine nl ?_
    refine nN ?_
    refine cdf rfl ?_
    refine sk ?_
    refine nN ?_
    refine sq ?_
    refine rg ?_
    refine q trivial rfl rfl (mv (v := .slice A1 r1.length c1) rfl) ?_
    refine q trivial rfl rfl (asg (v := .slice A1 r1.length c1) rfl) ?_
    refine nl ?_
    refine nN ?_
    refine rt ?_
    refine fret (v := .slice A1 r1.length c1) (.tmp .nil) rfl ?_
    exact ⟨A1, c1, r1, rfl, (by first | omega | (simp; omega)), (by first | assumption | exact rules_set p2 (rules_at p2)), (hs2.pick [1] rfl (by decide))⟩


end Go.Proofs.Ytaclnkdhmfkgcaa
