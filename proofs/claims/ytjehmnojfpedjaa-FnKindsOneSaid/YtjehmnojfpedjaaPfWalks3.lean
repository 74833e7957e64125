/-
  Part of the proofs over this seat: what each function of the program computes, function by function (the text is written by a program of this hand-in's own).
  Conditions: each theorem states its own.
-/
import Derived.Test.YtjehmnojfpedjaaPfWalks2
namespace Go.Proofs.Ytjehmnojfpedjaa
open Go.PF
set_option maxRecDepth 100000
set_option linter.unusedSimpArgs false
set_option linter.unusedVariables false

theorem sLineText (ka : Int) {Aqa : Option Addr} {cqa : Nat} (qa : List Int) (na : List UInt8) (pa : Int) (kb : Int) {Aqb : Option Addr} {cqb : Nat} (qb : List Int) (nb : List UInt8) (pb : Int) (w : World) (hqa : Sl w [] 1 Aqa qa.length cqa (qa.map I)) (hna_n : na.length ≤ 1099511627776) (hqb : Sl w [] 1 Aqb qb.length cqb (qb.map I)) (hnb_n : nb.length ≤ 1099511627776) : Does Try.prog 41 [.agg #[I ka, .slice Aqa qa.length cqa, Str na, I pa, I kb, .slice Aqb qb.length cqb, Str nb, I pb]] w (fun v w' => ∃ r : List UInt8, v = Str r ∧ (r.length ≤ 100) ∧ SH w w' [] []) := by
 refine fn_enter (N := 8) Try.func41 rfl (by kernel_rfl) rfl rfl rfl ?_
 have hs0 : SH w w [] [] := SH.refl w []
 have hqa_m : qa.length ≤ 9223372036854775807 := Nat.le_trans hqa.cap hqa.capMax
 have hqb_m : qb.length ≤ 9223372036854775807 := Nat.le_trans hqb.cap hqb.capMax
 refine sq ?_
 refine rg ?_
 refine bx (v := .agg #[I ka, .slice Aqa qa.length cqa, Str na, I pa, I kb, .slice Aqb qb.length cqb, Str nb, I pb]) (cs := [I ka, .slice Aqa qa.length cqa, Str na, I pa, I kb, .slice Aqb qb.length cqb, Str nb, I pb]) hs0 rfl rfl trivial rfl (fun b1 w1 (hs1 : SH w w1 [] [.blk b1 61 [I ka, .slice Aqa qa.length cqa, Str na, I pa, I kb, .slice Aqb qb.length cqb, Str nb, I pb]]) => ?_)
 refine q trivial rfl rfl (asg (v := Str []) rfl) ?_
 refine nl ?_
 refine nN ?_
 refine sq ?_
 refine sq ?_
 refine rg ?_
 refine q trivial rfl rfl (ldg (vs := [I ka, .slice Aqa qa.length cqa, Str na, I pa, I kb, .slice Aqb qb.length cqb, Str nb, I pb]) hs1 0 rfl rfl rfl rfl ag61) ?_
 refine cl trivial rfl (sPairValid (ka := ka) (Aqa := Aqa) (cqa := cqa) (qa := qa) (na := na) (pa := pa) (kb := kb) (Aqb := Aqb) (cqb := cqb) (qb := qb) (nb := nb) (pb := pb) (w := _) (hqa := (hqa.up0 hs1)) (hna_n := (by first | omega | (simp; done) | (simp; omega))) (hqb := (hqb.up0 hs1)) (hnb_n := (by first | omega | (simp; done) | (simp; omega)))) ?_
 rintro _ w2 ⟨rfl, hs2'⟩
 have hs2 : SH w w2 [] [.blk b1 61 [I ka, .slice Aqa qa.length cqa, Str na, I pa, I kb, .slice Aqb qb.length cqb, Str nb, I pb]] := hs1.call0 hs2'
 clear hs2'
 refine q trivial rfl rfl (nt (b := pairB ka qa na pa kb qb nb pb) rfl) ?_
 refine nl ?_
 refine nN ?_
 refine cd (b := !(pairB ka qa na pa kb qb nb pb)) rfl (fun h1 => ?_) (fun h1 => ?_)
 · have h2 : (pairB ka qa na pa kb qb nb pb) = false := by simpa using h1
   refine sq ?_
   refine rg ?_
   refine q trivial rfl rfl (asg (v := Str []) rfl) ?_
   refine nl ?_
   refine nN ?_
   refine rt (tR ?_)
   refine fret (v := Str []) (.tmp .nil) rfl ?_
   exact ⟨[], rfl, (by first | assumption | (simp; done)), (hs2.pick [] rfl (by decide))⟩
 · have h3 : (pairB ka qa na pa kb qb nb pb) = true := by simpa using h1
   refine sk ?_
   refine nN ?_
   refine sq ?_
   refine rg ?_
   refine q trivial rfl rfl (ldg (vs := [I ka, .slice Aqa qa.length cqa, Str na, I pa, I kb, .slice Aqb qb.length cqb, Str nb, I pb]) hs2 0 rfl rfl rfl rfl ag61) ?_
   refine cl trivial rfl (sL15Line (ka := ka) (Aqa := Aqa) (cqa := cqa) (qa := qa) (na := na) (pa := pa) (kb := kb) (Aqb := Aqb) (cqb := cqb) (qb := qb) (nb := nb) (pb := pb) (w := _) (hqa := (hqa.up0 hs2)) (hna_n := (by first | omega | (simp; done) | (simp; omega))) (hqb := (hqb.up0 hs2)) (hnb_n := (by first | omega | (simp; done) | (simp; omega))) (ho := (by exact pairB_y (by assumption)))) ?_
   rintro _ w3 ⟨r1, rfl, p1, hs3'⟩
   have hs3 : SH w w3 [] [.blk b1 61 [I ka, .slice Aqa qa.length cqa, Str na, I pa, I kb, .slice Aqb qb.length cqb, Str nb, I pb]] := hs2.call0 hs3'
   clear hs3'
   refine q trivial rfl rfl (asg (v := Str r1) rfl) ?_
   refine nl ?_
   refine nN ?_
   refine rt ?_
   refine fret (v := Str r1) (.tmp .nil) rfl ?_
   exact ⟨r1, rfl, (by first | assumption | (simp; done)), (hs3.pick [] rfl (by decide))⟩

set_option maxHeartbeats 8000000 in
theorem sHeadBytes (ka : Int) {Aqa : Option Addr} {cqa : Nat} (qa : List Int) (na : List UInt8) (pa : Int) (kb : Int) {Aqb : Option Addr} {cqb : Nat} (qb : List Int) (nb : List UInt8) (pb : Int) {Atg : Option Addr} {ctg : Nat} (tg : List (Int × Int)) (w : World) (hqa : Sl w [] 1 Aqa qa.length cqa (qa.map I)) (hna_n : na.length ≤ 1099511627776) (hqb : Sl w [] 1 Aqb qb.length cqb (qb.map I)) (hnb_n : nb.length ≤ 1099511627776) (htg : Sl w [] 2 Atg tg.length ctg (tg.flatMap gTag)) (h0g : tg.length = 0) : Does Try.prog 43 [.agg #[I ka, .slice Aqa qa.length cqa, Str na, I pa, I kb, .slice Aqb qb.length cqb, Str nb, I pb], .slice Atg tg.length ctg] w (fun v w' => ∃ Ar : Option Addr, ∃ cr : Nat, ∃ r : List Int, ∃ fl : Bool, v = .tuple #[.slice Ar r.length cr, .bool fl] ∧ (r.length ≤ 100) ∧ SH w w' [] [.own Ar r.length cr 3 1 (r.map I)]) := by
 refine fn_enter (N := 48) Try.func43 rfl (by kernel_rfl) rfl rfl rfl ?_
 have hs0 : SH w w [] [] := SH.refl w []
 have hqa_m : qa.length ≤ 9223372036854775807 := Nat.le_trans hqa.cap hqa.capMax
 have hqb_m : qb.length ≤ 9223372036854775807 := Nat.le_trans hqb.cap hqb.capMax
 have htg_m : tg.length ≤ 9223372036854775807 := Nat.le_trans htg.cap htg.capMax
 refine sq ?_
 refine rg ?_
 refine bx (v := .agg #[I ka, .slice Aqa qa.length cqa, Str na, I pa, I kb, .slice Aqb qb.length cqb, Str nb, I pb]) (cs := [I ka, .slice Aqa qa.length cqa, Str na, I pa, I kb, .slice Aqb qb.length cqb, Str nb, I pb]) hs0 rfl rfl trivial rfl (fun b1 w1 (hs1 : SH w w1 [] [.blk b1 61 [I ka, .slice Aqa qa.length cqa, Str na, I pa, I kb, .slice Aqb qb.length cqb, Str nb, I pb]]) => ?_)
 refine q trivial rfl rfl (asg (v := ns) rfl) ?_
 refine q trivial rfl rfl (asg (v := .bool false) rfl) ?_
 refine nl ?_
 refine nN ?_
 refine sq ?_
 refine sq ?_
 refine rg ?_
 refine q trivial rfl rfl (ldg (vs := [I ka, .slice Aqa qa.length cqa, Str na, I pa, I kb, .slice Aqb qb.length cqb, Str nb, I pb]) hs1 0 rfl rfl rfl rfl ag61) ?_
 refine cl trivial rfl (sPairValid (ka := ka) (Aqa := Aqa) (cqa := cqa) (qa := qa) (na := na) (pa := pa) (kb := kb) (Aqb := Aqb) (cqb := cqb) (qb := qb) (nb := nb) (pb := pb) (w := _) (hqa := (hqa.up0 hs1)) (hna_n := (by first | omega | (have hpb := pairB_b (by assumption : pairB ka qa na pa kb qb nb pb = true); (try simp only [List.length_append, List.length_nil, numB_two]); omega))) (hqb := (hqb.up0 hs1)) (hnb_n := (by first | omega | (have hpb := pairB_b (by assumption : pairB ka qa na pa kb qb nb pb = true); (try simp only [List.length_append, List.length_nil, numB_two]); omega)))) ?_
 rintro _ w2 ⟨rfl, hs2'⟩
 have hs2 : SH w w2 [] [.blk b1 61 [I ka, .slice Aqa qa.length cqa, Str na, I pa, I kb, .slice Aqb qb.length cqb, Str nb, I pb]] := hs1.call0 hs2'
 clear hs2'
 refine q trivial rfl rfl (nt (b := pairB ka qa na pa kb qb nb pb) rfl) ?_
 refine q trivial rfl rfl (mv (v := .bool (!(pairB ka qa na pa kb qb nb pb))) rfl) ?_
 refine spl (b := !(pairB ka qa na pa kb qb nb pb)) 10 rfl (fun h1 => ?_) (fun h1 => ?_)
 · have h2 : (pairB ka qa na pa kb qb nb pb) = false := by simpa using h1
   refine gk true rfl rfl rfl rfl rfl ?_
   refine gk true rfl rfl rfl rfl rfl ?_
   refine gk true rfl rfl rfl rfl rfl ?_
   refine q trivial rfl rfl (pt (v := .bool true) rfl rfl) ?_
   refine nl ?_
   refine nN ?_
   refine cdt rfl ?_
   refine sq ?_
   refine rg ?_
   refine bsk hs2 sl24 [] [] trivial rfl (fun b2 w3 (hs3 : SH w w3 [] [.blk b1 61 [I ka, .slice Aqa qa.length cqa, Str na, I pa, I kb, .slice Aqb qb.length cqb, Str nb, I pb], oI b2 ([] : List Int) 0 3]) => ?_)
   refine q trivial rfl rfl (asg (v := sb b2 (([] : List Int).length) 0) rfl) ?_
   refine q trivial rfl rfl (asg (v := .bool false) rfl) ?_
   refine nl ?_
   refine nN ?_
   refine rt (tR ?_)
   refine fret (v := .tuple #[sb b2 (([] : List Int).length) 0, .bool false]) (.tmp (.tmp .nil)) rfl ?_
   exact ⟨(some ⟨b2, 0, none⟩), 0, ([] : List Int), false, rfl, (by first | (simp; done) | (have hpb := pairB_b (by assumption : pairB ka qa na pa kb qb nb pb = true); (try simp only [List.length_append, List.length_nil, numB_two]); omega)), (hs3.pick [1] rfl (by decide))⟩
 · have h3 : (pairB ka qa na pa kb qb nb pb) = true := by simpa using h1
   refine q ⟨_, rfl, rfl⟩ rfl rfl (mv (v := .slice Atg tg.length ctg) rfl) ?_
   refine cl ⟨_, rfl, rfl⟩ rfl (sL16Ok (Atg := Atg) (ctg := ctg) (tg := tg) (w := _) (htg := (htg.up0 hs2)) (h0g := (by omega))) ?_
   rintro _ w4 ⟨rfl, hs4'⟩
   have hs4 : SH w w4 [] [.blk b1 61 [I ka, .slice Aqa qa.length cqa, Str na, I pa, I kb, .slice Aqb qb.length cqb, Str nb, I pb]] := hs2.call0 hs4'
   clear hs4'
   refine q ⟨_, rfl, rfl⟩ rfl rfl (nt (b := true) rfl) ?_
   refine q trivial rfl rfl (pf (v := .bool false) rfl rfl) ?_
   refine nl ?_
   refine nN ?_
   refine cdf rfl ?_
   refine sk ?_
   refine nN ?_
   refine sq ?_
   refine raJ (fun w' => ∃ L, SH w w' [] L ∧ (.blk b1 61 [I ka, .slice Aqa qa.length cqa, Str na, I pa, I kb, .slice Aqb qb.length cqb, Str nb, I pb]) ∈ L ∧ True) (fun f w' => ∃ (A8' : Option Addr) (c8' : Nat), Has f [(1, .slice Atg tg.length ctg), (2, pB b1), (6, .slice A8' ((qa ++ qb).length) c8')] ∧ SH w w' [] [.blk b1 61 [I ka, .slice Aqa qa.length cqa, Str na, I pa, I kb, .slice Aqb qb.length cqb, Str nb, I pb], .own A8' ((qa ++ qb).length) c8' 3 1 ((qa ++ qb).map I)]) mixed ?_ ?_
   · refine dag (fuel' := 2) (listed' := lbits 10 255) (fun f w' => ∃ (A4' : Option Addr) (c4' : Nat), Has f [(1, .slice Atg tg.length ctg), (2, pB b1), (20, .slice A4' qa.length c4'), (23, .slice Aqb qb.length cqb)] ∧ SH w w' [] [.blk b1 61 [I ka, .slice Aqa qa.length cqa, Str na, I pa, I kb, .slice Aqb qb.length cqb, Str nb, I pb], .own A4' qa.length c4' 3 1 (qa.map I)]) ?_ (fun D_3_0 => ?_)
     · rintro f w5 ⟨A4', c4', hf, hs5⟩
       obtain ⟨g1, rfl⟩ := has_upd hf
       clear hf
       refine aaL [8] (fa_one ?_)
       refine one_ rfl ?_
       refine apm (g := I) (ys := qa) (zs := qb) hs5 1 rfl sl24 rfl rfl rfl (hqb.up0 hs5) (fun _ => rfl) (by unfold maxLen; (have hpb := pairB_b (by assumption : pairB ka qa na pa kb qb nb pb = true); (try simp only [List.length_append, List.length_nil, numB_two]); omega)) (by (have hpb := pairB_b (by assumption : pairB ka qa na pa kb qb nb pb = true); (try simp only [List.length_append, List.length_nil, numB_two]); omega)) trivial rfl (fun A8' c8' w6 hs6 => ?_)
       refine nl (kq ⟨_, hs6, memi 0 rfl, trivial⟩ ?_)
       refine tk (fuel := 0) (is := [9]) (.cons rfl (.nil)) (by kernel_rfl) (by kernel_rfl) ⟨_, hs6, memi 0 rfl, trivial⟩ ?_
       refine .op trivial rfl rfl (fun wq _ => asg (v := .slice A8' ((qa ++ qb).length) c8') rfl) ?_
       refine .nil ?_
       refine ad (by kernel_rfl) ?_
       exact ⟨A8', c8', ⟨rfl, rfl, rfl, trivial⟩, hs6⟩
     refine dag (fuel' := 3) (listed' := lbits 10 239) (fun f w' => ∃ (b0' : Nat), Has f [(1, .slice Atg tg.length ctg), (2, pB b1), (16, sb b0' (([] : List Int).length) 0), (19, .slice Aqa qa.length cqa), (23, .slice Aqb qb.length cqb)] ∧ SH w w' [] [.blk b1 61 [I ka, .slice Aqa qa.length cqa, Str na, I pa, I kb, .slice Aqb qb.length cqb, Str nb, I pb], oI b0' ([] : List Int) 0 3]) ?_ (fun D_3_1 => ?_)
     · rintro f w7 ⟨b0', hf, hs7⟩
       obtain ⟨g2, rfl⟩ := has_upd hf
       clear hf
       refine aaL [4] (fa_one ?_)
       refine one_ rfl ?_
       refine apm (g := I) (ys := ([] : List Int)) (zs := qa) hs7 1 rfl sl24 rfl rfl rfl (hqa.up0 hs7) (fun _ => rfl) (by unfold maxLen; (have hpb := pairB_b (by assumption : pairB ka qa na pa kb qb nb pb = true); (try simp only [List.length_append, List.length_nil, numB_two]); omega)) (by (have hpb := pairB_b (by assumption : pairB ka qa na pa kb qb nb pb = true); (try simp only [List.length_append, List.length_nil, numB_two]); omega)) trivial rfl (fun A4' c4' w8 hs8 => ?_)
       exact nl (kq ⟨_, hs8, memi 0 rfl, trivial⟩ (alc D_3_0 ⟨A4', c4', ⟨rfl, rfl, rfl, rfl, trivial⟩, hs8⟩))
     refine dag (fuel' := 4) (listed' := lbits 10 238) (fun f w' => Has f [(1, .slice Atg tg.length ctg), (2, pB b1), (19, .slice Aqa qa.length cqa), (23, .slice Aqb qb.length cqb)] ∧ SH w w' [] [.blk b1 61 [I ka, .slice Aqa qa.length cqa, Str na, I pa, I kb, .slice Aqb qb.length cqb, Str nb, I pb]]) ?_ (fun D_3_2 => ?_)
     · rintro f w9 ⟨hf, hs9⟩
       obtain ⟨g3, rfl⟩ := has_upd hf
       clear hf
       refine aaL [0] (fa_one ?_)
       refine one_ rfl ?_
       refine bsk hs9 sl24 [] [] trivial rfl (fun b0' w10 hs10 => ?_)
       exact nl (kq ⟨_, hs10, memi 0 rfl, trivial⟩ (alc D_3_1 ⟨b0', ⟨rfl, rfl, rfl, rfl, rfl, trivial⟩, hs10⟩))
     have hs11 := hs4.drew
     refine tk (fuel := 4) (is := [1, 2, 3, 5, 6, 7]) (.cons rfl (.cons rfl (.cons rfl (.cons rfl (.cons rfl (.cons rfl (.nil))))))) (by kernel_rfl) (by kernel_rfl) ⟨_, hs11, memi 0 rfl, trivial⟩ ?_
     refine .op trivial rfl rfl (fun wq _ => fa 0 fo61_0 rfl) ?_
     refine .op trivial rfl rfl (fun wq _ => fa 1 fo52_1 rfl) ?_
     refine .op trivial rfl rfl (fun wq ⟨Lq, hsq, mh0, _⟩ => ldm (v := .slice Aqa qa.length cqa) hsq mh0 rfl rfl one24) ?_
     refine .op trivial rfl rfl (fun wq _ => fa 4 fo61_1 rfl) ?_
     refine .op trivial rfl rfl (fun wq _ => fa 1 fo52_1 rfl) ?_
     refine .op trivial rfl rfl (fun wq ⟨Lq, hsq, mh0, _⟩ => ldm (v := .slice Aqb qb.length cqb) hsq mh0 rfl rfl one24) ?_
     refine .nil ?_
     exact alc D_3_2 ⟨⟨rfl, rfl, rfl, rfl, trivial⟩, hs11⟩
   rintro f w11 ⟨A8', c8', hf, hs12⟩
   obtain ⟨g4, rfl⟩ := has_upd hf
   clear hf
   refine nN ?_
   refine sq ?_
   refine rg ?_
   refine q trivial rfl rfl (mv (v := .slice A8' ((qa ++ qb).length) c8') rfl) ?_
   refine q trivial rfl rfl (fa 0 fo61_0 rfl) ?_
   refine q trivial rfl rfl (fa 3 fo52_3 rfl) ?_
   refine q trivial rfl rfl (ld (v := I pa) hs12 0 rfl rfl rfl one3) ?_
   refine cl trivial rfl (sL1Number (n := pa) (w := _) (hn := (by (have hpb := pairB_b (by assumption : pairB ka qa na pa kb qb nb pb = true); (try simp only [List.length_append, List.length_nil, numB_two]); omega)))) ?_
   rintro _ w12 ⟨A1, c1, rfl, hs13'⟩
   have hs13 : SH w w12 [] [.blk b1 61 [I ka, .slice Aqa qa.length cqa, Str na, I pa, I kb, .slice Aqb qb.length cqb, Str nb, I pb], .own A8' ((qa ++ qb).length) c8' 3 1 ((qa ++ qb).map I), .own A1 ((numB pa).length) c1 3 1 ((numB pa).map I)] := hs12.call0 hs13'
   clear hs13'
   refine apm (g := I) (ys := qa ++ qb) (zs := numB pa) hs13 1 rfl sl24 rfl rfl rfl (hs13.sl0 2 rfl) (fun _ => rfl) (by unfold maxLen; (have hpb := pairB_b (by assumption : pairB ka qa na pa kb qb nb pb = true); (try simp only [List.length_append, List.length_nil, numB_two]); omega)) (by (have hpb := pairB_b (by assumption : pairB ka qa na pa kb qb nb pb = true); (try simp only [List.length_append, List.length_nil, numB_two]); omega)) trivial rfl (fun A2 c2 w13 (hs14 : SH w w13 [] [.blk b1 61 [I ka, .slice Aqa qa.length cqa, Str na, I pa, I kb, .slice Aqb qb.length cqb, Str nb, I pb], .own A1 ((numB pa).length) c1 3 1 ((numB pa).map I), .own A2 (((qa ++ qb) ++ (numB pa)).length) c2 3 1 (((qa ++ qb) ++ (numB pa)).map I)]) => ?_)
   refine q trivial rfl rfl (asg (v := .slice A2 (((qa ++ qb) ++ (numB pa)).length) c2) rfl) ?_
   refine nl ?_
   refine nN ?_
   refine sq ?_
   refine rg ?_
   refine q trivial rfl rfl (mv (v := .slice A2 (((qa ++ qb) ++ (numB pa)).length) c2) rfl) ?_
   refine q trivial rfl rfl (fa 4 fo61_1 rfl) ?_
   refine q trivial rfl rfl (fa 3 fo52_3 rfl) ?_
   refine q trivial rfl rfl (ld (v := I pb) hs14 0 rfl rfl rfl one3) ?_
   refine cl trivial rfl (sL1Number (n := pb) (w := _) (hn := (by (have hpb := pairB_b (by assumption : pairB ka qa na pa kb qb nb pb = true); (try simp only [List.length_append, List.length_nil, numB_two]); omega)))) ?_
   rintro _ w14 ⟨A3, c3, rfl, hs15'⟩
   have hs15 : SH w w14 [] [.blk b1 61 [I ka, .slice Aqa qa.length cqa, Str na, I pa, I kb, .slice Aqb qb.length cqb, Str nb, I pb], .own A1 ((numB pa).length) c1 3 1 ((numB pa).map I), .own A2 (((qa ++ qb) ++ (numB pa)).length) c2 3 1 (((qa ++ qb) ++ (numB pa)).map I), .own A3 ((numB pb).length) c3 3 1 ((numB pb).map I)] := hs14.call0 hs15'
   clear hs15'
   refine apm (g := I) (ys := (qa ++ qb) ++ (numB pa)) (zs := numB pb) hs15 2 rfl sl24 rfl rfl rfl (hs15.sl0 3 rfl) (fun _ => rfl) (by unfold maxLen; (have hpb := pairB_b (by assumption : pairB ka qa na pa kb qb nb pb = true); (try simp only [List.length_append, List.length_nil, numB_two]); omega)) (by (have hpb := pairB_b (by assumption : pairB ka qa na pa kb qb nb pb = true); (try simp only [List.length_append, List.length_nil, numB_two]); omega)) trivial rfl (fun A4 c4 w15 (hs16 : SH w w15 [] [.blk b1 61 [I ka, .slice Aqa qa.length cqa, Str na, I pa, I kb, .slice Aqb qb.length cqb, Str nb, I pb], .own A1 ((numB pa).length) c1 3 1 ((numB pa).map I), .own A3 ((numB pb).length) c3 3 1 ((numB pb).map I), .own A4 ((((qa ++ qb) ++ (numB pa)) ++ (numB pb)).length) c4 3 1 ((((qa ++ qb) ++ (numB pa)) ++ (numB pb)).map I)]) => ?_)
   refine q trivial rfl rfl (asg (v := .slice A4 ((((qa ++ qb) ++ (numB pa)) ++ (numB pb)).length) c4) rfl) ?_
   refine nl ?_
   refine nN ?_
   have hs17 : SH w w15 [] [.own A4 ((((qa ++ qb) ++ (numB pa)) ++ (numB pb)).length) c4 3 1 ((((qa ++ qb) ++ (numB pa)) ++ (numB pb)).map I)] := hs16.pick [3] rfl (by decide)
   refine sq ?_
   refine rg ?_
   refine q trivial rfl rfl (mv (v := .slice A4 ((((qa ++ qb) ++ (numB pa)) ++ (numB pb)).length) c4) rfl) ?_
   refine q trivial rfl rfl (mv (v := .slice Atg tg.length ctg) rfl) ?_
   refine cl trivial rfl (sL16Bytes (Atg := Atg) (ctg := ctg) (tg := tg) (w := _) (htg := (htg.up0 hs17)) (h0g := (by omega))) ?_
   rintro _ w16 ⟨A5, c5, rfl, hs18'⟩
   have hs18 : SH w w16 [] [.own A4 ((((qa ++ qb) ++ (numB pa)) ++ (numB pb)).length) c4 3 1 ((((qa ++ qb) ++ (numB pa)) ++ (numB pb)).map I), .own A5 (([] : List Int).length) c5 3 1 (([] : List Int).map I)] := hs17.call0 hs18'
   clear hs18'
   refine apm (g := I) (ys := ((qa ++ qb) ++ (numB pa)) ++ (numB pb)) (zs := ([] : List Int)) hs18 0 rfl sl24 rfl rfl rfl (hs18.sl0 1 rfl) (fun _ => rfl) (by unfold maxLen; (have hpb := pairB_b (by assumption : pairB ka qa na pa kb qb nb pb = true); (try simp only [List.length_append, List.length_nil, numB_two]); omega)) (by (have hpb := pairB_b (by assumption : pairB ka qa na pa kb qb nb pb = true); (try simp only [List.length_append, List.length_nil, numB_two]); omega)) trivial rfl (fun A6 c6 w17 (hs19 : SH w w17 [] [.own A5 (([] : List Int).length) c5 3 1 (([] : List Int).map I), .own A6 (((((qa ++ qb) ++ (numB pa)) ++ (numB pb)) ++ ([] : List Int)).length) c6 3 1 (((((qa ++ qb) ++ (numB pa)) ++ (numB pb)) ++ ([] : List Int)).map I)]) => ?_)
   refine q trivial rfl rfl (asg (v := .slice A6 (((((qa ++ qb) ++ (numB pa)) ++ (numB pb)) ++ ([] : List Int)).length) c6) rfl) ?_
   refine nl ?_
   refine nN ?_
   refine sq ?_
   refine rg ?_
   refine cl trivial rfl (sL16Begin (w := _)) ?_
   rintro _ w18 ⟨A7, c7, rfl, hs20'⟩
   have hs20 : SH w w18 [] [.own A5 (([] : List Int).length) c5 3 1 (([] : List Int).map I), .own A6 (((((qa ++ qb) ++ (numB pa)) ++ (numB pb)) ++ ([] : List Int)).length) c6 3 1 (((((qa ++ qb) ++ (numB pa)) ++ (numB pb)) ++ ([] : List Int)).map I), .own A7 headP.length c7 3 1 (headP.map I)] := hs19.call0 hs20'
   clear hs20'
   refine q trivial rfl rfl (mv (v := .slice A6 (((((qa ++ qb) ++ (numB pa)) ++ (numB pb)) ++ ([] : List Int)).length) c6) rfl) ?_
   refine q trivial rfl rfl (lnA (n := ((((qa ++ qb) ++ (numB pa)) ++ (numB pb)) ++ ([] : List Int)).length) sl24 rfl) ?_
   refine cl trivial rfl (sL1Number (n := ((((((qa ++ qb) ++ (numB pa)) ++ (numB pb)) ++ ([] : List Int)).length : Nat) : Int)) (w := _) (hn := (by (have hpb := pairB_b (by assumption : pairB ka qa na pa kb qb nb pb = true); (try simp only [List.length_append, List.length_nil, numB_two]); omega)))) ?_
   rintro _ w19 ⟨A8, c8, rfl, hs21'⟩
   have hs21 : SH w w19 [] [.own A5 (([] : List Int).length) c5 3 1 (([] : List Int).map I), .own A6 (((((qa ++ qb) ++ (numB pa)) ++ (numB pb)) ++ ([] : List Int)).length) c6 3 1 (((((qa ++ qb) ++ (numB pa)) ++ (numB pb)) ++ ([] : List Int)).map I), .own A7 headP.length c7 3 1 (headP.map I), .own A8 ((numB ((((((qa ++ qb) ++ (numB pa)) ++ (numB pb)) ++ ([] : List Int)).length : Nat) : Int)).length) c8 3 1 ((numB ((((((qa ++ qb) ++ (numB pa)) ++ (numB pb)) ++ ([] : List Int)).length : Nat) : Int)).map I)] := hs20.call0 hs21'
   clear hs21'
   refine apm (g := I) (ys := headP) (zs := numB ((((((qa ++ qb) ++ (numB pa)) ++ (numB pb)) ++ ([] : List Int)).length : Nat) : Int)) hs21 2 rfl sl24 rfl rfl rfl (hs21.sl0 3 rfl) (fun _ => rfl) (by unfold maxLen; (have hpb := pairB_b (by assumption : pairB ka qa na pa kb qb nb pb = true); (try simp only [List.length_append, List.length_nil, numB_two]); omega)) (by (have hpb := pairB_b (by assumption : pairB ka qa na pa kb qb nb pb = true); (try simp only [List.length_append, List.length_nil, numB_two]); omega)) trivial rfl (fun A9 c9 w20 (hs22 : SH w w20 [] [.own A5 (([] : List Int).length) c5 3 1 (([] : List Int).map I), .own A6 (((((qa ++ qb) ++ (numB pa)) ++ (numB pb)) ++ ([] : List Int)).length) c6 3 1 (((((qa ++ qb) ++ (numB pa)) ++ (numB pb)) ++ ([] : List Int)).map I), .own A8 ((numB ((((((qa ++ qb) ++ (numB pa)) ++ (numB pb)) ++ ([] : List Int)).length : Nat) : Int)).length) c8 3 1 ((numB ((((((qa ++ qb) ++ (numB pa)) ++ (numB pb)) ++ ([] : List Int)).length : Nat) : Int)).map I), .own A9 ((headP ++ (numB ((((((qa ++ qb) ++ (numB pa)) ++ (numB pb)) ++ ([] : List Int)).length : Nat) : Int))).length) c9 3 1 ((headP ++ (numB ((((((qa ++ qb) ++ (numB pa)) ++ (numB pb)) ++ ([] : List Int)).length : Nat) : Int))).map I)]) => ?_)
   refine q trivial rfl rfl (mv (v := .slice A6 (((((qa ++ qb) ++ (numB pa)) ++ (numB pb)) ++ ([] : List Int)).length) c6) rfl) ?_
   refine apm (g := I) (ys := headP ++ (numB ((((((qa ++ qb) ++ (numB pa)) ++ (numB pb)) ++ ([] : List Int)).length : Nat) : Int))) (zs := (((qa ++ qb) ++ (numB pa)) ++ (numB pb)) ++ ([] : List Int)) hs22 3 rfl sl24 rfl rfl rfl (hs22.sl0 1 rfl) (fun _ => rfl) (by unfold maxLen; (have hpb := pairB_b (by assumption : pairB ka qa na pa kb qb nb pb = true); (try simp only [List.length_append, List.length_nil, numB_two]); omega)) (by (have hpb := pairB_b (by assumption : pairB ka qa na pa kb qb nb pb = true); (try simp only [List.length_append, List.length_nil, numB_two]); omega)) trivial rfl (fun A10 c10 w21 (hs23 : SH w w21 [] [.own A5 (([] : List Int).length) c5 3 1 (([] : List Int).map I), .own A6 (((((qa ++ qb) ++ (numB pa)) ++ (numB pb)) ++ ([] : List Int)).length) c6 3 1 (((((qa ++ qb) ++ (numB pa)) ++ (numB pb)) ++ ([] : List Int)).map I), .own A8 ((numB ((((((qa ++ qb) ++ (numB pa)) ++ (numB pb)) ++ ([] : List Int)).length : Nat) : Int)).length) c8 3 1 ((numB ((((((qa ++ qb) ++ (numB pa)) ++ (numB pb)) ++ ([] : List Int)).length : Nat) : Int)).map I), .own A10 (((headP ++ (numB ((((((qa ++ qb) ++ (numB pa)) ++ (numB pb)) ++ ([] : List Int)).length : Nat) : Int))) ++ ((((qa ++ qb) ++ (numB pa)) ++ (numB pb)) ++ ([] : List Int))).length) c10 3 1 (((headP ++ (numB ((((((qa ++ qb) ++ (numB pa)) ++ (numB pb)) ++ ([] : List Int)).length : Nat) : Int))) ++ ((((qa ++ qb) ++ (numB pa)) ++ (numB pb)) ++ ([] : List Int))).map I)]) => ?_)
   refine q trivial rfl rfl (asg (v := .slice A10 (((headP ++ (numB ((((((qa ++ qb) ++ (numB pa)) ++ (numB pb)) ++ ([] : List Int)).length : Nat) : Int))) ++ ((((qa ++ qb) ++ (numB pa)) ++ (numB pb)) ++ ([] : List Int))).length) c10) rfl) ?_
   refine q trivial rfl rfl (asg (v := .bool true) rfl) ?_
   refine nl ?_
   refine nN ?_
   have hs24 : SH w w21 [] [.own A10 (((headP ++ (numB ((((((qa ++ qb) ++ (numB pa)) ++ (numB pb)) ++ ([] : List Int)).length : Nat) : Int))) ++ ((((qa ++ qb) ++ (numB pa)) ++ (numB pb)) ++ ([] : List Int))).length) c10 3 1 (((headP ++ (numB ((((((qa ++ qb) ++ (numB pa)) ++ (numB pb)) ++ ([] : List Int)).length : Nat) : Int))) ++ ((((qa ++ qb) ++ (numB pa)) ++ (numB pb)) ++ ([] : List Int))).map I)] := hs23.pick [3] rfl (by decide)
   refine rt ?_
   refine fret (v := .tuple #[.slice A10 (((headP ++ (numB ((((((qa ++ qb) ++ (numB pa)) ++ (numB pb)) ++ ([] : List Int)).length : Nat) : Int))) ++ ((((qa ++ qb) ++ (numB pa)) ++ (numB pb)) ++ ([] : List Int))).length) c10, .bool true]) (.tmp (.tmp .nil)) rfl ?_
   exact ⟨A10, c10, (headP ++ (numB ((((((qa ++ qb) ++ (numB pa)) ++ (numB pb)) ++ ([] : List Int)).length : Nat) : Int))) ++ ((((qa ++ qb) ++ (numB pa)) ++ (numB pb)) ++ ([] : List Int)), true, rfl, (by first | (simp; done) | (have hpb := pairB_b (by assumption : pairB ka qa na pa kb qb nb pb = true); (try simp only [List.length_append, List.length_nil, numB_two]); omega)), hs24⟩

theorem l92Frame {rb : Nat} {Ab : Option Addr} {cb : Nat} {bs : List UInt8} {p : Nat} (w : World) (hr : w.heap[rb]? = some (.cells [.slice Ab bs.length cb, .int .i64 ((p : Nat) : Int)].toArray 47 (0, 0))) (hb : Sl w [rb] 1 Ab bs.length cb (bs.map U)) (hbn : bs.length ≤ 2000) (hp : p ≤ 34359738368) : Does Try.prog 24 [pB rb] w (fun v w' => ∃ Ar : Option Addr, ∃ cr : Nat, ∃ r : List Int, ∃ q : Nat, v = .slice Ar r.length cr ∧ (r.length ≤ 120) ∧ (q ≤ p + 200) ∧ SH w w' [rb] [.blk rb 47 [.slice Ab bs.length cb, I ((q : Nat) : Int)], .own Ar r.length cr 3 1 (r.map I)]) := by
 refine fn_enter (N := 51) Try.func24 rfl (by kernel_rfl) rfl rfl rfl ?_
 have hs0 : SH w w [rb] [.blk rb 47 [.slice Ab bs.length cb, I ((p : Nat) : Int)]] := SH.entry1 hr
 refine sq ?_
 refine rg ?_
 refine q trivial rfl rfl (asg (v := ns) rfl) ?_
 refine nl ?_
 refine nN ?_
 refine sq ?_
 refine sq ?_
 refine rg ?_
 refine q trivial rfl rfl (mv (v := pB rb) rfl) ?_
 refine cl trivial rfl (pick (rb := rb) (Ab := Ab) (cb := cb) (bs := bs) (p := p) (n := 5) (w := _) (hr := (blk_heap hs0 0 rfl)) (hb := (hb.up hs0 (fun _ h => h) (fun _ h => .inl h))) (hbn := (by first | assumption | (simp; omega))) (hp := (by omega))) ?_
 rintro _ w1 ⟨r1, q1, rfl, p1, p2, hs1'⟩
 have hs1 : SH w w1 [rb] [.blk rb 47 [.slice Ab bs.length cb, I ((q1 : Nat) : Int)]] := hs0.callM 0 rfl hs1' (by intro k hk; simp at hk; exact hk.symm)
 clear hs1'
 refine nl ?_
 refine nN ?_
 refine bl ?_
 refine sq ?_
 refine rg ?_
 refine q trivial rfl rfl (eqi (k := .i64) (a := r1) (b := 0) rfl rfl) ?_
 refine q trivial rfl rfl (asg (v := .bool (decide (r1 = 0))) rfl) ?_
 refine nl ?_
 refine nN ?_
 refine cdd (p := r1 = 0) rfl (fun h1 => ?_) (fun h1 => ?_)
 · refine sq ?_
   refine rg ?_
   refine q trivial rfl rfl (mv (v := pB rb) rfl) ?_
   refine cl trivial rfl (l91Old (rb := rb) (Ab := Ab) (cb := cb) (bs := bs) (p := q1) (w := _) (hr := (blk_heap hs1 0 rfl)) (hb := (hb.up hs1 (fun _ h => h) (fun _ h => .inl h))) (hbn := (by first | assumption | (simp; omega))) (hp := (by omega))) ?_
   rintro _ w2 ⟨Aq1, cq1, c1, ak1, aq1, an1, apt1, us1, q2, rfl, p3, p4, p5, p6, hs2'⟩
   have hs2 : SH w w2 [rb] [.blk rb 47 [.slice Ab bs.length cb, I ((q2 : Nat) : Int)], .own Aq1 aq1.length cq1 3 1 (aq1.map I)] := hs1.callM 0 rfl hs2' (by intro k hk; simp at hk; exact hk.symm)
   clear hs2'
   refine cl trivial rfl (sOldBytes (c := c1) (ak := ak1) (Aaq := Aq1) (caq := cq1) (aq := aq1) (an := an1) (apt := apt1) (us := us1) (w := _) (haq := (hs2.sl0 1 rfl)) (han_n := (by first | omega | exact Nat.le_trans (connT_len _ _ _ _) (by omega) | (simp; done) | (simp; omega))) (hus_n := (by first | omega | exact Nat.le_trans (connT_len _ _ _ _) (by omega) | (simp; done) | (simp; omega)))) ?_
   rintro _ w3 ⟨A1, c2, rfl, hs3'⟩
   have hs3 : SH w w3 [rb] [.blk rb 47 [.slice Ab bs.length cb, I ((q2 : Nat) : Int)], .own Aq1 aq1.length cq1 3 1 (aq1.map I), .own A1 (((oldP c1 ak1 aq1 an1 apt1 us1).1).length) c2 3 1 (((oldP c1 ak1 aq1 an1 apt1 us1).1).map I)] := hs2.call0 hs3'
   clear hs3'
   refine q trivial rfl rfl (mv (v := .tuple #[.slice A1 (((oldP c1 ak1 aq1 an1 apt1 us1).1).length) c2, .bool ((oldP c1 ak1 aq1 an1 apt1 us1).2)]) rfl) ?_
   refine q trivial rfl rfl (xt 0 (v := .slice A1 (((oldP c1 ak1 aq1 an1 apt1 us1).1).length) c2) rfl rfl) ?_
   refine q trivial rfl rfl (xt 1 (v := .bool ((oldP c1 ak1 aq1 an1 apt1 us1).2)) rfl rfl) ?_
   refine q trivial rfl rfl (asg (v := .slice A1 (((oldP c1 ak1 aq1 an1 apt1 us1).1).length) c2) rfl) ?_
   refine q trivial rfl rfl (asg (v := .bool ((oldP c1 ak1 aq1 an1 apt1 us1).2)) rfl) ?_
   refine nl ?_
   refine nN ?_
   refine sq ?_
   refine rg ?_
   refine q trivial rfl rfl (mv (v := .slice A1 (((oldP c1 ak1 aq1 an1 apt1 us1).1).length) c2) rfl) ?_
   refine q trivial rfl rfl (asg (v := .slice A1 (((oldP c1 ak1 aq1 an1 apt1 us1).1).length) c2) rfl) ?_
   refine nl ?_
   refine nN ?_
   refine rt (bR (tR ?_))
   refine fret (v := .slice A1 (((oldP c1 ak1 aq1 an1 apt1 us1).1).length) c2) (.tmp .nil) rfl ?_
   exact ⟨A1, c2, (oldP c1 ak1 aq1 an1 apt1 us1).1, q2, rfl, (by first | exact Nat.le_trans (oldP_len _ _ _ _ _ _) (by omega) | exact Nat.le_trans (helloP_len _) (by omega) | (rw [textI_len]; first | exact connT_len _ _ _ _ | omega) | omega), (by omega), (hs3.pick [0, 2] rfl (by decide))⟩
 · refine sq ?_
   refine rg ?_
   refine q trivial rfl rfl (eqi (k := .i64) (a := r1) (b := 1) rfl rfl) ?_
   refine q trivial rfl rfl (asg (v := .bool (decide (r1 = 1))) rfl) ?_
   refine nl ?_
   refine nN ?_
   refine cdd (p := r1 = 1) rfl (fun h2 => ?_) (fun h2 => ?_)
   · refine sq ?_
     refine rg ?_
     refine q trivial rfl rfl (mv (v := pB rb) rfl) ?_
     refine cl trivial rfl (l91Methods (rb := rb) (Ab := Ab) (cb := cb) (bs := bs) (p := q1) (w := _) (hr := (blk_heap hs1 0 rfl)) (hb := (hb.up hs1 (fun _ h => h) (fun _ h => .inl h))) (hbn := (by first | assumption | (simp; omega))) (hp := (by omega))) ?_
     rintro _ w4 ⟨A2, c3, r2, q3, rfl, p7, p8, hs4'⟩
     have hs4 : SH w w4 [rb] [.blk rb 47 [.slice Ab bs.length cb, I ((q3 : Nat) : Int)], .own A2 r2.length c3 3 1 (r2.map I)] := hs1.callM 0 rfl hs4' (by intro k hk; simp at hk; exact hk.symm)
     clear hs4'
     refine cl trivial rfl (sHelloBytes (Ams := A2) (cms := c3) (ms := r2) (w := _) (hms := (hs4.sl0 1 rfl))) ?_
     rintro _ w5 ⟨A3, c4, rfl, hs5'⟩
     have hs5 : SH w w5 [rb] [.blk rb 47 [.slice Ab bs.length cb, I ((q3 : Nat) : Int)], .own A2 r2.length c3 3 1 (r2.map I), .own A3 (((helloP r2).1).length) c4 3 1 (((helloP r2).1).map I)] := hs4.call0 hs5'
     clear hs5'
     refine q trivial rfl rfl (mv (v := .tuple #[.slice A3 (((helloP r2).1).length) c4, .bool ((helloP r2).2)]) rfl) ?_
     refine q trivial rfl rfl (xt 0 (v := .slice A3 (((helloP r2).1).length) c4) rfl rfl) ?_
     refine q trivial rfl rfl (xt 1 (v := .bool ((helloP r2).2)) rfl rfl) ?_
     refine q trivial rfl rfl (asg (v := .slice A3 (((helloP r2).1).length) c4) rfl) ?_
     refine q trivial rfl rfl (asg (v := .bool ((helloP r2).2)) rfl) ?_
     refine nl ?_
     refine nN ?_
     refine sq ?_
     refine rg ?_
     refine q trivial rfl rfl (mv (v := .slice A3 (((helloP r2).1).length) c4) rfl) ?_
     refine q trivial rfl rfl (asg (v := .slice A3 (((helloP r2).1).length) c4) rfl) ?_
     refine nl ?_
     refine nN ?_
     refine rt (bR (tR ?_))
     refine fret (v := .slice A3 (((helloP r2).1).length) c4) (.tmp .nil) rfl ?_
     exact ⟨A3, c4, (helloP r2).1, q3, rfl, (by first | exact Nat.le_trans (oldP_len _ _ _ _ _ _) (by omega) | exact Nat.le_trans (helloP_len _) (by omega) | (rw [textI_len]; first | exact connT_len _ _ _ _ | omega) | omega), (by omega), (hs5.pick [0, 2] rfl (by decide))⟩
   · refine sq ?_
     refine rg ?_
     refine q trivial rfl rfl (eqi (k := .i64) (a := r1) (b := 2) rfl rfl) ?_
     refine q trivial rfl rfl (asg (v := .bool (decide (r1 = 2))) rfl) ?_
     refine nl ?_
     refine nN ?_
     refine cdd (p := r1 = 2) rfl (fun h3 => ?_) (fun h3 => ?_)
     · refine sq ?_
       refine rg ?_
       refine q trivial rfl rfl (mv (v := pB rb) rfl) ?_
       refine cl trivial rfl (l91Address (rb := rb) (Ab := Ab) (cb := cb) (bs := bs) (p := q1) (w := _) (hr := (blk_heap hs1 0 rfl)) (hb := (hb.up hs1 (fun _ h => h) (fun _ h => .inl h))) (hbn := (by first | assumption | (simp; omega))) (hp := (by omega))) ?_
       rintro _ w6 ⟨Aq2, cq2, ak2, aq2, an2, apt2, q4, rfl, p9, p10, p11, hs6'⟩
       have hs6 : SH w w6 [rb] [.blk rb 47 [.slice Ab bs.length cb, I ((q4 : Nat) : Int)], .own Aq2 aq2.length cq2 3 1 (aq2.map I)] := hs1.callM 0 rfl hs6' (by intro k hk; simp at hk; exact hk.symm)
       clear hs6'
       refine cl trivial rfl (sConnectText (ak := ak2) (Aaq := Aq2) (caq := cq2) (aq := aq2) (an := an2) (apt := apt2) (w := _) (haq := (hs6.sl0 1 rfl)) (han_n := (by first | omega | exact Nat.le_trans (connT_len _ _ _ _) (by omega) | (simp; done) | (simp; omega)))) ?_
       rintro _ w7 ⟨rfl, hs7'⟩
       have hs7 : SH w w7 [rb] [.blk rb 47 [.slice Ab bs.length cb, I ((q4 : Nat) : Int)], .own Aq2 aq2.length cq2 3 1 (aq2.map I)] := hs6.call0 hs7'
       clear hs7'
       refine cl trivial rfl (sL1Text (s := connT ak2 aq2 an2 apt2) (w := _) (hs_n := (by first | omega | exact Nat.le_trans (connT_len _ _ _ _) (by omega) | (simp; done) | (simp; omega)))) ?_
       rintro _ w8 ⟨A4, c5, rfl, hs8'⟩
       have hs8 : SH w w8 [rb] [.blk rb 47 [.slice Ab bs.length cb, I ((q4 : Nat) : Int)], .own Aq2 aq2.length cq2 3 1 (aq2.map I), .own A4 ((textI (connT ak2 aq2 an2 apt2)).length) c5 3 1 ((textI (connT ak2 aq2 an2 apt2)).map I)] := hs7.call0 hs8'
       clear hs8'
       refine q trivial rfl rfl (asg (v := .slice A4 ((textI (connT ak2 aq2 an2 apt2)).length) c5) rfl) ?_
       refine nl ?_
       refine nN ?_
       refine rt (bR (tR ?_))
       refine fret (v := .slice A4 ((textI (connT ak2 aq2 an2 apt2)).length) c5) (.tmp .nil) rfl ?_
       exact ⟨A4, c5, textI (connT ak2 aq2 an2 apt2), q4, rfl, (by first | exact Nat.le_trans (oldP_len _ _ _ _ _ _) (by omega) | exact Nat.le_trans (helloP_len _) (by omega) | (rw [textI_len]; first | exact connT_len _ _ _ _ | omega) | omega), (by omega), (hs8.pick [0, 2] rfl (by decide))⟩
     · refine sq ?_
       refine rg ?_
       refine q trivial rfl rfl (eqi (k := .i64) (a := r1) (b := 3) rfl rfl) ?_
       refine q trivial rfl rfl (asg (v := .bool (decide (r1 = 3))) rfl) ?_
       refine nl ?_
       refine nN ?_
       refine cdd (p := r1 = 3) rfl (fun h4 => ?_) (fun h4 => ?_)
       · refine sq ?_
         refine rg ?_
         refine q trivial rfl rfl (mv (v := pB rb) rfl) ?_
         refine cl trivial rfl (l92Pair (rb := rb) (Ab := Ab) (cb := cb) (bs := bs) (p := q1) (w := _) (hr := (blk_heap hs1 0 rfl)) (hb := (hb.up hs1 (fun _ h => h) (fun _ h => .inl h))) (hbn := (by first | assumption | (simp; omega))) (hp := (by omega))) ?_
         rintro _ w9 ⟨Aqa1, cqa1, Aqb1, cqb1, ka1, qa1, na1, pa1, kb1, qb1, nb1, pb1, q5, rfl, p12, p13, p14, p15, p16, hs9'⟩
         have hs9 : SH w w9 [rb] [.blk rb 47 [.slice Ab bs.length cb, I ((q5 : Nat) : Int)], .own Aqa1 qa1.length cqa1 3 1 (qa1.map I), .own Aqb1 qb1.length cqb1 3 1 (qb1.map I)] := hs1.callM 0 rfl hs9' (by intro k hk; simp at hk; exact hk.symm)
         clear hs9'
         refine cl trivial rfl (sLineText (ka := ka1) (Aqa := Aqa1) (cqa := cqa1) (qa := qa1) (na := na1) (pa := pa1) (kb := kb1) (Aqb := Aqb1) (cqb := cqb1) (qb := qb1) (nb := nb1) (pb := pb1) (w := _) (hqa := (hs9.sl0 1 rfl)) (hna_n := (by first | omega | exact Nat.le_trans (connT_len _ _ _ _) (by omega) | (simp; done) | (simp; omega))) (hqb := (hs9.sl0 2 rfl)) (hnb_n := (by first | omega | exact Nat.le_trans (connT_len _ _ _ _) (by omega) | (simp; done) | (simp; omega)))) ?_
         rintro _ w10 ⟨r3, rfl, p17, hs10'⟩
         have hs10 : SH w w10 [rb] [.blk rb 47 [.slice Ab bs.length cb, I ((q5 : Nat) : Int)], .own Aqa1 qa1.length cqa1 3 1 (qa1.map I), .own Aqb1 qb1.length cqb1 3 1 (qb1.map I)] := hs9.call0 hs10'
         clear hs10'
         refine cl trivial rfl (sL1Text (s := r3) (w := _) (hs_n := (by first | omega | exact Nat.le_trans (connT_len _ _ _ _) (by omega) | (simp; done) | (simp; omega)))) ?_
         rintro _ w11 ⟨A5, c6, rfl, hs11'⟩
         have hs11 : SH w w11 [rb] [.blk rb 47 [.slice Ab bs.length cb, I ((q5 : Nat) : Int)], .own Aqa1 qa1.length cqa1 3 1 (qa1.map I), .own Aqb1 qb1.length cqb1 3 1 (qb1.map I), .own A5 ((textI r3).length) c6 3 1 ((textI r3).map I)] := hs10.call0 hs11'
         clear hs11'
         refine q trivial rfl rfl (asg (v := .slice A5 ((textI r3).length) c6) rfl) ?_
         refine nl ?_
         refine nN ?_
         have hs12 : SH w w11 [rb] [.blk rb 47 [.slice Ab bs.length cb, I ((q5 : Nat) : Int)], .own A5 ((textI r3).length) c6 3 1 ((textI r3).map I)] := hs11.pick [0, 3] rfl (by decide)
         refine rt (bR (tR ?_))
         refine fret (v := .slice A5 ((textI r3).length) c6) (.tmp .nil) rfl ?_
         exact ⟨A5, c6, textI r3, q5, rfl, (by first | exact Nat.le_trans (oldP_len _ _ _ _ _ _) (by omega) | exact Nat.le_trans (helloP_len _) (by omega) | (rw [textI_len]; first | exact connT_len _ _ _ _ | omega) | omega), (by omega), hs12⟩
       · refine sk ?_
         refine bN ?_
         refine nN ?_
         refine sq ?_
         refine rg ?_
         refine q trivial rfl rfl (mv (v := pB rb) rfl) ?_
         refine cl trivial rfl (l92Pair (rb := rb) (Ab := Ab) (cb := cb) (bs := bs) (p := q1) (w := _) (hr := (blk_heap hs1 0 rfl)) (hb := (hb.up hs1 (fun _ h => h) (fun _ h => .inl h))) (hbn := (by first | assumption | (simp; omega))) (hp := (by omega))) ?_
         rintro _ w12 ⟨Aqa2, cqa2, Aqb2, cqb2, ka2, qa2, na2, pa2, kb2, qb2, nb2, pb2, q6, rfl, p18, p19, p20, p21, p22, hs13'⟩
         have hs13 : SH w w12 [rb] [.blk rb 47 [.slice Ab bs.length cb, I ((q6 : Nat) : Int)], .own Aqa2 qa2.length cqa2 3 1 (qa2.map I), .own Aqb2 qb2.length cqb2 3 1 (qb2.map I)] := hs1.callM 0 rfl hs13' (by intro k hk; simp at hk; exact hk.symm)
         clear hs13'
         refine al (v := .agg #[I 0, ns, Str [], I 0, I 0, ns, Str [], I 0]) (cs := [I 0, ns, Str [], I 0, I 0, ns, Str [], I 0]) hs13 tz61 rfl trivial rfl (fun b1 w13 (hs14 : SH w w13 [rb] [.blk rb 47 [.slice Ab bs.length cb, I ((q6 : Nat) : Int)], .own Aqa2 qa2.length cqa2 3 1 (qa2.map I), .own Aqb2 qb2.length cqb2 3 1 (qb2.map I), .blk b1 61 [I 0, ns, Str [], I 0, I 0, ns, Str [], I 0]]) => ?_)
         refine stg (vs := [I ka2, .slice Aqa2 qa2.length cqa2, Str na2, I pa2, I kb2, .slice Aqb2 qb2.length cqb2, Str nb2, I pb2]) hs14 3 rfl rfl rfl rfl rfl rfl rfl ag61 trivial (fun w14 (hs15 : SH w w14 [rb] [.blk rb 47 [.slice Ab bs.length cb, I ((q6 : Nat) : Int)], .own Aqa2 qa2.length cqa2 3 1 (qa2.map I), .own Aqb2 qb2.length cqb2 3 1 (qb2.map I), .blk b1 61 [I ka2, .slice Aqa2 qa2.length cqa2, Str na2, I pa2, I kb2, .slice Aqb2 qb2.length cqb2, Str nb2, I pb2]]) => ?_)
         refine nl ?_
         refine nN ?_
         refine sq ?_
         refine rg ?_
         refine q trivial rfl rfl (ldg (vs := [I ka2, .slice Aqa2 qa2.length cqa2, Str na2, I pa2, I kb2, .slice Aqb2 qb2.length cqb2, Str nb2, I pb2]) hs15 3 rfl rfl rfl rfl ag61) ?_
         refine bsk hs15 sl64 [] [] trivial rfl (fun b2 w15 (hs16 : SH w w15 [rb] [.blk rb 47 [.slice Ab bs.length cb, I ((q6 : Nat) : Int)], .own Aqa2 qa2.length cqa2 3 1 (qa2.map I), .own Aqb2 qb2.length cqb2 3 1 (qb2.map I), .blk b1 61 [I ka2, .slice Aqa2 qa2.length cqa2, Str na2, I pa2, I kb2, .slice Aqb2 qb2.length cqb2, Str nb2, I pb2], .own (some ⟨b2, 0, none⟩) (([] : List (Int × Int)).length) 0 86 2 (([] : List (Int × Int)).flatMap gTag)]) => ?_)
         refine cl trivial rfl (sHeadBytes (ka := ka2) (Aqa := Aqa2) (cqa := cqa2) (qa := qa2) (na := na2) (pa := pa2) (kb := kb2) (Aqb := Aqb2) (cqb := cqb2) (qb := qb2) (nb := nb2) (pb := pb2) (Atg := (some ⟨b2, 0, none⟩)) (ctg := 0) (tg := ([] : List (Int × Int))) (w := _) (hqa := (hs16.sl0 1 rfl)) (hna_n := (by first | omega | exact Nat.le_trans (connT_len _ _ _ _) (by omega) | (simp; done) | (simp; omega))) (hqb := (hs16.sl0 2 rfl)) (hnb_n := (by first | omega | exact Nat.le_trans (connT_len _ _ _ _) (by omega) | (simp; done) | (simp; omega))) (htg := (hs16.sl0 4 rfl)) (h0g := (by first | omega | assumption | (simp; done) | (simp; omega)))) ?_
         rintro _ w16 ⟨A6, c7, r4, fl1, rfl, p23, hs17'⟩
         have hs17 : SH w w16 [rb] [.blk rb 47 [.slice Ab bs.length cb, I ((q6 : Nat) : Int)], .own Aqa2 qa2.length cqa2 3 1 (qa2.map I), .own Aqb2 qb2.length cqb2 3 1 (qb2.map I), .blk b1 61 [I ka2, .slice Aqa2 qa2.length cqa2, Str na2, I pa2, I kb2, .slice Aqb2 qb2.length cqb2, Str nb2, I pb2], .own (some ⟨b2, 0, none⟩) (([] : List (Int × Int)).length) 0 86 2 (([] : List (Int × Int)).flatMap gTag), .own A6 r4.length c7 3 1 (r4.map I)] := hs16.call0 hs17'
         clear hs17'
         refine q trivial rfl rfl (mv (v := .tuple #[.slice A6 r4.length c7, .bool fl1]) rfl) ?_
         refine q trivial rfl rfl (xt 0 (v := .slice A6 r4.length c7) rfl rfl) ?_
         refine q trivial rfl rfl (xt 1 (v := .bool fl1) rfl rfl) ?_
         refine q trivial rfl rfl (asg (v := .slice A6 r4.length c7) rfl) ?_
         refine q trivial rfl rfl (asg (v := .bool fl1) rfl) ?_
         refine nl ?_
         refine nN ?_
         have hs18 : SH w w16 [rb] [.blk rb 47 [.slice Ab bs.length cb, I ((q6 : Nat) : Int)], .own A6 r4.length c7 3 1 (r4.map I)] := hs17.pick [0, 5] rfl (by decide)
         refine sq ?_
         refine rg ?_
         refine q trivial rfl rfl (mv (v := .slice A6 r4.length c7) rfl) ?_
         refine q trivial rfl rfl (asg (v := .slice A6 r4.length c7) rfl) ?_
         refine nl ?_
         refine nN ?_
         refine rt ?_
         refine fret (v := .slice A6 r4.length c7) (.tmp .nil) rfl ?_
         exact ⟨A6, c7, r4, q6, rfl, (by first | exact Nat.le_trans (oldP_len _ _ _ _ _ _) (by omega) | exact Nat.le_trans (helloP_len _) (by omega) | (rw [textI_len]; first | exact connT_len _ _ _ _ | omega) | omega), (by omega), hs18⟩

theorem drawCountKinds {Acs : Option Addr} {ccs : Nat} (cs : List UInt8) (w : World) (hcs : Sl w [] 1 Acs cs.length ccs (cs.map U)) : Does Try.prog 15 [.slice Acs cs.length ccs] w (fun v w' => ∃ Ar : Option Addr, ∃ cr : Nat, ∃ us : List Hd, v = .slice Ar us.length cr ∧ (us.length ≤ 6) ∧ SH w w' [] [.own Ar us.length cr 24 1 (us.map hv), .rows 3 us]) := by
 refine fn_enter (N := 25) Try.func15 rfl (by kernel_rfl) rfl rfl rfl ?_
 have hs0 : SH w w [] [] := SH.refl w []
 have hcs_m : cs.length ≤ 9223372036854775807 := Nat.le_trans hcs.cap hcs.capMax
 refine sq ?_
 refine rg ?_
 refine q trivial rfl rfl (asg (v := ns) rfl) ?_
 refine nl ?_
 refine nN ?_
 refine sq ?_
 refine rg ?_
 refine q trivial rfl rfl (mv (v := .slice Acs cs.length ccs) rfl) ?_
 refine cl trivial rfl (l6Open (Acs := Acs) (ccs := ccs) (cs := cs) (w := _) (hcs := (hcs.up0 hs0))) ?_
 rintro _ w1 ⟨g1, rfl, hs1'⟩
 have hs1 : SH w w1 [] [.blk g1 47 [.slice Acs ((cs.take 2000).length) ccs, I 0]] := hs0.call0 hs1'
 clear hs1'
 refine q trivial rfl rfl (asg (v := pB g1) rfl) ?_
 refine nl ?_
 refine nN ?_
 refine sq ?_
 refine rg ?_
 refine bsk hs1 sl22 [] [] trivial rfl (fun b1 w2 (hs2 : SH w w2 [] [.blk g1 47 [.slice Acs ((cs.take 2000).length) ccs, I 0], .own (some ⟨b1, 0, none⟩) (([] : List Hd).length) 0 24 1 (([] : List Hd).map hv)]) => ?_)
 refine q trivial rfl rfl (asg (v := sb b1 (([] : List Hd).length) 0) rfl) ?_
 refine nl ?_
 refine nN ?_
 refine sq ?_
 refine rg ?_
 refine q trivial rfl rfl (mv (v := pB g1) rfl) ?_
 refine cl trivial rfl (pick (rb := g1) (Ab := Acs) (cb := ccs) (bs := cs.take 2000) (p := 0) (n := 6) (w := _) (hr := (blk_heap hs2 0 rfl)) (hb := (Sl.take_ (hcs.up hs2 (by simp) (fun k h => .inr (hs2.lo1 0 rfl k h))) 2000)) (hbn := (by first | assumption | (simp; omega))) (hp := (by omega))) ?_
 rintro _ w3 ⟨r1, q1, rfl, p1, p2, hs3'⟩
 have hs3 : SH w w3 [] [.own (some ⟨b1, 0, none⟩) (([] : List Hd).length) 0 24 1 (([] : List Hd).map hv), .blk g1 47 [.slice Acs ((cs.take 2000).length) ccs, I ((q1 : Nat) : Int)]] := hs2.callM 0 rfl hs3' (by intro k hk; simp at hk; exact hk.symm)
 clear hs3'
 refine q trivial rfl rfl (asg (v := I r1) rfl) ?_
 refine nl ?_
 refine nN ?_
 refine sq ?_
 refine sq ?_
 refine rg ?_
 refine q trivial rfl rfl (asg (v := I 0) rfl) ?_
 refine nl ?_
 refine nN ?_
 refine bl ?_
 have hs4 : SH w w3 [] [.own (some ⟨b1, 0, none⟩) (([] : List Hd).length) 0 24 1 (([] : List Hd).map hv), .blk g1 47 [.slice Acs ((cs.take 2000).length) ccs, I ((q1 : Nat) : Int)], .rows 3 ([] : List Hd)] := hs3.rows0 3
 refine lp (σ := (Option Addr) × Nat × Nat × Nat × (List Hd)) (fun ⟨Ag4, cg4, q0, k, us⟩ f w' => Has f [(3, pB g1), (4, .slice Ag4 us.length cg4), (5, I r1), (6, I ((k : Nat) : Int))] ∧ (((k : Nat) : Int) ≤ r1) ∧ (us.length = k) ∧ (q0 ≤ 2000 + 400 * k) ∧ SH w w' [] [.own Ag4 us.length cg4 24 1 (us.map hv), .blk g1 47 [.slice Acs ((cs.take 2000).length) ccs, I ((q0 : Nat) : Int)], .rows 3 us]) (fun ⟨Ag4, cg4, q0, k, us⟩ => r1.toNat - k) ((some ⟨b1, 0, none⟩), 0, q1, 0, ([] : List Hd)) ⟨⟨rfl, rfl, rfl, rfl, trivial⟩, (by omega), (by simp), (by omega), hs4⟩ ?_
 rintro ⟨Ag4, cg4, q0, k, us⟩ f w4 ⟨hf, hk, hz, hq, hs5⟩
 obtain ⟨g2, rfl⟩ := has_upd hf
 clear hf
 refine sq ?_
 refine sq ?_
 refine rg ?_
 refine q trivial rfl rfl (mv (v := I ((k : Nat) : Int)) rfl) ?_
 refine q trivial rfl rfl (mv (v := I r1) rfl) ?_
 refine q trivial rfl rfl (lss (k := .i64) (a := ((k : Nat) : Int)) (b := r1) rfl rfl) ?_
 refine nl ?_
 refine nN ?_
 refine cdd (p := ((k : Nat) : Int) < r1) rfl (fun h1 => ?_) (fun h1 => ?_)
 · refine sk ?_
   refine nN ?_
   refine sq ?_
   refine bl ?_
   refine rg ?_
   refine q trivial rfl rfl (mv (v := .slice Ag4 us.length cg4) rfl) ?_
   refine q trivial rfl rfl (mv (v := pB g1) rfl) ?_
   refine q trivial rfl rfl (mv (v := pB g1) rfl) ?_
   refine cl trivial rfl (l92Frame (rb := g1) (Ab := Acs) (cb := ccs) (bs := cs.take 2000) (p := q0) (w := _) (hr := (blk_heap hs5 1 rfl)) (hb := (Sl.take_ (hcs.up hs5 (by simp) (fun k h => .inr (hs5.lo1 1 rfl k h))) 2000)) (hbn := (by first | assumption | (simp; omega))) (hp := (by omega))) ?_
   rintro _ w5 ⟨A1, c1, r2, q2, rfl, p3, p4, hs6'⟩
   have hs6 : SH w w5 [] [.own Ag4 us.length cg4 24 1 (us.map hv), .rows 3 us, .blk g1 47 [.slice Acs ((cs.take 2000).length) ccs, I ((q2 : Nat) : Int)], .own A1 r2.length c1 3 1 (r2.map I)] := hs5.callM 1 rfl hs6' (by intro k hk; simp at hk; exact hk.symm)
   clear hs6'
   refine cl trivial rfl (l91Changed (rb := g1) (Ab := Acs) (cb := ccs) (bs := cs.take 2000) (p := q2) (Axs := A1) (cxs := c1) (xs := r2) (w := _) (hr := (blk_heap hs6 2 rfl)) (hb := (Sl.take_ (hcs.up hs6 (by simp) (fun k h => .inr ((hs6.lo3 2 rfl 3 rfl k h).resolve_left (by simp)))) 2000)) (hbn := (by first | assumption | (simp; omega))) (hp := (by omega)) (hxr := (it_dis hs6 3 2 (by decide) rfl rfl)) (hxs := (own_ok hs6 3 rfl)) (hxs_n := (by first | omega | (simp; done) | (simp; omega)))) ?_
   rintro _ w6 ⟨A2, c2, r3, q3, rfl, p5, p6, hs7'⟩
   have hs7 : SH w w6 [] [.own Ag4 us.length cg4 24 1 (us.map hv), .rows 3 us, .blk g1 47 [.slice Acs ((cs.take 2000).length) ccs, I ((q3 : Nat) : Int)], .own A2 r3.length c2 3 1 (r3.map I)] := SH.callK (K := [.blk g1 47 [.slice Acs ((cs.take 2000).length) ccs, I ((q2 : Nat) : Int)], .own A1 r2.length c1 3 1 (r2.map I)]) (R := [.own Ag4 us.length cg4 24 1 (us.map hv), .rows 3 us]) (hs6.pick [2, 3, 0, 1] rfl (by decide)) hs7' rfl
   clear hs7'
   refine bsk hs7 sl22 [.slice A2 r3.length c2] [.slice A2 r3.length c2] trivial rfl (fun b2 w7 (hs8 : SH w w7 [] [.own Ag4 us.length cg4 24 1 (us.map hv), .rows 3 us, .blk g1 47 [.slice Acs ((cs.take 2000).length) ccs, I ((q3 : Nat) : Int)], .own A2 r3.length c2 3 1 (r3.map I), .own (some ⟨b2, 0, none⟩) (([(⟨A2, c2, r3⟩ : Hd)] : List Hd).length) 1 24 1 (([(⟨A2, c2, r3⟩ : Hd)] : List Hd).map hv)]) => ?_)
   refine apm (g := hv) (ys := us) (zs := ([(⟨A2, c2, r3⟩ : Hd)] : List Hd)) hs8 0 rfl sl22 rfl rfl rfl (hs8.sl0 4 rfl) (fun _ => rfl) (by unfold maxLen; first | omega | (simp; done) | (simp; omega)) (by first | omega | (simp; done) | (simp; omega)) trivial rfl (fun A3 c3 w8 (hs9 : SH w w8 [] [.rows 3 us, .blk g1 47 [.slice Acs ((cs.take 2000).length) ccs, I ((q3 : Nat) : Int)], .own A2 r3.length c2 3 1 (r3.map I), .own (some ⟨b2, 0, none⟩) (([(⟨A2, c2, r3⟩ : Hd)] : List Hd).length) 1 24 1 (([(⟨A2, c2, r3⟩ : Hd)] : List Hd).map hv), .own A3 ((us ++ ([(⟨A2, c2, r3⟩ : Hd)] : List Hd)).length) c3 24 1 ((us ++ ([(⟨A2, c2, r3⟩ : Hd)] : List Hd)).map hv)]) => ?_)
   have hs10 : SH w w8 [] [.blk g1 47 [.slice Acs ((cs.take 2000).length) ccs, I ((q3 : Nat) : Int)], .own (some ⟨b2, 0, none⟩) (([(⟨A2, c2, r3⟩ : Hd)] : List Hd).length) 1 24 1 (([(⟨A2, c2, r3⟩ : Hd)] : List Hd).map hv), .own A3 ((us ++ ([(⟨A2, c2, r3⟩ : Hd)] : List Hd)).length) c3 24 1 ((us ++ ([(⟨A2, c2, r3⟩ : Hd)] : List Hd)).map hv), .rows 3 (us ++ [(⟨A2, c2, r3⟩ : Hd)])] := SH.rows_push (e := 3) (us := us) (L := [.blk g1 47 [.slice Acs ((cs.take 2000).length) ccs, I ((q3 : Nat) : Int)], .own (some ⟨b2, 0, none⟩) (([(⟨A2, c2, r3⟩ : Hd)] : List Hd).length) 1 24 1 (([(⟨A2, c2, r3⟩ : Hd)] : List Hd).map hv), .own A3 ((us ++ ([(⟨A2, c2, r3⟩ : Hd)] : List Hd)).length) c3 24 1 ((us ++ ([(⟨A2, c2, r3⟩ : Hd)] : List Hd)).map hv)]) A2 c2 r3 (hs9.pick [0, 2, 1, 3, 4] rfl (by decide))
   refine q trivial rfl rfl (asg (v := .slice A3 ((us ++ ([(⟨A2, c2, r3⟩ : Hd)] : List Hd)).length) c3) rfl) ?_
   refine nl ?_
   refine bN ?_
   refine nN ?_
   refine rg ?_
   refine q trivial rfl rfl (mv (v := I ((k : Nat) : Int)) rfl) ?_
   refine q trivial rfl rfl (add (a := ((k : Nat) : Int)) (b := 1) rfl rfl (by exact ⟨by omega, by omega⟩)) ?_
   refine q trivial rfl rfl (asg (v := I (((k : Nat) : Int) + 1)) rfl) ?_
   refine nl ?_
   refine nN ?_
   have e1 : us ++ ([(⟨A2, c2, r3⟩ : Hd)] : List Hd) = (us ++ [(⟨A2, c2, r3⟩ : Hd)]) := by rfl
   have e2 : (us ++ ([(⟨A2, c2, r3⟩ : Hd)] : List Hd)).length = (us ++ [(⟨A2, c2, r3⟩ : Hd)]).length := by rw [e1]
   refine ⟨(A3, c3, q3, k + 1, (us ++ [(⟨A2, c2, r3⟩ : Hd)])), ⟨⟨rfl, (show (.slice A3 ((us ++ ([(⟨A2, c2, r3⟩ : Hd)] : List Hd)).length) c3 : Value) = .slice A3 ((us ++ [(⟨A2, c2, r3⟩ : Hd)]).length) c3 from slv rfl e2 rfl), rfl, rfl, trivial⟩, (by omega), (by simp; omega), (by omega), ((hs10.pick [2, 0, 3] rfl (by decide)).cast (lc (own_eq (g := hv) rfl e2 rfl e1) (lc rfl (lc rfl rfl))))⟩, ?_⟩
   show r1.toNat - (k + 1) < r1.toNat - k
   omega
 · refine ex (tE (tE (bE ?_)))
   refine nN ?_
   refine sq ?_
   refine rg ?_
   refine q trivial rfl rfl (mv (v := .slice Ag4 us.length cg4) rfl) ?_
   refine q trivial rfl rfl (asg (v := .slice Ag4 us.length cg4) rfl) ?_
   refine nl ?_
   refine nN ?_
   refine rt ?_
   refine fret (v := .slice Ag4 us.length cg4) (.tmp .nil) rfl ?_
   exact ⟨Ag4, cg4, us, rfl, (by omega), (hs5.pick [0, 2] rfl (by decide))⟩


end Go.Proofs.Ytjehmnojfpedjaa
