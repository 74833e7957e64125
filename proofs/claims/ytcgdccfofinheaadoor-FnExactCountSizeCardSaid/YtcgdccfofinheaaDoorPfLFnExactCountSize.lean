/-
  Part of the proofs over this seat: what each function of the program computes, function by function (the text is written by a program of this hand-in's own).
  Conditions: each theorem states its own.
-/
import Derived.Test.YtcgdccfofinheaaDoorPfWalks5
namespace Go.Proofs.YtcgdccfofinheaaDoor
open Go.PF
set_option maxRecDepth 100000
set_option linter.unusedSimpArgs false
set_option linter.unusedVariables false

theorem lExactCountSize (ak : Int) {Aaq : Option Addr} {caq : Nat} (aq : List Int) (an : List UInt8) (apt : Int) (w : World) (haq : Sl w [] 1 Aaq aq.length caq (aq.map I)) (han_n : an.length ≤ 9223372036854775807) (hGp : Lib.TabIs Tryd.prog w "internal/strconv.uint64pow10" .u64 Lib.pow10Tab) : Does Tryd.prog 5 [.agg #[I ak, .slice Aaq aq.length caq, Str an, I apt]] w (fun v w' => v = .bool true ∧ SH w w' [] []) := by
 refine fn_enter (N := 49) Tryd.func5 rfl (by kernel_rfl) rfl rfl rfl ?_
 have hs0 : SH w w [] [] := SH.refl w []
 have haq_m : aq.length ≤ 9223372036854775807 := Nat.le_trans haq.cap haq.capMax
 refine sq ?_
 refine rg ?_
 refine bx (v := .agg #[I ak, .slice Aaq aq.length caq, Str an, I apt]) (cs := [I ak, .slice Aaq aq.length caq, Str an, I apt]) hs0 rfl rfl trivial rfl (fun b1 w1 (hs1 : SH w w1 [] [.blk b1 35 [I ak, .slice Aaq aq.length caq, Str an, I apt]]) => ?_)
 refine q trivial rfl rfl (asg (v := .bool false) rfl) ?_
 refine nl ?_
 refine nN ?_
 refine sq ?_
 refine rg ?_
 refine q trivial rfl rfl (asg (v := I 1048576) rfl) ?_
 refine nl ?_
 refine nN ?_
 refine sq ?_
 refine rg ?_
 refine q trivial rfl rfl (ldg (vs := [I ak, .slice Aaq aq.length caq, Str an, I apt]) hs1 0 rfl rfl rfl rfl ag35) ?_
 refine q trivial rfl rfl (mv (v := I 1048576) rfl) ?_
 refine cl trivial rfl (szAddress (ak := ak) (Aaq := Aaq) (caq := caq) (aq := aq) (an := an) (apt := apt) (z := 1048576) (w := _) (haq := (haq.up0 hs1)) (han_n := (by first | omega | (simp; done) | (simp; omega))) (hz := (by first | omega | assumption | (simp; done) | (simp; omega)))) ?_
 rintro _ w2 ⟨r1, rfl, p1, p2, hs2'⟩
 have hs2 : SH w w2 [] [.blk b1 35 [I ak, .slice Aaq aq.length caq, Str an, I apt]] := hs1.call0 hs2'
 clear hs2'
 refine q trivial rfl rfl (asg (v := I r1) rfl) ?_
 refine nl ?_
 refine nN ?_
 refine sq ?_
 refine sq ?_
 refine rg ?_
 refine q trivial rfl rfl (mv (v := I r1) rfl) ?_
 refine q trivial rfl rfl (lss (k := .i64) (a := r1) (b := 0) rfl rfl) ?_
 refine nl ?_
 refine nN ?_
 refine cdd (p := r1 < 0) rfl (fun h1 => ?_) (fun h1 => ?_)
 · refine sq ?_
   refine rg ?_
   refine q trivial rfl rfl (asg (v := .bool true) rfl) ?_
   refine nl ?_
   refine nN ?_
   refine rt (tR ?_)
   refine fret (v := .bool true) (.tmp .nil) rfl ?_
   exact ⟨rfl, (hs2.pick [] rfl (by decide))⟩
 · refine sk ?_
   refine nN ?_
   refine sq ?_
   refine rg ?_
   refine q trivial rfl rfl (ldg (vs := [I ak, .slice Aaq aq.length caq, Str an, I apt]) hs2 0 rfl rfl rfl rfl ag35) ?_
   refine cl trivial rfl (toAddress (ak := ak) (Aaq := Aaq) (caq := caq) (aq := aq) (an := an) (apt := apt) (w := _) (haq := (haq.up0 hs2)) (haq_n := (by first | omega | (simp; done) | (simp; omega)))) ?_
   rintro _ w3 ⟨Aq1, cq1, rfl, hs3'⟩
   have hs3 : SH w w3 [] [.blk b1 35 [I ak, .slice Aaq aq.length caq, Str an, I apt], .own Aq1 aq.length cq1 3 1 (aq.map I)] := hs2.call0 hs3'
   clear hs3'
   refine cl trivial rfl (sCountSize (ak := ak) (Aaq := Aq1) (caq := cq1) (aq := aq) (an := an) (apt := apt) (w := _) (haq := (hs3.sl0 1 rfl)) (han_n := (by first | omega | (simp; done) | (simp; omega)))) ?_
   rintro _ w4 ⟨rfl, hs4'⟩
   have hs4 : SH w w4 [] [.blk b1 35 [I ak, .slice Aaq aq.length caq, Str an, I apt], .own Aq1 aq.length cq1 3 1 (aq.map I)] := hs3.call0 hs4'
   clear hs4'
   refine q trivial rfl rfl (mv (v := .tuple #[I (((sizeP ak aq an apt).1 : Nat) : Int), I (((sizeP ak aq an apt).2.1 : Nat) : Int), I (((sizeP ak aq an apt).2.2 : Nat) : Int)]) rfl) ?_
   refine q trivial rfl rfl (xt 0 (v := I (((sizeP ak aq an apt).1 : Nat) : Int)) rfl rfl) ?_
   refine q trivial rfl rfl (xt 1 (v := I (((sizeP ak aq an apt).2.1 : Nat) : Int)) rfl rfl) ?_
   refine q trivial rfl rfl (xt 2 (v := I (((sizeP ak aq an apt).2.2 : Nat) : Int)) rfl rfl) ?_
   refine q trivial rfl rfl (asg (v := I (((sizeP ak aq an apt).1 : Nat) : Int)) rfl) ?_
   refine q trivial rfl rfl (asg (v := I (((sizeP ak aq an apt).2.1 : Nat) : Int)) rfl) ?_
   refine q trivial rfl rfl (asg (v := I (((sizeP ak aq an apt).2.2 : Nat) : Int)) rfl) ?_
   refine nl ?_
   refine nN ?_
   refine sq ?_
   refine rg ?_
   refine q trivial rfl rfl (ldg (vs := [I ak, .slice Aaq aq.length caq, Str an, I apt]) hs4 0 rfl rfl rfl rfl ag35) ?_
   refine cl trivial rfl (toAddress (ak := ak) (Aaq := Aaq) (caq := caq) (aq := aq) (an := an) (apt := apt) (w := _) (haq := (haq.up0 hs4)) (haq_n := (by first | omega | (simp; done) | (simp; omega)))) ?_
   rintro _ w5 ⟨Aq2, cq2, rfl, hs5'⟩
   have hs5 : SH w w5 [] [.blk b1 35 [I ak, .slice Aaq aq.length caq, Str an, I apt], .own Aq1 aq.length cq1 3 1 (aq.map I), .own Aq2 aq.length cq2 3 1 (aq.map I)] := hs4.call0 hs5'
   clear hs5'
   refine al (v := .agg #[I 0, ns, Str [], I 0]) (cs := [I 0, ns, Str [], I 0]) hs5 tz25 rfl trivial rfl (fun b2 w6 (hs6 : SH w w6 [] [.blk b1 35 [I ak, .slice Aaq aq.length caq, Str an, I apt], .own Aq1 aq.length cq1 3 1 (aq.map I), .own Aq2 aq.length cq2 3 1 (aq.map I), .blk b2 25 [I 0, ns, Str [], I 0]]) => ?_)
   refine stg (vs := [I ak, .slice Aq2 aq.length cq2, Str an, I apt]) hs6 3 rfl rfl rfl rfl rfl rfl rfl ag25 trivial (fun w7 (hs7 : SH w w7 [] [.blk b1 35 [I ak, .slice Aaq aq.length caq, Str an, I apt], .own Aq1 aq.length cq1 3 1 (aq.map I), .own Aq2 aq.length cq2 3 1 (aq.map I), .blk b2 25 [I ak, .slice Aq2 aq.length cq2, Str an, I apt]]) => ?_)
   refine nl ?_
   refine nN ?_
   refine sq ?_
   refine rg ?_
   refine q trivial rfl rfl (ldg (vs := [I ak, .slice Aq2 aq.length cq2, Str an, I apt]) hs7 3 rfl rfl rfl rfl ag25) ?_
   refine cl trivial rfl (iCountSize (ak := ak) (Aaq := Aq2) (caq := cq2) (aq := aq) (an := an) (apt := apt) (w := _) (haq := (hs7.sl0 2 rfl)) (han_n := (by first | omega | (simp; done) | (simp; omega))) (hGp := (tab_up hGp hs7))) ?_
   rintro _ w8 ⟨rfl, hs8'⟩
   have hs8 : SH w w8 [] [.blk b1 35 [I ak, .slice Aaq aq.length caq, Str an, I apt], .own Aq1 aq.length cq1 3 1 (aq.map I), .own Aq2 aq.length cq2 3 1 (aq.map I), .blk b2 25 [I ak, .slice Aq2 aq.length cq2, Str an, I apt]] := hs7.call0 hs8'
   clear hs8'
   refine q trivial rfl rfl (mv (v := .tuple #[I (((sizeP ak aq an apt).1 : Nat) : Int), I (((sizeP ak aq an apt).2.1 : Nat) : Int), I (((sizeP ak aq an apt).2.2 : Nat) : Int)]) rfl) ?_
   refine q trivial rfl rfl (xt 0 (v := I (((sizeP ak aq an apt).1 : Nat) : Int)) rfl rfl) ?_
   refine q trivial rfl rfl (xt 1 (v := I (((sizeP ak aq an apt).2.1 : Nat) : Int)) rfl rfl) ?_
   refine q trivial rfl rfl (xt 2 (v := I (((sizeP ak aq an apt).2.2 : Nat) : Int)) rfl rfl) ?_
   refine q trivial rfl rfl (asg (v := I (((sizeP ak aq an apt).1 : Nat) : Int)) rfl) ?_
   refine q trivial rfl rfl (asg (v := I (((sizeP ak aq an apt).2.1 : Nat) : Int)) rfl) ?_
   refine q trivial rfl rfl (asg (v := I (((sizeP ak aq an apt).2.2 : Nat) : Int)) rfl) ?_
   refine nl ?_
   refine nN ?_
   refine sq ?_
   refine sq ?_
   refine rg ?_
   refine q trivial rfl rfl (mv (v := I (((sizeP ak aq an apt).1 : Nat) : Int)) rfl) ?_
   refine q trivial rfl rfl (mv (v := I (((sizeP ak aq an apt).1 : Nat) : Int)) rfl) ?_
   refine q trivial rfl rfl (nei (k := .i64) (a := (((sizeP ak aq an apt).1 : Nat) : Int)) (b := (((sizeP ak aq an apt).1 : Nat) : Int)) rfl rfl) ?_
   refine q trivial rfl rfl (mv (v := .bool (decide ((((sizeP ak aq an apt).1 : Nat) : Int) ≠ (((sizeP ak aq an apt).1 : Nat) : Int)))) rfl) ?_
   refine spd (p := (((sizeP ak aq an apt).1 : Nat) : Int) ≠ (((sizeP ak aq an apt).1 : Nat) : Int)) 34 rfl (fun h2 => absurd h2 (by exact fun h => h rfl)) (fun h2 => ?_)
   refine q ⟨_, rfl, rfl⟩ rfl rfl (mv (v := I (((sizeP ak aq an apt).2.1 : Nat) : Int)) rfl) ?_
   refine q ⟨_, rfl, rfl⟩ rfl rfl (mv (v := I (((sizeP ak aq an apt).2.1 : Nat) : Int)) rfl) ?_
   refine q ⟨_, rfl, rfl⟩ rfl rfl (nei (k := .i64) (a := (((sizeP ak aq an apt).2.1 : Nat) : Int)) (b := (((sizeP ak aq an apt).2.1 : Nat) : Int)) rfl rfl) ?_
   refine q trivial rfl rfl (pf (v := .bool (decide ((((sizeP ak aq an apt).2.1 : Nat) : Int) ≠ (((sizeP ak aq an apt).2.1 : Nat) : Int)))) rfl rfl) ?_
   refine q trivial rfl rfl (mv (v := .bool (decide ((((sizeP ak aq an apt).2.1 : Nat) : Int) ≠ (((sizeP ak aq an apt).2.1 : Nat) : Int)))) rfl) ?_
   refine spd (p := (((sizeP ak aq an apt).2.1 : Nat) : Int) ≠ (((sizeP ak aq an apt).2.1 : Nat) : Int)) 39 rfl (fun h3 => absurd h3 (by exact fun h => h rfl)) (fun h3 => ?_)
   refine q ⟨_, rfl, rfl⟩ rfl rfl (mv (v := I (((sizeP ak aq an apt).2.2 : Nat) : Int)) rfl) ?_
   refine q ⟨_, rfl, rfl⟩ rfl rfl (mv (v := I (((sizeP ak aq an apt).2.2 : Nat) : Int)) rfl) ?_
   refine q ⟨_, rfl, rfl⟩ rfl rfl (nei (k := .i64) (a := (((sizeP ak aq an apt).2.2 : Nat) : Int)) (b := (((sizeP ak aq an apt).2.2 : Nat) : Int)) rfl rfl) ?_
   refine q trivial rfl rfl (pf (v := .bool (decide ((((sizeP ak aq an apt).2.2 : Nat) : Int) ≠ (((sizeP ak aq an apt).2.2 : Nat) : Int)))) rfl rfl) ?_
   refine nl ?_
   refine nN ?_
   refine cdd (p := (((sizeP ak aq an apt).2.2 : Nat) : Int) ≠ (((sizeP ak aq an apt).2.2 : Nat) : Int)) rfl (fun h4 => absurd h4 (by exact fun h => h rfl)) (fun h4 => ?_)
   refine sk ?_
   refine nN ?_
   refine sq ?_
   refine sq ?_
   refine ra (fun w' => ∃ L, SH w w' [] L ∧ (.blk b1 35 [I ak, .slice Aaq aq.length caq, Str an, I apt]) ∈ L ∧ (.blk b2 25 [I ak, .slice Aq2 aq.length cq2, Str an, I apt]) ∈ L ∧ True) mixed ?_
   have hs9 := hs8.drew
   refine tk (fuel := 3) (is := [0, 1]) (.cons rfl (.cons rfl (.nil))) (by kernel_rfl) (by kernel_rfl) ⟨_, hs9, memi 0 rfl, memi 3 rfl, trivial⟩ ?_
   refine .op trivial rfl rfl (fun wq ⟨Lq, hsq, mh0, mh1, _⟩ => ldgm (vs := [I ak, .slice Aq2 aq.length cq2, Str an, I apt]) hsq mh1 rfl rfl rfl ag25) ?_
   refine .op trivial rfl rfl (fun wq ⟨Lq, hsq, mh0, mh1, _⟩ => ldgm (vs := [I ak, .slice Aaq aq.length caq, Str an, I apt]) hsq mh0 rfl rfl rfl ag35) ?_
   refine .nil ?_
   refine a1 (i := 2) (by kernel_rfl) ?_
   refine one_ rfl ?_
   refine cl trivial rfl (toAddress (ak := ak) (Aaq := Aaq) (caq := caq) (aq := aq) (an := an) (apt := apt) (w := _) (haq := (haq.up0 hs9)) (haq_n := (by first | omega | (simp; done) | (simp; omega)))) ?_
   rintro _ w9 ⟨Aq_10_2, cq_10_2, rfl, hs10'⟩
   have hs10 : SH w w9 [] [.blk b1 35 [I ak, .slice Aaq aq.length caq, Str an, I apt], .own Aq1 aq.length cq1 3 1 (aq.map I), .own Aq2 aq.length cq2 3 1 (aq.map I), .blk b2 25 [I ak, .slice Aq2 aq.length cq2, Str an, I apt], .own Aq_10_2 aq.length cq_10_2 3 1 (aq.map I)] := hs9.call0 hs10'
   clear hs10'
   refine nl (kq ⟨_, hs10, memi 0 rfl, memi 3 rfl, trivial⟩ ?_)
   refine a1 (i := 3) (by kernel_rfl) ?_
   refine one_ rfl ?_
   refine cl trivial rfl (eqAddress (ka := ak) (Aqa := Aq2) (cqa := cq2) (qa := aq) (na := an) (pa := apt) (kb := ak) (Aqb := Aq_10_2) (cqb := cq_10_2) (qb := aq) (nb := an) (pb := apt) (w := _) (hqa := (hs10.sl0 2 rfl)) (hqb := (hs10.sl0 4 rfl))) ?_
   rintro _ w10 ⟨rfl, hs11'⟩
   have hs11 : SH w w10 [] [.blk b1 35 [I ak, .slice Aaq aq.length caq, Str an, I apt], .own Aq1 aq.length cq1 3 1 (aq.map I), .own Aq2 aq.length cq2 3 1 (aq.map I), .blk b2 25 [I ak, .slice Aq2 aq.length cq2, Str an, I apt], .own Aq_10_2 aq.length cq_10_2 3 1 (aq.map I)] := hs10.call0 hs11'
   clear hs11'
   refine nl (kq ⟨_, hs11, memi 0 rfl, memi 3 rfl, trivial⟩ ?_)
   refine tk (fuel := 0) (is := [4]) (.cons rfl (.nil)) (by kernel_rfl) (by kernel_rfl) ⟨_, hs11, memi 0 rfl, memi 3 rfl, trivial⟩ ?_
   refine .op trivial rfl rfl (fun wq _ => nd (p := ak = ak ∧ aq = aq ∧ an = an ∧ apt = apt) rfl) ?_
   refine .nil ?_
   refine ad (by kernel_rfl) ?_
   refine nN ?_
   have hs12 : SH w w10 [] [] := hs11.pick [] rfl (by decide)
   refine cdd (p := ¬ (ak = ak ∧ aq = aq ∧ an = an ∧ apt = apt)) rfl (fun h5 => absurd h5 (by exact fun h => h ⟨rfl, rfl, rfl, rfl⟩)) (fun h5 => ?_)
   refine sk ?_
   refine nN ?_
   refine sq ?_
   refine rg ?_
   refine q trivial rfl rfl (asg (v := .bool true) rfl) ?_
   refine nl ?_
   refine nN ?_
   refine rt ?_
   refine fret (v := .bool true) (.tmp .nil) rfl ?_
   exact ⟨rfl, hs12⟩

end Go.Proofs.YtcgdccfofinheaaDoor
