/-
  Part of the proofs over this seat: what each function of the program computes, function by function (the text is written by a program of this hand-in's own).
  Conditions: each theorem states its own.
-/
import Derived.Test.YtcgdccfofinheaaGreatDoorProg
import Derived.KernelRfl
import Derived.Test.YtcgdccfofinheaaGreatDoorPfModel
import Derived.Test.YtcgdccfofinheaaGreatDoorPfShelf
namespace Go.Proofs.YtcgdccfofinheaaGreatDoor
open Go.PF
set_option maxRecDepth 100000
set_option linter.unusedSimpArgs false
set_option linter.unusedVariables false
theorem ag25 : aggOk Tryz.prog 25 4 = true := by kernel_rfl
theorem ag27 : aggOk Tryz.prog 27 5 = true := by kernel_rfl
theorem ag34 : aggOk Tryz.prog 34 4 = true := by kernel_rfl
theorem ag36 : aggOk Tryz.prog 36 5 = true := by kernel_rfl
theorem ag47 : aggOk Tryz.prog 47 3 = true := by kernel_rfl
theorem ag53 : aggOk Tryz.prog 53 3 = true := by kernel_rfl
theorem fo25_0 : fieldOk Tryz.prog 25 0 0 = true := by kernel_rfl
theorem fo25_1 : fieldOk Tryz.prog 25 1 1 = true := by kernel_rfl
theorem fo25_2 : fieldOk Tryz.prog 25 2 2 = true := by kernel_rfl
theorem fo25_3 : fieldOk Tryz.prog 25 3 3 = true := by kernel_rfl
theorem fo27_0 : fieldOk Tryz.prog 27 0 0 = true := by kernel_rfl
theorem fo27_1 : fieldOk Tryz.prog 27 1 1 = true := by kernel_rfl
theorem fo34_0 : fieldOk Tryz.prog 34 0 0 = true := by kernel_rfl
theorem fo34_1 : fieldOk Tryz.prog 34 1 1 = true := by kernel_rfl
theorem fo34_2 : fieldOk Tryz.prog 34 2 2 = true := by kernel_rfl
theorem fo34_3 : fieldOk Tryz.prog 34 3 3 = true := by kernel_rfl
theorem fo36_0 : fieldOk Tryz.prog 36 0 0 = true := by kernel_rfl
theorem fo36_1 : fieldOk Tryz.prog 36 1 1 = true := by kernel_rfl
theorem fo47_0 : fieldOk Tryz.prog 47 0 0 = true := by kernel_rfl
theorem fo47_1 : fieldOk Tryz.prog 47 1 1 = true := by kernel_rfl
theorem fo47_2 : fieldOk Tryz.prog 47 2 2 = true := by kernel_rfl
theorem fo53_0 : fieldOk Tryz.prog 53 0 0 = true := by kernel_rfl
theorem fo53_1 : fieldOk Tryz.prog 53 1 1 = true := by kernel_rfl
theorem fo53_2 : fieldOk Tryz.prog 53 2 2 = true := by kernel_rfl
theorem fo89_1 : fieldOk Tryz.prog 89 1 1 = true := by kernel_rfl
theorem mixed : Tryz.prog.follows .mixedOrders = true := by kernel_rfl
theorem one23 : oneOk Tryz.prog 23 = true := by kernel_rfl
theorem one3 : oneOk Tryz.prog 3 = true := by kernel_rfl
theorem one4 : oneOk Tryz.prog 4 = true := by kernel_rfl
theorem one73 : oneOk Tryz.prog 73 = true := by kernel_rfl
theorem one9 : oneOk Tryz.prog 9 = true := by kernel_rfl
theorem sl22 : SlT Tryz.prog 22 47 3 32 (.agg #[Str [], .int .i64 0, .bool false]) := SlT.mk' (by kernel_rfl) (by kernel_rfl)
theorem sl23 : SlT Tryz.prog 23 3 1 8 (.int .i64 0) := SlT.mk' (by kernel_rfl) (by kernel_rfl)
theorem sl32 : SlT Tryz.prog 32 53 3 32 (.agg #[Str [], .int .i64 0, .bool false]) := SlT.mk' (by kernel_rfl) (by kernel_rfl)
theorem sl73 : SlT Tryz.prog 73 5 1 1 (.int .u8 0) := SlT.mk' (by kernel_rfl) (by kernel_rfl)
theorem sl81 : SlT Tryz.prog 81 9 1 16 (Str []) := SlT.mk' (by kernel_rfl) (by kernel_rfl)
theorem st9 : Tryz.prog.underlying 9 = some .string := by kernel_rfl
theorem tb4 : Tryz.prog.underlying 4 = some .bool := by kernel_rfl
theorem ti3 : Tryz.prog.underlying 3 = some (.int .i64) := by kernel_rfl
theorem ti5 : Tryz.prog.underlying 5 = some (.int .u8) := by kernel_rfl
theorem tp100 : Tryz.prog.underlying 100 = some (.pointer 5) := by kernel_rfl
theorem tz34 : (Tryz.prog.info? 34).bind (·.zero) = some (.agg #[.int .i64 0, .slice none 0 0, Str [], .int .i64 0]) := by kernel_rfl
theorem tz36 : (Tryz.prog.info? 36).bind (·.zero) = some (.agg #[.int .i64 0, .int .i64 0, .slice none 0 0, Str [], .int .i64 0]) := by kernel_rfl
theorem tz53 : (Tryz.prog.info? 53).bind (·.zero) = some (.agg #[Str [], .int .i64 0, .bool false]) := by kernel_rfl
theorem us73 : Tryz.prog.underlying 73 = some (.slice 5) := by kernel_rfl
theorem sIn (x : Int) (lo : Int) (hi : Int) (w : World)  : Does Tryz.prog 34 [I x, I lo, I hi] w (fun v w' => v = .bool (decide (lo ≤ x ∧ x ≤ hi)) ∧ SH w w' [] []) := by
 refine fn_enter (N := 15) Tryz.func34 rfl (by kernel_rfl) rfl rfl rfl ?_
 have hs0 : SH w w [] [] := SH.refl w []
 refine sq ?_
 refine rg ?_
 refine q trivial rfl rfl (asg (v := .bool false) rfl) ?_
 refine nl ?_
 refine nN ?_
 refine sq ?_
 refine rg ?_
 refine q trivial rfl rfl (mv (v := I x) rfl) ?_
 refine q trivial rfl rfl (mv (v := I lo) rfl) ?_
 refine q trivial rfl rfl (geq (k := .i64) (a := x) (b := lo) rfl rfl) ?_
 refine q trivial rfl rfl (mv (v := .bool (decide (lo ≤ x))) rfl) ?_
 refine spd (p := lo ≤ x) 10 rfl (fun h1 => ?_) (fun h1 => ?_)
 · refine q ⟨_, rfl, rfl⟩ rfl rfl (mv (v := I x) rfl) ?_
   refine q ⟨_, rfl, rfl⟩ rfl rfl (mv (v := I hi) rfl) ?_
   refine q ⟨_, rfl, rfl⟩ rfl rfl (leq (k := .i64) (a := x) (b := hi) rfl rfl) ?_
   refine q trivial rfl rfl (pt (v := .bool (decide (x ≤ hi))) rfl rfl) ?_
   refine q trivial rfl rfl (asg (v := .bool (decide (x ≤ hi))) rfl) ?_
   refine nl ?_
   refine nN ?_
   refine rt ?_
   refine fret (v := .bool (decide (x ≤ hi))) (.tmp .nil) rfl ?_
   have e1 : (decide (x ≤ hi)) = (decide (lo ≤ x ∧ x ≤ hi)) := by simp [*]
   exact ⟨(congrArg (Value.bool) e1), hs0⟩
 · refine gk false rfl rfl rfl rfl rfl ?_
   refine gk false rfl rfl rfl rfl rfl ?_
   refine gk false rfl rfl rfl rfl rfl ?_
   refine q trivial rfl rfl (pf (v := .bool false) rfl rfl) ?_
   refine q trivial rfl rfl (asg (v := .bool false) rfl) ?_
   refine nl ?_
   refine nN ?_
   refine rt ?_
   refine fret (v := .bool false) (.tmp .nil) rfl ?_
   have e2 : false = (decide (lo ≤ x ∧ x ≤ hi)) := by simp [*]
   exact ⟨(congrArg (Value.bool) e2), hs0⟩

theorem iWithin (x : Int) (lo : Int) (hi : Int) (w : World)  : Does Tryz.prog 44 [I x, I lo, I hi] w (fun v w' => v = .bool (decide (lo ≤ x ∧ x ≤ hi)) ∧ SH w w' [] []) := by
 refine fn_enter (N := 15) Tryz.func44 rfl (by kernel_rfl) rfl rfl rfl ?_
 have hs0 : SH w w [] [] := SH.refl w []
 refine sq ?_
 refine rg ?_
 refine q trivial rfl rfl (asg (v := .bool false) rfl) ?_
 refine nl ?_
 refine nN ?_
 refine sq ?_
 refine rg ?_
 refine q trivial rfl rfl (mv (v := I x) rfl) ?_
 refine q trivial rfl rfl (mv (v := I lo) rfl) ?_
 refine q trivial rfl rfl (geq (k := .i64) (a := x) (b := lo) rfl rfl) ?_
 refine q trivial rfl rfl (mv (v := .bool (decide (lo ≤ x))) rfl) ?_
 refine spd (p := lo ≤ x) 10 rfl (fun h1 => ?_) (fun h1 => ?_)
 · refine q ⟨_, rfl, rfl⟩ rfl rfl (mv (v := I x) rfl) ?_
   refine q ⟨_, rfl, rfl⟩ rfl rfl (mv (v := I hi) rfl) ?_
   refine q ⟨_, rfl, rfl⟩ rfl rfl (leq (k := .i64) (a := x) (b := hi) rfl rfl) ?_
   refine q trivial rfl rfl (pt (v := .bool (decide (x ≤ hi))) rfl rfl) ?_
   refine q trivial rfl rfl (asg (v := .bool (decide (x ≤ hi))) rfl) ?_
   refine nl ?_
   refine nN ?_
   refine rt ?_
   refine fret (v := .bool (decide (x ≤ hi))) (.tmp .nil) rfl ?_
   have e1 : (decide (x ≤ hi)) = (decide (lo ≤ x ∧ x ≤ hi)) := by simp [*]
   exact ⟨(congrArg (Value.bool) e1), hs0⟩
 · refine gk false rfl rfl rfl rfl rfl ?_
   refine gk false rfl rfl rfl rfl rfl ?_
   refine gk false rfl rfl rfl rfl rfl ?_
   refine q trivial rfl rfl (pf (v := .bool false) rfl rfl) ?_
   refine q trivial rfl rfl (asg (v := .bool false) rfl) ?_
   refine nl ?_
   refine nN ?_
   refine rt ?_
   refine fret (v := .bool false) (.tmp .nil) rfl ?_
   have e2 : false = (decide (lo ≤ x ∧ x ≤ hi)) := by simp [*]
   exact ⟨(congrArg (Value.bool) e2), hs0⟩

theorem iBV1 (x : Int) (w : World)  : Does Tryz.prog 76 [I x] w (fun v w' => v = .bool (decide (¬ (0 ≤ x ∧ x ≤ 255))) ∧ SH w w' [] []) := by
 refine fn_enter (N := 6) Tryz.func76 rfl (by kernel_rfl) rfl rfl rfl ?_
 have hs0 : SH w w [] [] := SH.refl w []
 refine sq ?_
 refine rg ?_
 refine q trivial rfl rfl (asg (v := .bool false) rfl) ?_
 refine nl ?_
 refine nN ?_
 refine sq ?_
 refine rg ?_
 refine q trivial rfl rfl (mv (v := I x) rfl) ?_
 refine cl trivial rfl (iWithin (x := x) (lo := 0) (hi := 255) (w := _)) ?_
 rintro _ w1 ⟨rfl, hs1'⟩
 have hs1 : SH w w1 [] [] := hs0.call0 hs1'
 clear hs1'
 refine q trivial rfl rfl (nd (p := 0 ≤ x ∧ x ≤ 255) rfl) ?_
 refine q trivial rfl rfl (asg (v := .bool (decide (¬ (0 ≤ x ∧ x ≤ 255)))) rfl) ?_
 refine nl ?_
 refine nN ?_
 refine rt ?_
 refine fret (v := .bool (decide (¬ (0 ≤ x ∧ x ≤ 255)))) (.tmp .nil) rfl ?_
 exact ⟨rfl, hs1⟩

theorem sBytesValid {Azs : Option Addr} {czs : Nat} (zs : List Int) (w : World) (hzs : Sl w [] 1 Azs zs.length czs (zs.map I)) : Does Tryz.prog 63 [.slice Azs zs.length czs] w (fun v w' => v = .bool (isBytes zs) ∧ SH w w' [] []) := by
 refine fn_enter (N := 19) Tryz.func63 rfl (by kernel_rfl) rfl rfl rfl ?_
 have hs0 : SH w w [] [] := SH.refl w []
 have hzs_m : zs.length ≤ 9223372036854775807 := Nat.le_trans hzs.cap hzs.capMax
 refine sq ?_
 refine rg ?_
 refine q trivial rfl rfl (asg (v := .bool false) rfl) ?_
 refine nl ?_
 refine nN ?_
 refine sq ?_
 refine sq ?_
 refine rg ?_
 refine q trivial rfl rfl (asg (v := I 0) rfl) ?_
 refine nl ?_
 refine nN ?_
 refine bl ?_
 refine lp (σ := Nat) (fun (k : Nat) f w' => Has f [(0, .slice Azs zs.length czs), (3, I ((k : Nat) : Int))] ∧ (k ≤ zs.length) ∧ (allB (zs.take k) = true) ∧ SH w w' [] []) (fun k => zs.length - k) 0 ⟨⟨rfl, rfl, trivial⟩, (by simp), (by simp [allB]), hs0⟩ ?_
 rintro k f w1 ⟨hf, hk, ha, hs1⟩
 obtain ⟨g1, rfl⟩ := has_upd hf
 clear hf
 refine sq ?_
 refine sq ?_
 refine rg ?_
 refine q trivial rfl rfl (mv (v := I ((k : Nat) : Int)) rfl) ?_
 refine q trivial rfl rfl (mv (v := .slice Azs zs.length czs) rfl) ?_
 refine q trivial rfl rfl (lnA (n := zs.length) sl23 rfl) ?_
 refine q trivial rfl rfl (lss (k := .i64) (a := ((k : Nat) : Int)) (b := ((zs.length : Nat) : Int)) rfl rfl) ?_
 refine nl ?_
 refine nN ?_
 refine cdd (p := ((k : Nat) : Int) < ((zs.length : Nat) : Int)) rfl (fun h1 => ?_) (fun h1 => ?_)
 · refine sk ?_
   refine nN ?_
   refine sq ?_
   refine bl ?_
   refine sq ?_
   refine rg ?_
   refine q trivial rfl rfl (mv (v := .slice Azs zs.length czs) rfl) ?_
   refine q trivial rfl rfl (mv (v := I ((k : Nat) : Int)) rfl) ?_
   refine ixw1 k sl23 rfl rfl hzs (by first | omega | (simp; done) | (simp; omega)) (getm I 0 (by first | omega | (simp; done) | (simp; omega))) trivial rfl (fun a1 ha1 => ?_)
   refine q trivial rfl rfl (lda (v := I (zs.getD k 0)) hs1 ha1 (fun _ h => h) rfl rfl one3) ?_
   refine cl trivial rfl (sIn (x := zs.getD k 0) (lo := 0) (hi := 255) (w := _)) ?_
   rintro _ w2 ⟨rfl, hs2'⟩
   have hs2 : SH w w2 [] [] := hs1.call0 hs2'
   clear hs2'
   refine q trivial rfl rfl (nd (p := 0 ≤ (zs.getD k 0) ∧ (zs.getD k 0) ≤ 255) rfl) ?_
   refine nl ?_
   refine nN ?_
   refine cdd (p := ¬ (0 ≤ (zs.getD k 0) ∧ (zs.getD k 0) ≤ 255)) rfl (fun h2 => ?_) (fun h2 => ?_)
   · refine sq ?_
     refine rg ?_
     refine q trivial rfl rfl (asg (v := .bool false) rfl) ?_
     refine nl ?_
     refine nN ?_
     refine rt (bR (tR (tR (bR (tR ?_)))))
     refine fret (v := .bool false) (.tmp .nil) rfl ?_
     have e1 : false = isBytes zs := by exact bytes_no1 (k := k) (by omega) (by simpa using h2)
     exact ⟨(congrArg (Value.bool) e1), hs2⟩
   · refine sk ?_
     refine bN ?_
     refine nN ?_
     refine rg ?_
     refine q trivial rfl rfl (mv (v := I ((k : Nat) : Int)) rfl) ?_
     refine q trivial rfl rfl (add (a := ((k : Nat) : Int)) (b := 1) rfl rfl (by exact ⟨by omega, by omega⟩)) ?_
     refine q trivial rfl rfl (asg (v := I (((k : Nat) : Int) + 1)) rfl) ?_
     refine nl ?_
     refine nN ?_
     refine ⟨(k + 1), ⟨⟨rfl, rfl, trivial⟩, (by omega), (allB_step (by omega) ha (by simpa using h2)), hs2⟩, ?_⟩
     omega
 · refine ex (tE (tE (bE ?_)))
   refine nN ?_
   refine sq ?_
   refine rg ?_
   refine q trivial rfl rfl (mv (v := .slice Azs zs.length czs) rfl) ?_
   refine q trivial rfl rfl (lnA (n := zs.length) sl23 rfl) ?_
   refine q trivial rfl rfl (leq (k := .i64) (a := ((zs.length : Nat) : Int)) (b := 120) rfl rfl) ?_
   refine q trivial rfl rfl (asg (v := .bool (decide (((zs.length : Nat) : Int) ≤ 120))) rfl) ?_
   refine nl ?_
   refine nN ?_
   refine rt ?_
   refine fret (v := .bool (decide (((zs.length : Nat) : Int) ≤ 120))) (.tmp .nil) rfl ?_
   have e2 : (decide (((zs.length : Nat) : Int) ≤ 120)) = isBytes zs := by exact bytes_yes (k := k) (by omega) ha
   exact ⟨(congrArg (Value.bool) e2), hs1⟩

theorem slIndexFunc (p : Int → Bool) {Azs : Option Addr} {czs : Nat} (zs : List Int) (kf : FuncId) (w : World) (hzs : Sl w [] 1 Azs zs.length czs (zs.map I)) (hf : ∀ (x : Int) (w : World), Does Tryz.prog kf [.int .i64 x] w (fun v w' => v = .bool (p x) ∧ SH w w' [] [])) : Does Tryz.prog 82 [.slice Azs zs.length czs, .func (.func kf) #[] #[]] w (fun v w' => v = .int .i64 (idxF p zs) ∧ SH w w' [] []) := by
 refine fn_enter (N := 19) Tryz.func82 rfl (by kernel_rfl) rfl rfl rfl ?_
 have hs0 : SH w w [] [] := SH.refl w []
 have hzs_m : zs.length ≤ 9223372036854775807 := Nat.le_trans hzs.cap hzs.capMax
 refine sq ?_
 refine rg ?_
 refine q trivial rfl rfl (asg (v := I 0) rfl) ?_
 refine nl ?_
 refine nN ?_
 refine sq ?_
 refine sq ?_
 refine rg ?_
 refine q trivial rfl rfl (mv (v := .slice Azs zs.length czs) rfl) ?_
 refine q trivial rfl rfl (lnA (n := zs.length) sl23 rfl) ?_
 refine q trivial rfl rfl (mv (v := I 0) rfl) ?_
 refine nl ?_
 refine nN ?_
 refine bl ?_
 refine lp (σ := Nat) (fun (k : Nat) f w' => Has f [(0, .slice Azs zs.length czs), (1, .func (.func kf) #[] #[]), (7, I ((zs.length : Nat) : Int)), (8, I ((k : Nat) : Int))] ∧ (k ≤ zs.length) ∧ (∀ j, j < k → p (zs.getD j 0) = false) ∧ SH w w' [] []) (fun k => zs.length - k) 0 ⟨⟨rfl, rfl, rfl, rfl, trivial⟩, (by simp), (by intro j hj; omega), hs0⟩ ?_
 rintro k f w1 ⟨hf, hk, hn, hs1⟩
 obtain ⟨g1, rfl⟩ := has_upd hf
 clear hf
 refine sq ?_
 refine rg ?_
 refine q trivial rfl rfl (lss (k := .i64) (a := ((k : Nat) : Int)) (b := ((zs.length : Nat) : Int)) rfl rfl) ?_
 refine nl ?_
 refine nN ?_
 refine sq ?_
 refine cdd (p := ((k : Nat) : Int) < ((zs.length : Nat) : Int)) rfl (fun h1 => ?_) (fun h1 => ?_)
 · refine sk ?_
   refine nN ?_
   refine sq ?_
   refine bl ?_
   refine sq ?_
   refine rg ?_
   refine q trivial rfl rfl (mv (v := I ((k : Nat) : Int)) rfl) ?_
   refine q trivial rfl rfl (asg (v := I ((k : Nat) : Int)) rfl) ?_
   refine nl ?_
   refine nN ?_
   refine sq ?_
   refine rg ?_
   refine q trivial rfl rfl (mv (v := .func (.func kf) #[] #[]) rfl) ?_
   refine q trivial rfl rfl (mv (v := .slice Azs zs.length czs) rfl) ?_
   refine q trivial rfl rfl (mv (v := I ((k : Nat) : Int)) rfl) ?_
   refine ixw1 k sl23 rfl rfl hzs (by first | omega | (simp; done) | (simp; omega)) (getm I 0 (by first | omega | (simp; done) | (simp; omega))) trivial rfl (fun a1 ha1 => ?_)
   refine q trivial rfl rfl (lda (v := I (zs.getD k 0)) hs1 ha1 (fun _ h => h) rfl rfl one3) ?_
   refine clv (k := kf) trivial rfl rfl (hf (zs.getD k 0) _) ?_
   rintro _ w2 ⟨rfl, hs2'⟩
   have hs2 : SH w w2 [] [] := hs1.call0 hs2'
   clear hs2'
   refine nl ?_
   refine nN ?_
   refine cd (b := p (zs.getD k 0)) rfl (fun h2 => ?_) (fun h2 => ?_)
   · refine sq ?_
     refine rg ?_
     refine q trivial rfl rfl (mv (v := I ((k : Nat) : Int)) rfl) ?_
     refine q trivial rfl rfl (asg (v := I ((k : Nat) : Int)) rfl) ?_
     refine nl ?_
     refine nN ?_
     refine rt (bR (tR (tR (bR (tR ?_)))))
     refine fret (v := I ((k : Nat) : Int)) (.tmp .nil) rfl ?_
     have e1 : ((k : Nat) : Int) = idxF p zs := by exact idxF_eq (by omega) hn h2
     exact ⟨(congrArg (Value.int .i64) e1), hs2⟩
   · refine sk ?_
     refine bN ?_
     refine nN ?_
     refine rg ?_
     refine q trivial rfl rfl (add (a := ((k : Nat) : Int)) (b := 1) rfl rfl (by exact ⟨by omega, by omega⟩)) ?_
     refine q trivial rfl rfl (mv (v := I (((k : Nat) : Int) + 1)) rfl) ?_
     refine nl ?_
     refine nN ?_
     refine ⟨(k + 1), ⟨⟨rfl, rfl, rfl, rfl, trivial⟩, (by omega), (by intro j hj; rcases Nat.lt_succ_iff_lt_or_eq.1 hj with h | h; exact hn j h; subst h; exact h2), hs2⟩, ?_⟩
     omega
 · refine ex (tE (tE (bE ?_)))
   refine nN ?_
   refine sq ?_
   refine rg ?_
   refine q trivial rfl rfl (asg (v := I (-1)) rfl) ?_
   refine nl ?_
   refine nN ?_
   refine rt ?_
   refine fret (v := I (-1)) (.tmp .nil) rfl ?_
   have e2 : (-1) = idxF p zs := by exact idxF_none (fun j hj => hn j (by omega))
   exact ⟨(congrArg (Value.int .i64) e2), hs1⟩

theorem slContainsFunc (p : Int → Bool) {Azs : Option Addr} {czs : Nat} (zs : List Int) (kf : FuncId) (w : World) (hzs : Sl w [] 1 Azs zs.length czs (zs.map I)) (hf : ∀ (x : Int) (w : World), Does Tryz.prog kf [.int .i64 x] w (fun v w' => v = .bool (p x) ∧ SH w w' [] [])) : Does Tryz.prog 75 [.slice Azs zs.length czs, .func (.func kf) #[] #[]] w (fun v w' => v = .bool (zs.any p) ∧ SH w w' [] []) := by
 refine fn_enter (N := 9) Tryz.func75 rfl (by kernel_rfl) rfl rfl rfl ?_
 have hs0 : SH w w [] [] := SH.refl w []
 have hzs_m : zs.length ≤ 9223372036854775807 := Nat.le_trans hzs.cap hzs.capMax
 refine sq ?_
 refine rg ?_
 refine q trivial rfl rfl (asg (v := .bool false) rfl) ?_
 refine nl ?_
 refine nN ?_
 refine sq ?_
 refine rg ?_
 refine q trivial rfl rfl (mv (v := .slice Azs zs.length czs) rfl) ?_
 refine q trivial rfl rfl (mv (v := .func (.func kf) #[] #[]) rfl) ?_
 refine cl trivial rfl (slIndexFunc (p := p) (Azs := Azs) (czs := czs) (zs := zs) (kf := kf) (w := _) (hzs := (hzs.up0 hs0)) (hf := hf)) ?_
 rintro _ w1 ⟨rfl, hs1'⟩
 have hs1 : SH w w1 [] [] := hs0.call0 hs1'
 clear hs1'
 refine q trivial rfl rfl (geq (k := .i64) (a := idxF p zs) (b := 0) rfl rfl) ?_
 refine q trivial rfl rfl (asg (v := .bool (decide ((0 : Int) ≤ (idxF p zs)))) rfl) ?_
 refine nl ?_
 refine nN ?_
 refine rt ?_
 refine fret (v := .bool (decide ((0 : Int) ≤ (idxF p zs)))) (.tmp .nil) rfl ?_
 have e1 : (decide ((0 : Int) ≤ (idxF p zs))) = zs.any p := by exact idxF_any p zs
 exact ⟨(congrArg (Value.bool) e1), hs1⟩

theorem iBytesValid {Azs : Option Addr} {czs : Nat} (zs : List Int) (w : World) (hzs : Sl w [] 1 Azs zs.length czs (zs.map I)) : Does Tryz.prog 69 [.slice Azs zs.length czs] w (fun v w' => v = .bool (isBytes zs) ∧ SH w w' [] []) := by
 refine fn_enter (N := 11) Tryz.func69 rfl (by kernel_rfl) rfl rfl rfl ?_
 have hs0 : SH w w [] [] := SH.refl w []
 have hzs_m : zs.length ≤ 9223372036854775807 := Nat.le_trans hzs.cap hzs.capMax
 refine sq ?_
 refine rg ?_
 refine q trivial rfl rfl (asg (v := .bool false) rfl) ?_
 refine nl ?_
 refine nN ?_
 refine sq ?_
 refine rg ?_
 refine q trivial rfl rfl (mv (v := .slice Azs zs.length czs) rfl) ?_
 refine q trivial rfl rfl (lnA (n := zs.length) sl23 rfl) ?_
 refine q trivial rfl rfl (leq (k := .i64) (a := ((zs.length : Nat) : Int)) (b := 120) rfl rfl) ?_
 refine q trivial rfl rfl (mv (v := .bool (decide (((zs.length : Nat) : Int) ≤ 120))) rfl) ?_
 refine spd (p := ((zs.length : Nat) : Int) ≤ 120) 6 rfl (fun h1 => ?_) (fun h1 => ?_)
 · refine q ⟨_, rfl, rfl⟩ rfl rfl (mv (v := .slice Azs zs.length czs) rfl) ?_
   refine cl ⟨_, rfl, rfl⟩ rfl (slContainsFunc (p := (fun x => (decide (¬ (0 ≤ x ∧ x ≤ 255))))) (Azs := Azs) (czs := czs) (zs := zs) (kf := 76) (w := _) (hzs := (hzs.up0 hs0)) (hf := (fun x w => iBV1 x w))) ?_
   rintro _ w1 ⟨rfl, hs1'⟩
   have hs1 : SH w w1 [] [] := hs0.call0 hs1'
   clear hs1'
   refine q ⟨_, rfl, rfl⟩ rfl rfl (nt (b := zs.any (fun x => (decide (¬ (0 ≤ x ∧ x ≤ 255))))) rfl) ?_
   refine q trivial rfl rfl (pt (v := .bool (!(zs.any (fun x => (decide (¬ (0 ≤ x ∧ x ≤ 255))))))) rfl rfl) ?_
   refine q trivial rfl rfl (asg (v := .bool (!(zs.any (fun x => (decide (¬ (0 ≤ x ∧ x ≤ 255))))))) rfl) ?_
   refine nl ?_
   refine nN ?_
   refine rt ?_
   refine fret (v := .bool (!(zs.any (fun x => (decide (¬ (0 ≤ x ∧ x ≤ 255))))))) (.tmp .nil) rfl ?_
   have e1 : (!(zs.any (fun x => (decide (¬ (0 ≤ x ∧ x ≤ 255)))))) = isBytes zs := by rw [← isBytes_not]; simp [*]
   exact ⟨(congrArg (Value.bool) e1), hs1⟩
 · refine gk false rfl rfl rfl rfl rfl ?_
   refine gk false rfl rfl rfl rfl rfl ?_
   refine gk false rfl rfl rfl rfl rfl ?_
   refine q trivial rfl rfl (pf (v := .bool false) rfl rfl) ?_
   refine q trivial rfl rfl (asg (v := .bool false) rfl) ?_
   refine nl ?_
   refine nN ?_
   refine rt ?_
   refine fret (v := .bool false) (.tmp .nil) rfl ?_
   have e2 : false = isBytes zs := by rw [← isBytes_not]; simp [*]
   exact ⟨(congrArg (Value.bool) e2), hs0⟩

theorem eqIntS {Axs : Option Addr} {cxs : Nat} (xs : List Int) {Abs : Option Addr} {cbs : Nat} (bs : List Int) (w : World) (hxs : Sl w [] 1 Axs xs.length cxs (xs.map I)) (hbs : Sl w [] 1 Abs bs.length cbs (bs.map I)) : Does Tryz.prog 10 [.slice Axs xs.length cxs, .slice Abs bs.length cbs] w (fun v w' => v = .bool (decide (xs = bs)) ∧ SH w w' [] []) := by
 refine fn_enter (N := 26) Tryz.func10 rfl (by kernel_rfl) rfl rfl rfl ?_
 have hs0 : SH w w [] [] := SH.refl w []
 have hxs_m : xs.length ≤ 9223372036854775807 := Nat.le_trans hxs.cap hxs.capMax
 have hbs_m : bs.length ≤ 9223372036854775807 := Nat.le_trans hbs.cap hbs.capMax
 refine sq ?_
 refine rg ?_
 refine q trivial rfl rfl (asg (v := .bool false) rfl) ?_
 refine nl ?_
 refine nN ?_
 refine sq ?_
 refine sq ?_
 refine rg ?_
 refine q trivial rfl rfl (mv (v := .slice Axs xs.length cxs) rfl) ?_
 refine q trivial rfl rfl (lnA (n := xs.length) sl23 rfl) ?_
 refine q trivial rfl rfl (mv (v := .slice Abs bs.length cbs) rfl) ?_
 refine q trivial rfl rfl (lnA (n := bs.length) sl23 rfl) ?_
 refine q trivial rfl rfl (nei (k := .i64) (a := ((xs.length : Nat) : Int)) (b := ((bs.length : Nat) : Int)) rfl rfl) ?_
 refine nl ?_
 refine nN ?_
 refine cdd (p := ((xs.length : Nat) : Int) ≠ ((bs.length : Nat) : Int)) rfl (fun h1 => ?_) (fun h1 => ?_)
 · refine sq ?_
   refine rg ?_
   refine q trivial rfl rfl (asg (v := .bool false) rfl) ?_
   refine nl ?_
   refine nN ?_
   refine rt (tR ?_)
   refine fret (v := .bool false) (.tmp .nil) rfl ?_
   have e1 : false = (decide (xs = bs)) := by simp; intro h; subst h; exact h1 rfl
   exact ⟨(congrArg (Value.bool) e1), hs0⟩
 · refine sk ?_
   refine nN ?_
   refine sq ?_
   refine sq ?_
   refine rg ?_
   refine q trivial rfl rfl (asg (v := I 0) rfl) ?_
   refine nl ?_
   refine nN ?_
   refine bl ?_
   refine lp (σ := Nat) (fun (k : Nat) f w' => Has f [(0, .slice Axs xs.length cxs), (1, .slice Abs bs.length cbs), (5, I ((k : Nat) : Int))] ∧ (xs.length = bs.length) ∧ (k ≤ xs.length) ∧ (xs.take k = bs.take k) ∧ SH w w' [] []) (fun k => xs.length - k) 0 ⟨⟨rfl, rfl, rfl, trivial⟩, (by omega), (by simp), (by simp), hs0⟩ ?_
   rintro k f w1 ⟨hf, hl, hk, ha, hs1⟩
   obtain ⟨g1, rfl⟩ := has_upd hf
   clear hf
   refine sq ?_
   refine sq ?_
   refine rg ?_
   refine q trivial rfl rfl (mv (v := I ((k : Nat) : Int)) rfl) ?_
   refine q trivial rfl rfl (mv (v := .slice Axs xs.length cxs) rfl) ?_
   refine q trivial rfl rfl (lnA (n := xs.length) sl23 rfl) ?_
   refine q trivial rfl rfl (lss (k := .i64) (a := ((k : Nat) : Int)) (b := ((xs.length : Nat) : Int)) rfl rfl) ?_
   refine nl ?_
   refine nN ?_
   refine cdd (p := ((k : Nat) : Int) < ((xs.length : Nat) : Int)) rfl (fun h2 => ?_) (fun h2 => ?_)
   · refine sk ?_
     refine nN ?_
     refine sq ?_
     refine bl ?_
     refine sq ?_
     refine rq (fun w' => SH w w' [] []) mixed (by kernel_rfl) hs1.drew ?_
     refine qq trivial rfl rfl (fun wq hsq => mv (v := .slice Axs xs.length cxs) rfl) ?_
     refine qq trivial rfl rfl (fun wq hsq => mv (v := I ((k : Nat) : Int)) rfl) ?_
     refine ixq1 k sl23 rfl rfl hxs (by first | omega | (simp; done) | (simp; omega)) (getm I 0 (by first | omega | (simp; done) | (simp; omega))) trivial rfl (fun a1 ha1 => ?_)
     refine qq trivial rfl rfl (fun wq hsq => lda (v := I (xs.getD k 0)) hsq ha1 (fun _ h => h) rfl rfl one3) ?_
     refine qq trivial rfl rfl (fun wq hsq => mv (v := .slice Abs bs.length cbs) rfl) ?_
     refine qq trivial rfl rfl (fun wq hsq => mv (v := I ((k : Nat) : Int)) rfl) ?_
     refine ixq1 k sl23 rfl rfl hbs (by first | omega | (simp; done) | (simp; omega)) (getm I 0 (by first | omega | (simp; done) | (simp; omega))) trivial rfl (fun a2 ha2 => ?_)
     refine qq trivial rfl rfl (fun wq hsq => lda (v := I (bs.getD k 0)) hsq ha2 (fun _ h => h) rfl rfl one3) ?_
     refine qq trivial rfl rfl (fun wq hsq => nei (k := .i64) (a := xs.getD k 0) (b := bs.getD k 0) rfl rfl) ?_
     refine qn (fun w2 hs2 => ?_)
     refine nN ?_
     refine cdd (p := (xs.getD k 0) ≠ (bs.getD k 0)) rfl (fun h3 => ?_) (fun h3 => ?_)
     · refine sq ?_
       refine rg ?_
       refine q trivial rfl rfl (asg (v := .bool false) rfl) ?_
       refine nl ?_
       refine nN ?_
       refine rt (bR (tR (tR (bR (tR ?_)))))
       refine fret (v := .bool false) (.tmp .nil) rfl ?_
       have e2 : false = (decide (xs = bs)) := by simp; intro h; subst h; exact h3 rfl
       exact ⟨(congrArg (Value.bool) e2), hs2⟩
     · refine sk ?_
       refine bN ?_
       refine nN ?_
       refine rg ?_
       refine q trivial rfl rfl (mv (v := I ((k : Nat) : Int)) rfl) ?_
       refine q trivial rfl rfl (add (a := ((k : Nat) : Int)) (b := 1) rfl rfl (by exact ⟨by omega, by omega⟩)) ?_
       refine q trivial rfl rfl (asg (v := I (((k : Nat) : Int) + 1)) rfl) ?_
       refine nl ?_
       refine nN ?_
       refine ⟨(k + 1), ⟨⟨rfl, rfl, rfl, trivial⟩, (hl), (by omega), (take_succ_eq (by omega) (by omega) ha (by simpa using h3)), hs2⟩, ?_⟩
       omega
   · refine ex (tE (tE (bE ?_)))
     refine nN ?_
     refine sq ?_
     refine rg ?_
     refine q trivial rfl rfl (asg (v := .bool true) rfl) ?_
     refine nl ?_
     refine nN ?_
     refine rt ?_
     refine fret (v := .bool true) (.tmp .nil) rfl ?_
     have e3 : true = (decide (xs = bs)) := by simp; exact take_all_eq hl (by omega) ha
     exact ⟨(congrArg (Value.bool) e3), hs1⟩

theorem heldIntS {Axs : Option Addr} {cxs : Nat} (xs : List Int) (k0 : Int) (w : World) (hxs : Sl w [] 1 Axs xs.length cxs (xs.map I)) (hxs_n : xs.length ≤ 1099511627776) (hk0 : 0 ≤ k0 ∧ k0 ≤ 4294967296) : Does Tryz.prog 16 [.slice Axs xs.length cxs, I k0] w (fun v w' => v = .int .i64 (heldI xs k0) ∧ SH w w' [] []) := by
 refine fn_enter (N := 21) Tryz.func16 rfl (by kernel_rfl) rfl rfl rfl ?_
 have hs0 : SH w w [] [] := SH.refl w []
 have hxs_m : xs.length ≤ 9223372036854775807 := Nat.le_trans hxs.cap hxs.capMax
 refine sq ?_
 refine rg ?_
 refine q trivial rfl rfl (asg (v := I 0) rfl) ?_
 refine nl ?_
 refine nN ?_
 refine sq ?_
 refine sq ?_
 refine rg ?_
 refine q trivial rfl rfl (asg (v := I 0) rfl) ?_
 refine nl ?_
 refine nN ?_
 refine bl ?_
 refine lp (σ := Nat) (fun (k : Nat) f w' => Has f [(0, .slice Axs xs.length cxs), (1, I (k0 + (k : Nat))), (5, I ((k : Nat) : Int))] ∧ (k ≤ xs.length) ∧ (xs.take k = marks k0 k) ∧ SH w w' [] []) (fun k => xs.length - k) 0 ⟨⟨rfl, (show (I k0 : Value) = I (k0 + (0 : Nat)) from congrArg (Value.int .i64) (by simp)), rfl, trivial⟩, (by simp), (by simp [marks]), hs0⟩ ?_
 rintro k f w1 ⟨hf, hk, hm, hs1⟩
 obtain ⟨g1, rfl⟩ := has_upd hf
 clear hf
 refine sq ?_
 refine sq ?_
 refine rg ?_
 refine q trivial rfl rfl (mv (v := I ((k : Nat) : Int)) rfl) ?_
 refine q trivial rfl rfl (mv (v := .slice Axs xs.length cxs) rfl) ?_
 refine q trivial rfl rfl (lnA (n := xs.length) sl23 rfl) ?_
 refine q trivial rfl rfl (lss (k := .i64) (a := ((k : Nat) : Int)) (b := ((xs.length : Nat) : Int)) rfl rfl) ?_
 refine nl ?_
 refine nN ?_
 refine cdd (p := ((k : Nat) : Int) < ((xs.length : Nat) : Int)) rfl (fun h1 => ?_) (fun h1 => ?_)
 · refine sk ?_
   refine nN ?_
   refine sq ?_
   refine bl ?_
   refine sq ?_
   refine sq ?_
   refine rg ?_
   refine q trivial rfl rfl (mv (v := .slice Axs xs.length cxs) rfl) ?_
   refine q trivial rfl rfl (mv (v := I ((k : Nat) : Int)) rfl) ?_
   refine ixw1 k sl23 rfl rfl hxs (by first | omega | (simp; done) | (simp; omega)) (getm I 0 (by first | omega | (simp; done) | (simp; omega))) trivial rfl (fun a1 ha1 => ?_)
   refine q trivial rfl rfl (lda (v := I (xs.getD k 0)) hs1 ha1 (fun _ h => h) rfl rfl one3) ?_
   refine q trivial rfl rfl (mv (v := I (k0 + (k : Nat))) rfl) ?_
   refine q trivial rfl rfl (nei (k := .i64) (a := xs.getD k 0) (b := k0 + (k : Nat)) rfl rfl) ?_
   refine nl ?_
   refine nN ?_
   refine cdd (p := (xs.getD k 0) ≠ (k0 + (k : Nat))) rfl (fun h2 => ?_) (fun h2 => ?_)
   · refine sq ?_
     refine rg ?_
     refine q trivial rfl rfl (asg (v := I (-1)) rfl) ?_
     refine nl ?_
     refine nN ?_
     refine rt (tR (bR (tR (tR (bR (tR ?_))))))
     refine fret (v := I (-1)) (.tmp .nil) rfl ?_
     have e1 : (-1) = heldI xs k0 := by exact held_no (by omega) hm (by omega)
     exact ⟨(congrArg (Value.int .i64) e1), hs1⟩
   · refine sk ?_
     refine nN ?_
     refine rg ?_
     refine q trivial rfl rfl (mv (v := I (k0 + (k : Nat))) rfl) ?_
     refine q trivial rfl rfl (add (a := k0 + (k : Nat)) (b := 1) rfl rfl (by exact ⟨by omega, by omega⟩)) ?_
     refine q trivial rfl rfl (asg (v := I ((k0 + (k : Nat)) + 1)) rfl) ?_
     refine nl ?_
     refine bN ?_
     refine nN ?_
     refine rg ?_
     refine q trivial rfl rfl (mv (v := I ((k : Nat) : Int)) rfl) ?_
     refine q trivial rfl rfl (add (a := ((k : Nat) : Int)) (b := 1) rfl rfl (by exact ⟨by omega, by omega⟩)) ?_
     refine q trivial rfl rfl (asg (v := I (((k : Nat) : Int) + 1)) rfl) ?_
     refine nl ?_
     refine nN ?_
     refine ⟨(k + 1), ⟨⟨rfl, (show (I ((k0 + (k : Nat)) + 1) : Value) = I (k0 + ((k + 1) : Nat)) from congrArg (Value.int .i64) (by omega)), rfl, trivial⟩, (by omega), (marks_take (by omega) hm (by omega)), hs1⟩, ?_⟩
     omega
 · refine ex (tE (tE (bE ?_)))
   refine nN ?_
   refine sq ?_
   refine rg ?_
   refine q trivial rfl rfl (mv (v := I (k0 + (k : Nat))) rfl) ?_
   refine q trivial rfl rfl (asg (v := I (k0 + (k : Nat))) rfl) ?_
   refine nl ?_
   refine nN ?_
   refine rt ?_
   refine fret (v := I (k0 + (k : Nat))) (.tmp .nil) rfl ?_
   have e2 : k0 + (k : Nat) = heldI xs k0 := by have : k = xs.length := (by omega); subst this; exact held_yes (by simpa using hm)
   exact ⟨(congrArg (Value.int .i64) e2), hs1⟩

theorem slIndexByte (l : List UInt8) (c : UInt8) (w : World)  : Does Tryz.prog 68 [Str l, .int .u8 ((c.toNat : Nat) : Int)] w (fun v w' => v = .int .i64 (idxB l c) ∧ SH w w' [] []) := by
 refine fn_enter (N := 8) Tryz.func68 rfl (by kernel_rfl) rfl rfl rfl ?_
 have hs0 : SH w w [] [] := SH.refl w []
 refine sq ?_
 refine rg ?_
 refine q trivial rfl rfl (asg (v := I 0) rfl) ?_
 refine nl ?_
 refine nN ?_
 refine sq ?_
 refine rg ?_
 refine q trivial rfl rfl (mv (v := Str l) rfl) ?_
 refine q trivial rfl rfl (mv (v := .int .u8 ((c.toNat : Nat) : Int)) rfl) ?_
 refine q trivial rfl rfl (ibs (l := l) (c := c) Tryz.func74 (by kernel_rfl) rfl (by kernel_rfl) (by kernel_rfl) rfl rfl) ?_
 refine q trivial rfl rfl (asg (v := I (idxB l c)) rfl) ?_
 refine nl ?_
 refine nN ?_
 refine rt ?_
 refine fret (v := I (idxB l c)) (.tmp .nil) rfl ?_
 exact ⟨rfl, hs0⟩

theorem stIndexByte (l : List UInt8) (c : UInt8) (w : World)  : Does Tryz.prog 56 [Str l, .int .u8 ((c.toNat : Nat) : Int)] w (fun v w' => v = .int .i64 (idxB l c) ∧ SH w w' [] []) := by
 refine fn_enter (N := 8) Tryz.func56 rfl (by kernel_rfl) rfl rfl rfl ?_
 have hs0 : SH w w [] [] := SH.refl w []
 refine sq ?_
 refine rg ?_
 refine q trivial rfl rfl (asg (v := I 0) rfl) ?_
 refine nl ?_
 refine nN ?_
 refine sq ?_
 refine rg ?_
 refine q trivial rfl rfl (mv (v := Str l) rfl) ?_
 refine q trivial rfl rfl (mv (v := .int .u8 ((c.toNat : Nat) : Int)) rfl) ?_
 refine cl trivial rfl (slIndexByte (l := l) (c := c) (w := _)) ?_
 rintro _ w1 ⟨rfl, hs1'⟩
 have hs1 : SH w w1 [] [] := hs0.call0 hs1'
 clear hs1'
 refine q trivial rfl rfl (asg (v := I (idxB l c)) rfl) ?_
 refine nl ?_
 refine nN ?_
 refine rt ?_
 refine fret (v := I (idxB l c)) (.tmp .nil) rfl ?_
 exact ⟨rfl, hs1⟩

theorem markIntS {Axs : Option Addr} {cxs : Nat} (xs : List Int) (k0 : Int) (w : World) (hxs : OwnR w Axs xs.length cxs 3 1 (xs.map I)) (hxs_n : xs.length ≤ 1099511627776) (hk0 : 0 ≤ k0 ∧ k0 ≤ 4294967296) : Does Tryz.prog 15 [.slice Axs xs.length cxs, I k0] w (fun v w' => v = .int .i64 (k0 + ((xs.length : Nat) : Int)) ∧ SH w w' (ownM Axs cxs ++ []) [.own Axs xs.length cxs 3 1 ((marks k0 xs.length).map I)]) := by
 refine fn_enter (N := 19) Tryz.func15 rfl (by kernel_rfl) rfl rfl rfl ?_
 have hs0 : SH w w (ownM Axs cxs ++ []) [.own Axs xs.length cxs 3 1 (xs.map I)] := entry1o hxs
 have hxs_m : xs.length ≤ 9223372036854775807 := Nat.le_trans hxs.2.1 hxs.2.2.1
 refine sq ?_
 refine rg ?_
 refine q trivial rfl rfl (asg (v := I 0) rfl) ?_
 refine nl ?_
 refine nN ?_
 refine sq ?_
 refine sq ?_
 refine rg ?_
 refine q trivial rfl rfl (asg (v := I 0) rfl) ?_
 refine nl ?_
 refine nN ?_
 refine bl ?_
 have e1 : xs = marks k0 0 ++ xs.drop 0 := by simp [marks]
 refine lp (σ := (Option Addr) × Nat × Nat) (fun ⟨Ag0, cg0, k⟩ f w' => Has f [(0, .slice Ag0 xs.length cg0), (1, I (k0 + (k : Nat))), (5, I ((k : Nat) : Int))] ∧ (k ≤ xs.length) ∧ (Ag0 = Axs) ∧ (cg0 = cxs) ∧ SH w w' (ownM Axs cxs ++ []) [.own Ag0 xs.length cg0 3 1 ((marks k0 k ++ xs.drop k).map I)]) (fun ⟨Ag0, cg0, k⟩ => xs.length - k) (Axs, cxs, 0) ⟨⟨rfl, (show (I k0 : Value) = I (k0 + (0 : Nat)) from congrArg (Value.int .i64) (by simp)), rfl, trivial⟩, (by simp), (rfl), (rfl), (hs0.cast (lc (own_eq (g := I) rfl rfl rfl e1) rfl))⟩ ?_
 rintro ⟨Ag0, cg0, k⟩ f w1 ⟨hf, hk, hA, hC, hs1⟩
 obtain ⟨g1, rfl⟩ := has_upd hf
 clear hf
 refine sq ?_
 refine sq ?_
 refine rg ?_
 refine q trivial rfl rfl (mv (v := I ((k : Nat) : Int)) rfl) ?_
 refine q trivial rfl rfl (mv (v := .slice Ag0 xs.length cg0) rfl) ?_
 refine q trivial rfl rfl (lnA (n := xs.length) sl23 rfl) ?_
 refine q trivial rfl rfl (lss (k := .i64) (a := ((k : Nat) : Int)) (b := ((xs.length : Nat) : Int)) rfl rfl) ?_
 refine nl ?_
 refine nN ?_
 refine cdd (p := ((k : Nat) : Int) < ((xs.length : Nat) : Int)) rfl (fun h1 => ?_) (fun h1 => ?_)
 · refine sk ?_
   refine nN ?_
   refine sq ?_
   refine bl ?_
   refine sq ?_
   refine rg ?_
   refine q trivial rfl rfl (mv (v := .slice Ag0 xs.length cg0) rfl) ?_
   refine q trivial rfl rfl (mv (v := I ((k : Nat) : Int)) rfl) ?_
   refine q trivial rfl rfl (mv (v := I (k0 + (k : Nat))) rfl) ?_
   obtain ⟨b1, rfl⟩ := own_form hs1 0 rfl (by first | omega | (simp; done) | (simp; omega))
   refine q trivial rfl rfl (ixo k sl23 rfl rfl (by first | omega | (simp; done) | (simp; omega))) ?_
   refine stomn (g := I) (ys := marks k0 k ++ xs.drop k) (o := k) (u := k0 + (k : Nat)) hs1 0 rfl rfl rfl rfl (by omega) rfl one3 trivial (fun w2 (hs2 : SH w w2 (ownM Axs cxs ++ []) [.own (some ⟨b1, 0, none⟩) xs.length cg0 3 1 (((marks k0 k ++ xs.drop k).set k (k0 + (k : Nat))).map I)]) => ?_)
   refine nl ?_
   refine nN ?_
   refine rg ?_
   refine q trivial rfl rfl (mv (v := I (k0 + (k : Nat))) rfl) ?_
   refine q trivial rfl rfl (add (a := k0 + (k : Nat)) (b := 1) rfl rfl (by exact ⟨by omega, by omega⟩)) ?_
   refine q trivial rfl rfl (asg (v := I ((k0 + (k : Nat)) + 1)) rfl) ?_
   refine nl ?_
   refine bN ?_
   refine nN ?_
   refine rg ?_
   refine q trivial rfl rfl (mv (v := I ((k : Nat) : Int)) rfl) ?_
   refine q trivial rfl rfl (add (a := ((k : Nat) : Int)) (b := 1) rfl rfl (by exact ⟨by omega, by omega⟩)) ?_
   refine q trivial rfl rfl (asg (v := I (((k : Nat) : Int) + 1)) rfl) ?_
   refine nl ?_
   refine nN ?_
   have e2 : (marks k0 k ++ xs.drop k).set k (k0 + (k : Nat)) = marks k0 (k + 1) ++ xs.drop (k + 1) := by exact marks_set (by omega)
   refine ⟨((some ⟨b1, 0, none⟩), cg0, k + 1), ⟨⟨rfl, (show (I ((k0 + (k : Nat)) + 1) : Value) = I (k0 + ((k + 1) : Nat)) from congrArg (Value.int .i64) (by omega)), rfl, trivial⟩, (by omega), (hA), (hC), (hs2.cast (lc (own_eq (g := I) rfl rfl rfl e2) rfl))⟩, ?_⟩
   show xs.length - (k + 1) < xs.length - k
   omega
 · refine ex (tE (tE (bE ?_)))
   refine nN ?_
   refine sq ?_
   refine rg ?_
   refine q trivial rfl rfl (mv (v := I (k0 + (k : Nat))) rfl) ?_
   refine q trivial rfl rfl (asg (v := I (k0 + (k : Nat))) rfl) ?_
   refine nl ?_
   refine nN ?_
   refine rt ?_
   refine fret (v := I (k0 + (k : Nat))) (.tmp .nil) rfl ?_
   have e3 : k0 + (k : Nat) = k0 + ((xs.length : Nat) : Int) := by have : k = xs.length := (by omega); subst this; rfl
   have e4 : Ag0 = Axs := by assumption
   have e5 : cg0 = cxs := by assumption
   have e6 : marks k0 k ++ xs.drop k = marks k0 xs.length := by have : k = xs.length := (by omega); subst this; simp
   exact ⟨(congrArg (Value.int .i64) e3), (hs1.cast (lc (own_eq (g := I) e4 rfl e5 e6) rfl))⟩

theorem toIntS {Axs : Option Addr} {cxs : Nat} (xs : List Int) (w : World) (hxs : Sl w [] 1 Axs xs.length cxs (xs.map I)) (hxs_n : xs.length ≤ 1099511627776) : Does Tryz.prog 39 [.slice Axs xs.length cxs] w (fun v w' => ∃ Ar : Option Addr, ∃ cr : Nat, v = .slice Ar xs.length cr ∧ SH w w' [] [.own Ar xs.length cr 3 1 (xs.map I)]) := by
 refine fn_enter (N := 22) Tryz.func39 rfl (by kernel_rfl) rfl rfl rfl ?_
 have hs0 : SH w w [] [] := SH.refl w []
 have hxs_m : xs.length ≤ 9223372036854775807 := Nat.le_trans hxs.cap hxs.capMax
 refine sq ?_
 refine rg ?_
 refine q trivial rfl rfl (asg (v := ns) rfl) ?_
 refine nl ?_
 refine nN ?_
 refine sq ?_
 refine rg ?_
 refine q trivial rfl rfl (mv (v := .slice Axs xs.length cxs) rfl) ?_
 refine q trivial rfl rfl (lnA (n := xs.length) sl23 rfl) ?_
 refine mkm (g := I) (z := 0) (n := xs.length) hs0 sl23 rfl rfl rfl (by omega) (by unfold maxLen; omega) trivial rfl (fun b1 w1 (hs1 : SH w w1 [] [oI b1 (List.replicate xs.length (0 : Int)) xs.length 3]) => ?_)
 refine q trivial rfl rfl (asg (v := sb b1 ((List.replicate xs.length (0 : Int)).length) xs.length) rfl) ?_
 refine nl ?_
 refine nN ?_
 refine sq ?_
 refine sq ?_
 refine rg ?_
 refine q trivial rfl rfl (asg (v := I 0) rfl) ?_
 refine nl ?_
 refine nN ?_
 refine bl ?_
 have e1 : List.replicate xs.length (0 : Int) = xs.take 0 ++ List.replicate (xs.length - 0) (0 : Int) := by simp
 have e2 : (List.replicate xs.length (0 : Int)).length = xs.length := by first | rfl | (simp; done) | (simp; omega) | omega
 refine lp (σ := (Option Addr) × Nat × Nat) (fun ⟨Ag3, cg3, k⟩ f w' => Has f [(0, .slice Axs xs.length cxs), (3, .slice Ag3 xs.length cg3), (4, I ((k : Nat) : Int))] ∧ (k ≤ xs.length) ∧ SH w w' [] [.own Ag3 xs.length cg3 3 1 ((xs.take k ++ List.replicate (xs.length - k) (0 : Int)).map I)]) (fun ⟨Ag3, cg3, k⟩ => xs.length - k) ((some ⟨b1, 0, none⟩), xs.length, 0) ⟨⟨rfl, (show (.slice (some ⟨b1, 0, none⟩) ((List.replicate xs.length (0 : Int)).length) xs.length : Value) = .slice (some ⟨b1, 0, none⟩) xs.length xs.length from slv rfl e2 rfl), rfl, trivial⟩, (by simp), (hs1.cast (lc (own_eq (g := I) rfl e2 rfl e1) rfl))⟩ ?_
 rintro ⟨Ag3, cg3, k⟩ f w2 ⟨hf, hk, hs2⟩
 obtain ⟨g1, rfl⟩ := has_upd hf
 clear hf
 refine sq ?_
 refine sq ?_
 refine rg ?_
 refine q trivial rfl rfl (mv (v := I ((k : Nat) : Int)) rfl) ?_
 refine q trivial rfl rfl (mv (v := .slice Axs xs.length cxs) rfl) ?_
 refine q trivial rfl rfl (lnA (n := xs.length) sl23 rfl) ?_
 refine q trivial rfl rfl (lss (k := .i64) (a := ((k : Nat) : Int)) (b := ((xs.length : Nat) : Int)) rfl rfl) ?_
 refine nl ?_
 refine nN ?_
 refine cdd (p := ((k : Nat) : Int) < ((xs.length : Nat) : Int)) rfl (fun h1 => ?_) (fun h1 => ?_)
 · refine sk ?_
   refine nN ?_
   refine sq ?_
   refine bl ?_
   refine rg ?_
   refine q trivial rfl rfl (mv (v := .slice Ag3 xs.length cg3) rfl) ?_
   refine q trivial rfl rfl (mv (v := I ((k : Nat) : Int)) rfl) ?_
   refine q trivial rfl rfl (mv (v := .slice Axs xs.length cxs) rfl) ?_
   refine q trivial rfl rfl (mv (v := I ((k : Nat) : Int)) rfl) ?_
   refine ixw1 k sl23 rfl rfl hxs (by first | omega | (simp; done) | (simp; omega)) (getm I 0 (by first | omega | (simp; done) | (simp; omega))) trivial rfl (fun a1 ha1 => ?_)
   refine q trivial rfl rfl (lda (v := I (xs.getD k 0)) hs2 ha1 (fun _ h => h) rfl rfl one3) ?_
   obtain ⟨b2, rfl⟩ := own_form hs2 0 rfl (by first | omega | (simp; done) | (simp; omega))
   refine q trivial rfl rfl (ixo k sl23 rfl rfl (by first | omega | (simp; done) | (simp; omega))) ?_
   refine stomn (g := I) (ys := xs.take k ++ List.replicate (xs.length - k) (0 : Int)) (o := k) (u := xs.getD k 0) hs2 0 rfl rfl rfl rfl (by first | omega | (simp; done) | (simp; omega)) rfl one3 trivial (fun w3 (hs3 : SH w w3 [] [.own (some ⟨b2, 0, none⟩) xs.length cg3 3 1 (((xs.take k ++ List.replicate (xs.length - k) (0 : Int)).set k (xs.getD k 0)).map I)]) => ?_)
   refine nl ?_
   refine bN ?_
   refine nN ?_
   refine rg ?_
   refine q trivial rfl rfl (mv (v := I ((k : Nat) : Int)) rfl) ?_
   refine q trivial rfl rfl (add (a := ((k : Nat) : Int)) (b := 1) rfl rfl (by exact ⟨by omega, by omega⟩)) ?_
   refine q trivial rfl rfl (asg (v := I (((k : Nat) : Int) + 1)) rfl) ?_
   refine nl ?_
   refine nN ?_
   have e3 : (xs.take k ++ List.replicate (xs.length - k) (0 : Int)).set k (xs.getD k 0) = xs.take (k + 1) ++ List.replicate (xs.length - (k + 1)) (0 : Int) := by exact copy_set (by omega)
   refine ⟨((some ⟨b2, 0, none⟩), cg3, k + 1), ⟨⟨rfl, rfl, rfl, trivial⟩, (by omega), (hs3.cast (lc (own_eq (g := I) rfl rfl rfl e3) rfl))⟩, ?_⟩
   show xs.length - (k + 1) < xs.length - k
   omega
 · refine ex (tE (tE (bE ?_)))
   refine nN ?_
   refine sq ?_
   refine rg ?_
   refine q trivial rfl rfl (mv (v := .slice Ag3 xs.length cg3) rfl) ?_
   refine q trivial rfl rfl (asg (v := .slice Ag3 xs.length cg3) rfl) ?_
   refine nl ?_
   refine nN ?_
   refine rt ?_
   refine fret (v := .slice Ag3 xs.length cg3) (.tmp .nil) rfl ?_
   have e4 : xs.take k ++ List.replicate (xs.length - k) (0 : Int) = xs := by have : k = xs.length := (by omega); subst this; simp
   exact ⟨Ag3, cg3, rfl, (hs2.cast (lc (own_eq (g := I) rfl rfl rfl e4) rfl))⟩

theorem bStringN {bb : Nat} {pb : Option Addr} (w : World) (hbd : w.heap[bb]? = some (.cells [.pointer pb, .slice none 0 0].toArray 89 (0, 0))) : Does Tryz.prog 81 [pB bb] w (fun v w' => v = Str [] ∧ SH w w' [bb] []) := by
 refine fn_enter (N := 14) Tryz.func81 rfl (by kernel_rfl) rfl rfl rfl ?_
 have hs0 : SH w w [bb] [.blk bb 89 [.pointer pb, ns]] := SH.entry1 hbd
 refine sq ?_
 refine rg ?_
 refine q trivial rfl rfl (asg (v := Str []) rfl) ?_
 refine nl ?_
 refine nN ?_
 refine sq ?_
 refine ra (fun w' => ∃ L, SH w w' [bb] L ∧ (.blk bb 89 [.pointer pb, ns]) ∈ L ∧ True) mixed ?_
 have hs1 := hs0.drew
 refine tk (fuel := 2) (is := [0, 1, 2, 3, 4, 5, 6, 7, 8, 9]) (.cons rfl (.cons rfl (.cons rfl (.cons rfl (.cons rfl (.cons rfl (.cons rfl (.cons rfl (.cons rfl (.cons rfl (.nil))))))))))) (by kernel_rfl) (by kernel_rfl) ⟨_, hs1, memi 0 rfl, trivial⟩ ?_
 refine .op trivial rfl rfl (fun wq _ => mv (v := pB bb) rfl) ?_
 refine .op trivial rfl rfl (fun wq _ => nc rfl) ?_
 refine .op trivial rfl rfl (fun wq _ => fa 1 fo89_1 rfl) ?_
 refine .op trivial rfl rfl (fun wq ⟨Lq, hsq, mh0, _⟩ => ldm (v := ns) hsq mh0 rfl rfl one73) ?_
 refine .op trivial rfl rfl (fun wq _ => usd0 rfl) ?_
 refine .op trivial rfl rfl (fun wq _ => mv (v := pB bb) rfl) ?_
 refine .op trivial rfl rfl (fun wq _ => nc rfl) ?_
 refine .op trivial rfl rfl (fun wq _ => fa 1 fo89_1 rfl) ?_
 refine .op trivial rfl rfl (fun wq ⟨Lq, hsq, mh0, _⟩ => ldm (v := ns) hsq mh0 rfl rfl one73) ?_
 refine .op trivial rfl rfl (fun wq _ => lnA (n := 0) sl73 rfl) ?_
 refine .nil ?_
 refine a1 (i := 10) (by kernel_rfl) ?_
 refine one_ rfl ?_
 refine q trivial rfl rfl (ust0 (p := none) rfl rfl) ?_
 refine nl (kq ⟨_, hs1, memi 0 rfl, trivial⟩ ?_)
 refine tk (fuel := 0) (is := [11]) (.cons rfl (.nil)) (by kernel_rfl) (by kernel_rfl) ⟨_, hs1, memi 0 rfl, trivial⟩ ?_
 refine .op trivial rfl rfl (fun wq _ => asg (v := Str []) rfl) ?_
 refine .nil ?_
 refine ad (by kernel_rfl) ?_
 refine nN ?_
 refine rt ?_
 refine fret (v := Str []) (.tmp .nil) rfl ?_
 exact ⟨rfl, (hs1.pick [] rfl (by decide))⟩

theorem bStringR {bb gb : Nat} {pb : Option Addr} {cbb : Nat} (l : List UInt8) (w : World) (hbd : w.heap[bb]? = some (.cells [.pointer pb, .slice (some ⟨gb, 0, none⟩) l.length cbb].toArray 89 (0, 0))) (hbo : OwnR w (some ⟨gb, 0, none⟩) l.length cbb 5 1 (l.map U)) (hbx : ∀ k, (It.own (some ⟨gb, 0, none⟩) l.length cbb 5 1 (l.map U)).has k → ¬ (It.blk bb 89 [.pointer pb, .slice (some ⟨gb, 0, none⟩) l.length cbb]).has k) (hl0 : 0 < l.length) (hlc : cbb ≠ 0) : Does Tryz.prog 81 [pB bb] w (fun v w' => v = Str l ∧ SH w w' ([bb] ++ (ownM (some ⟨gb, 0, none⟩) cbb ++ [])) []) := by
 refine fn_enter (N := 14) Tryz.func81 rfl (by kernel_rfl) rfl rfl rfl ?_
 have hs0 : SH w w ([bb] ++ (ownM (some ⟨gb, 0, none⟩) cbb ++ [])) [.blk bb 89 [.pointer pb, sb gb l.length cbb], .own (some ⟨gb, 0, none⟩) l.length cbb 5 1 (l.map U)] := entryB hbd hbo hbx
 refine sq ?_
 refine rg ?_
 refine q trivial rfl rfl (asg (v := Str []) rfl) ?_
 refine nl ?_
 refine nN ?_
 refine sq ?_
 refine ra (fun w' => ∃ L, SH w w' ([bb] ++ (ownM (some ⟨gb, 0, none⟩) cbb ++ [])) L ∧ (.blk bb 89 [.pointer pb, sb gb l.length cbb]) ∈ L ∧ True) mixed ?_
 have hs1 := hs0.drew
 refine tk (fuel := 2) (is := [0, 1, 2, 3, 4, 5, 6, 7, 8, 9]) (.cons rfl (.cons rfl (.cons rfl (.cons rfl (.cons rfl (.cons rfl (.cons rfl (.cons rfl (.cons rfl (.cons rfl (.nil))))))))))) (by kernel_rfl) (by kernel_rfl) ⟨_, hs1, memi 0 rfl, trivial⟩ ?_
 refine .op trivial rfl rfl (fun wq _ => mv (v := pB bb) rfl) ?_
 refine .op trivial rfl rfl (fun wq _ => nc rfl) ?_
 refine .op trivial rfl rfl (fun wq _ => fa 1 fo89_1 rfl) ?_
 refine .op trivial rfl rfl (fun wq ⟨Lq, hsq, mh0, _⟩ => ldm (v := sb gb l.length cbb) hsq mh0 rfl rfl one73) ?_
 refine .op trivial rfl rfl (fun wq _ => usd (a := ⟨gb, 0, none⟩) rfl (by exact hlc)) ?_
 refine .op trivial rfl rfl (fun wq _ => mv (v := pB bb) rfl) ?_
 refine .op trivial rfl rfl (fun wq _ => nc rfl) ?_
 refine .op trivial rfl rfl (fun wq _ => fa 1 fo89_1 rfl) ?_
 refine .op trivial rfl rfl (fun wq ⟨Lq, hsq, mh0, _⟩ => ldm (v := sb gb l.length cbb) hsq mh0 rfl rfl one73) ?_
 refine .op trivial rfl rfl (fun wq _ => lnA (n := l.length) sl73 rfl) ?_
 refine .nil ?_
 refine a1 (i := 10) (by kernel_rfl) ?_
 refine one_ rfl ?_
 refine ust (l := l) hs1 1 rfl tp100 (by kernel_rfl) rfl rfl (by omega) trivial rfl (fun w1 (hs2 : SH w w1 ([bb] ++ (ownM (some ⟨gb, 0, none⟩) cbb ++ [])) [.blk bb 89 [.pointer pb, sb gb l.length cbb]]) => ?_)
 refine nl (kq ⟨_, hs2, memi 0 rfl, trivial⟩ ?_)
 refine tk (fuel := 0) (is := [11]) (.cons rfl (.nil)) (by kernel_rfl) (by kernel_rfl) ⟨_, hs2, memi 0 rfl, trivial⟩ ?_
 refine .op trivial rfl rfl (fun wq _ => asg (v := Str l) rfl) ?_
 refine .nil ?_
 refine ad (by kernel_rfl) ?_
 refine nN ?_
 refine rt ?_
 refine fret (v := Str l) (.tmp .nil) rfl ?_
 exact ⟨rfl, (hs2.pick [] rfl (by decide))⟩

theorem bString {bb : Nat} {pb : Option Addr} {Abb : Option Addr} {cbb : Nat} (l : List UInt8) (w : World) (hbd : w.heap[bb]? = some (.cells [.pointer pb, .slice Abb l.length cbb].toArray 89 (0, 0))) (hpb : pb = none ∨ pb = some ⟨bb, 0, none⟩) (hbo : OwnR w Abb l.length cbb 5 1 (l.map U)) (hbx : ∀ k, (It.own Abb l.length cbb 5 1 (l.map U)).has k → ¬ (It.blk bb 89 [.pointer pb, .slice Abb l.length cbb]).has k) (hA : l.length = 0 → Abb = none ∧ cbb = 0) : Does Tryz.prog 81 [pB bb] w (fun v w' => v = Str l ∧ SH w w' ([bb] ++ (ownM Abb cbb ++ [])) []) := by
  rcases Nat.eq_zero_or_pos l.length with h0 | h0
  · obtain ⟨rfl, rfl⟩ := hA h0
    have hl : l = [] := List.eq_nil_of_length_eq_zero h0
    subst hl
    exact (bStringN w hbd).mono fun v w' h => ⟨h.1, h.2.monoM (by intro k hk; simp at hk; subst hk; simp)⟩
  · obtain ⟨gb, rfl⟩ := ownR_form hbo h0
    exact bStringR l w hbd hbo hbx h0 (by have := hbo.2.1; omega)

theorem iLetter (c : UInt8) (w : World)  : Does Tryz.prog 54 [.int .u8 ((c.toNat : Nat) : Int)] w (fun v w' => v = .bool (decide (97 ≤ ((c.toNat : Nat) : Int) ∧ ((c.toNat : Nat) : Int) ≤ 122)) ∧ SH w w' [] []) := by
 refine fn_enter (N := 9) Tryz.func54 rfl (by kernel_rfl) rfl rfl rfl ?_
 have hs0 : SH w w [] [] := SH.refl w []
 refine sq ?_
 refine rg ?_
 refine q trivial rfl rfl (asg (v := .bool false) rfl) ?_
 refine nl ?_
 refine nN ?_
 refine sq ?_
 refine rg ?_
 refine q trivial rfl rfl (mv (v := .int .u8 ((c.toNat : Nat) : Int)) rfl) ?_
 refine q trivial rfl rfl (geq (k := .u8) (a := ((c.toNat : Nat) : Int)) (b := 97) rfl rfl) ?_
 refine q trivial rfl rfl (mv (v := .bool (decide ((97 : Int) ≤ ((c.toNat : Nat) : Int)))) rfl) ?_
 refine spd (p := (97 : Int) ≤ ((c.toNat : Nat) : Int)) 5 rfl (fun h1 => ?_) (fun h1 => ?_)
 · refine q ⟨_, rfl, rfl⟩ rfl rfl (mv (v := .int .u8 ((c.toNat : Nat) : Int)) rfl) ?_
   refine q ⟨_, rfl, rfl⟩ rfl rfl (leq (k := .u8) (a := ((c.toNat : Nat) : Int)) (b := 122) rfl rfl) ?_
   refine q trivial rfl rfl (pt (v := .bool (decide (((c.toNat : Nat) : Int) ≤ 122))) rfl rfl) ?_
   refine q trivial rfl rfl (asg (v := .bool (decide (((c.toNat : Nat) : Int) ≤ 122))) rfl) ?_
   refine nl ?_
   refine nN ?_
   refine rt ?_
   refine fret (v := .bool (decide (((c.toNat : Nat) : Int) ≤ 122))) (.tmp .nil) rfl ?_
   have e1 : (decide (((c.toNat : Nat) : Int) ≤ 122)) = (decide (97 ≤ ((c.toNat : Nat) : Int) ∧ ((c.toNat : Nat) : Int) ≤ 122)) := by simp [h1]
   exact ⟨(congrArg (Value.bool) e1), hs0⟩
 · refine gk false rfl rfl rfl rfl rfl ?_
   refine gk false rfl rfl rfl rfl rfl ?_
   refine q trivial rfl rfl (pf (v := .bool false) rfl rfl) ?_
   refine q trivial rfl rfl (asg (v := .bool false) rfl) ?_
   refine nl ?_
   refine nN ?_
   refine rt ?_
   refine fret (v := .bool false) (.tmp .nil) rfl ?_
   have e2 : false = (decide (97 ≤ ((c.toNat : Nat) : Int) ∧ ((c.toNat : Nat) : Int) ≤ 122)) := by simp [h1]
   exact ⟨(congrArg (Value.bool) e2), hs0⟩

theorem iDigit (c : UInt8) (w : World)  : Does Tryz.prog 55 [.int .u8 ((c.toNat : Nat) : Int)] w (fun v w' => v = .bool (decide (48 ≤ ((c.toNat : Nat) : Int) ∧ ((c.toNat : Nat) : Int) ≤ 57)) ∧ SH w w' [] []) := by
 refine fn_enter (N := 9) Tryz.func55 rfl (by kernel_rfl) rfl rfl rfl ?_
 have hs0 : SH w w [] [] := SH.refl w []
 refine sq ?_
 refine rg ?_
 refine q trivial rfl rfl (asg (v := .bool false) rfl) ?_
 refine nl ?_
 refine nN ?_
 refine sq ?_
 refine rg ?_
 refine q trivial rfl rfl (mv (v := .int .u8 ((c.toNat : Nat) : Int)) rfl) ?_
 refine q trivial rfl rfl (geq (k := .u8) (a := ((c.toNat : Nat) : Int)) (b := 48) rfl rfl) ?_
 refine q trivial rfl rfl (mv (v := .bool (decide ((48 : Int) ≤ ((c.toNat : Nat) : Int)))) rfl) ?_
 refine spd (p := (48 : Int) ≤ ((c.toNat : Nat) : Int)) 5 rfl (fun h1 => ?_) (fun h1 => ?_)
 · refine q ⟨_, rfl, rfl⟩ rfl rfl (mv (v := .int .u8 ((c.toNat : Nat) : Int)) rfl) ?_
   refine q ⟨_, rfl, rfl⟩ rfl rfl (leq (k := .u8) (a := ((c.toNat : Nat) : Int)) (b := 57) rfl rfl) ?_
   refine q trivial rfl rfl (pt (v := .bool (decide (((c.toNat : Nat) : Int) ≤ 57))) rfl rfl) ?_
   refine q trivial rfl rfl (asg (v := .bool (decide (((c.toNat : Nat) : Int) ≤ 57))) rfl) ?_
   refine nl ?_
   refine nN ?_
   refine rt ?_
   refine fret (v := .bool (decide (((c.toNat : Nat) : Int) ≤ 57))) (.tmp .nil) rfl ?_
   have e1 : (decide (((c.toNat : Nat) : Int) ≤ 57)) = (decide (48 ≤ ((c.toNat : Nat) : Int) ∧ ((c.toNat : Nat) : Int) ≤ 57)) := by simp [h1]
   exact ⟨(congrArg (Value.bool) e1), hs0⟩
 · refine gk false rfl rfl rfl rfl rfl ?_
   refine gk false rfl rfl rfl rfl rfl ?_
   refine q trivial rfl rfl (pf (v := .bool false) rfl rfl) ?_
   refine q trivial rfl rfl (asg (v := .bool false) rfl) ?_
   refine nl ?_
   refine nN ?_
   refine rt ?_
   refine fret (v := .bool false) (.tmp .nil) rfl ?_
   have e2 : false = (decide (48 ≤ ((c.toNat : Nat) : Int) ∧ ((c.toNat : Nat) : Int) ≤ 57)) := by simp [h1]
   exact ⟨(congrArg (Value.bool) e2), hs0⟩

theorem sLetter (c : UInt8) (w : World)  : Does Tryz.prog 37 [.int .u8 ((c.toNat : Nat) : Int)] w (fun v w' => v = .bool (letC c) ∧ SH w w' [] []) := by
 refine fn_enter (N := 21) Tryz.func37 rfl (by kernel_rfl) rfl rfl rfl ?_
 have hs0 : SH w w [] [] := SH.refl w []
 refine sq ?_
 refine rg ?_
 refine q trivial rfl rfl (asg (v := .bool false) rfl) ?_
 refine nl ?_
 refine nN ?_
 refine sq ?_
 refine rg ?_
 refine q trivial rfl rfl (mv (v := .int .u8 ((c.toNat : Nat) : Int)) rfl) ?_
 refine q trivial rfl rfl (geq (k := .u8) (a := ((c.toNat : Nat) : Int)) (b := 97) rfl rfl) ?_
 refine q trivial rfl rfl (mv (v := .bool (decide ((97 : Int) ≤ ((c.toNat : Nat) : Int)))) rfl) ?_
 refine spd (p := (97 : Int) ≤ ((c.toNat : Nat) : Int)) 5 rfl (fun h1 => ?_) (fun h1 => ?_)
 · refine q ⟨_, rfl, rfl⟩ rfl rfl (mv (v := .int .u8 ((c.toNat : Nat) : Int)) rfl) ?_
   refine q ⟨_, rfl, rfl⟩ rfl rfl (leq (k := .u8) (a := ((c.toNat : Nat) : Int)) (b := 122) rfl rfl) ?_
   refine q trivial rfl rfl (pt (v := .bool (decide (((c.toNat : Nat) : Int) ≤ 122))) rfl rfl) ?_
   refine q trivial rfl rfl (mv (v := .bool (decide (((c.toNat : Nat) : Int) ≤ 122))) rfl) ?_
   refine spd (p := ((c.toNat : Nat) : Int) ≤ 122) 9 rfl (fun h2 => ?_) (fun h2 => ?_)
   · refine gk true rfl rfl rfl rfl rfl ?_
     refine gk true rfl rfl rfl rfl rfl ?_
     refine gk true rfl rfl rfl rfl rfl ?_
     refine gku rfl rfl rfl rfl rfl ?_
     refine gku rfl rfl rfl rfl rfl ?_
     refine gk true rfl rfl rfl rfl rfl ?_
     refine q trivial rfl rfl (pt (v := .bool true) rfl rfl) ?_
     refine q trivial rfl rfl (mv (v := .bool true) rfl) ?_
     refine gk true rfl rfl rfl rfl rfl ?_
     refine gk true rfl rfl rfl rfl rfl ?_
     refine q trivial rfl rfl (pt (v := .bool true) rfl rfl) ?_
     refine q trivial rfl rfl (asg (v := .bool true) rfl) ?_
     refine nl ?_
     refine nN ?_
     refine rt ?_
     refine fret (v := .bool true) (.tmp .nil) rfl ?_
     have e1 : true = letC c := by simp only [letC]; first | (simp; omega) | simp [h1, h2]
     exact ⟨(congrArg (Value.bool) e1), hs0⟩
   · refine q ⟨_, rfl, rfl⟩ rfl rfl (mv (v := .int .u8 ((c.toNat : Nat) : Int)) rfl) ?_
     refine q ⟨_, rfl, rfl⟩ rfl rfl (geq (k := .u8) (a := ((c.toNat : Nat) : Int)) (b := 48) rfl rfl) ?_
     refine q ⟨_, rfl, rfl⟩ rfl rfl (mv (v := .bool (decide ((48 : Int) ≤ ((c.toNat : Nat) : Int)))) rfl) ?_
     refine spd (p := (48 : Int) ≤ ((c.toNat : Nat) : Int)) 12 rfl (fun h3 => ?_) (fun h3 => ?_)
     · refine q ⟨_, rfl, rfl⟩ rfl rfl (mv (v := .int .u8 ((c.toNat : Nat) : Int)) rfl) ?_
       refine q ⟨_, rfl, rfl⟩ rfl rfl (leq (k := .u8) (a := ((c.toNat : Nat) : Int)) (b := 57) rfl rfl) ?_
       refine q ⟨_, rfl, rfl⟩ rfl rfl (pt (v := .bool (decide (((c.toNat : Nat) : Int) ≤ 57))) rfl rfl) ?_
       refine q trivial rfl rfl (pf (v := .bool (decide (((c.toNat : Nat) : Int) ≤ 57))) rfl rfl) ?_
       refine q trivial rfl rfl (mv (v := .bool (decide (((c.toNat : Nat) : Int) ≤ 57))) rfl) ?_
       refine spd (p := ((c.toNat : Nat) : Int) ≤ 57) 17 rfl (fun h4 => ?_) (fun h4 => ?_)
       · refine gk true rfl rfl rfl rfl rfl ?_
         refine gk true rfl rfl rfl rfl rfl ?_
         refine q trivial rfl rfl (pt (v := .bool true) rfl rfl) ?_
         refine q trivial rfl rfl (asg (v := .bool true) rfl) ?_
         refine nl ?_
         refine nN ?_
         refine rt ?_
         refine fret (v := .bool true) (.tmp .nil) rfl ?_
         have e2 : true = letC c := by simp only [letC]; first | (simp; omega) | simp [h1, h2, h3, h4]
         exact ⟨(congrArg (Value.bool) e2), hs0⟩
       · refine q ⟨_, rfl, rfl⟩ rfl rfl (mv (v := .int .u8 ((c.toNat : Nat) : Int)) rfl) ?_
         refine q ⟨_, rfl, rfl⟩ rfl rfl (eqi (k := .u8) (a := ((c.toNat : Nat) : Int)) (b := 45) rfl rfl) ?_
         refine q trivial rfl rfl (pf (v := .bool (decide (((c.toNat : Nat) : Int) = 45))) rfl rfl) ?_
         refine q trivial rfl rfl (asg (v := .bool (decide (((c.toNat : Nat) : Int) = 45))) rfl) ?_
         refine nl ?_
         refine nN ?_
         refine rt ?_
         refine fret (v := .bool (decide (((c.toNat : Nat) : Int) = 45))) (.tmp .nil) rfl ?_
         have e3 : (decide (((c.toNat : Nat) : Int) = 45)) = letC c := by simp only [letC]; first | (simp; omega) | simp [h1, h2, h3, h4]
         exact ⟨(congrArg (Value.bool) e3), hs0⟩
     · refine gk false rfl rfl rfl rfl rfl ?_
       refine gk false rfl rfl rfl rfl rfl ?_
       refine q ⟨_, rfl, rfl⟩ rfl rfl (pf (v := .bool false) rfl rfl) ?_
       refine q trivial rfl rfl (pf (v := .bool false) rfl rfl) ?_
       refine q trivial rfl rfl (mv (v := .bool false) rfl) ?_
       refine q ⟨_, rfl, rfl⟩ rfl rfl (mv (v := .int .u8 ((c.toNat : Nat) : Int)) rfl) ?_
       refine q ⟨_, rfl, rfl⟩ rfl rfl (eqi (k := .u8) (a := ((c.toNat : Nat) : Int)) (b := 45) rfl rfl) ?_
       refine q trivial rfl rfl (pf (v := .bool (decide (((c.toNat : Nat) : Int) = 45))) rfl rfl) ?_
       refine q trivial rfl rfl (asg (v := .bool (decide (((c.toNat : Nat) : Int) = 45))) rfl) ?_
       refine nl ?_
       refine nN ?_
       refine rt ?_
       refine fret (v := .bool (decide (((c.toNat : Nat) : Int) = 45))) (.tmp .nil) rfl ?_
       have e4 : (decide (((c.toNat : Nat) : Int) = 45)) = letC c := by simp only [letC]; first | (simp; omega) | simp [h1, h2, h3]
       exact ⟨(congrArg (Value.bool) e4), hs0⟩
 · refine gk false rfl rfl rfl rfl rfl ?_
   refine gk false rfl rfl rfl rfl rfl ?_
   refine q trivial rfl rfl (pf (v := .bool false) rfl rfl) ?_
   refine q trivial rfl rfl (mv (v := .bool false) rfl) ?_
   refine q ⟨_, rfl, rfl⟩ rfl rfl (mv (v := .int .u8 ((c.toNat : Nat) : Int)) rfl) ?_
   refine q ⟨_, rfl, rfl⟩ rfl rfl (geq (k := .u8) (a := ((c.toNat : Nat) : Int)) (b := 48) rfl rfl) ?_
   refine q ⟨_, rfl, rfl⟩ rfl rfl (mv (v := .bool (decide ((48 : Int) ≤ ((c.toNat : Nat) : Int)))) rfl) ?_
   refine spd (p := (48 : Int) ≤ ((c.toNat : Nat) : Int)) 12 rfl (fun h5 => ?_) (fun h5 => ?_)
   · refine q ⟨_, rfl, rfl⟩ rfl rfl (mv (v := .int .u8 ((c.toNat : Nat) : Int)) rfl) ?_
     refine q ⟨_, rfl, rfl⟩ rfl rfl (leq (k := .u8) (a := ((c.toNat : Nat) : Int)) (b := 57) rfl rfl) ?_
     refine q ⟨_, rfl, rfl⟩ rfl rfl (pt (v := .bool (decide (((c.toNat : Nat) : Int) ≤ 57))) rfl rfl) ?_
     refine q trivial rfl rfl (pf (v := .bool (decide (((c.toNat : Nat) : Int) ≤ 57))) rfl rfl) ?_
     refine q trivial rfl rfl (mv (v := .bool (decide (((c.toNat : Nat) : Int) ≤ 57))) rfl) ?_
     refine spd (p := ((c.toNat : Nat) : Int) ≤ 57) 17 rfl (fun h6 => ?_) (fun h6 => ?_)
     · refine gk true rfl rfl rfl rfl rfl ?_
       refine gk true rfl rfl rfl rfl rfl ?_
       refine q trivial rfl rfl (pt (v := .bool true) rfl rfl) ?_
       refine q trivial rfl rfl (asg (v := .bool true) rfl) ?_
       refine nl ?_
       refine nN ?_
       refine rt ?_
       refine fret (v := .bool true) (.tmp .nil) rfl ?_
       have e5 : true = letC c := by simp only [letC]; first | (simp; omega) | simp [h1, h5, h6]
       exact ⟨(congrArg (Value.bool) e5), hs0⟩
     · refine q ⟨_, rfl, rfl⟩ rfl rfl (mv (v := .int .u8 ((c.toNat : Nat) : Int)) rfl) ?_
       refine q ⟨_, rfl, rfl⟩ rfl rfl (eqi (k := .u8) (a := ((c.toNat : Nat) : Int)) (b := 45) rfl rfl) ?_
       refine q trivial rfl rfl (pf (v := .bool (decide (((c.toNat : Nat) : Int) = 45))) rfl rfl) ?_
       refine q trivial rfl rfl (asg (v := .bool (decide (((c.toNat : Nat) : Int) = 45))) rfl) ?_
       refine nl ?_
       refine nN ?_
       refine rt ?_
       refine fret (v := .bool (decide (((c.toNat : Nat) : Int) = 45))) (.tmp .nil) rfl ?_
       have e6 : (decide (((c.toNat : Nat) : Int) = 45)) = letC c := by simp only [letC]; first | (simp; omega) | simp [h1, h5, h6]
       exact ⟨(congrArg (Value.bool) e6), hs0⟩
   · refine gk false rfl rfl rfl rfl rfl ?_
     refine gk false rfl rfl rfl rfl rfl ?_
     refine q ⟨_, rfl, rfl⟩ rfl rfl (pf (v := .bool false) rfl rfl) ?_
     refine q trivial rfl rfl (pf (v := .bool false) rfl rfl) ?_
     refine q trivial rfl rfl (mv (v := .bool false) rfl) ?_
     refine q ⟨_, rfl, rfl⟩ rfl rfl (mv (v := .int .u8 ((c.toNat : Nat) : Int)) rfl) ?_
     refine q ⟨_, rfl, rfl⟩ rfl rfl (eqi (k := .u8) (a := ((c.toNat : Nat) : Int)) (b := 45) rfl rfl) ?_
     refine q trivial rfl rfl (pf (v := .bool (decide (((c.toNat : Nat) : Int) = 45))) rfl rfl) ?_
     refine q trivial rfl rfl (asg (v := .bool (decide (((c.toNat : Nat) : Int) = 45))) rfl) ?_
     refine nl ?_
     refine nN ?_
     refine rt ?_
     refine fret (v := .bool (decide (((c.toNat : Nat) : Int) = 45))) (.tmp .nil) rfl ?_
     have e7 : (decide (((c.toNat : Nat) : Int) = 45)) = letC c := by simp only [letC]; first | (simp; omega) | simp [h1, h5]
     exact ⟨(congrArg (Value.bool) e7), hs0⟩

theorem isPort (x : Int) (w : World)  : Does Tryz.prog 43 [I x] w (fun v w' => v = .bool (decide (0 ≤ x ∧ x ≤ 65535)) ∧ SH w w' [] []) := by
 refine fn_enter (N := 5) Tryz.func43 rfl (by kernel_rfl) rfl rfl rfl ?_
 have hs0 : SH w w [] [] := SH.refl w []
 refine sq ?_
 refine rg ?_
 refine q trivial rfl rfl (asg (v := .bool false) rfl) ?_
 refine nl ?_
 refine nN ?_
 refine sq ?_
 refine rg ?_
 refine q trivial rfl rfl (mv (v := I x) rfl) ?_
 refine cl trivial rfl (iWithin (x := x) (lo := 0) (hi := 65535) (w := _)) ?_
 rintro _ w1 ⟨rfl, hs1'⟩
 have hs1 : SH w w1 [] [] := hs0.call0 hs1'
 clear hs1'
 refine q trivial rfl rfl (asg (v := .bool (decide (0 ≤ x ∧ x ≤ 65535))) rfl) ?_
 refine nl ?_
 refine nN ?_
 refine rt ?_
 refine fret (v := .bool (decide (0 ≤ x ∧ x ≤ 65535))) (.tmp .nil) rfl ?_
 exact ⟨rfl, hs1⟩

theorem iConsists (l : List UInt8) (m : List UInt8) (w : World) (hl_n : l.length ≤ 9223372036854775807) : Does Tryz.prog 42 [Str l, Str m] w (fun v w' => v = .bool (l.all (okC m)) ∧ SH w w' [] []) := by
 refine fn_enter (N := 32) Tryz.func42 rfl (by kernel_rfl) rfl rfl rfl ?_
 have hs0 : SH w w [] [] := SH.refl w []
 refine sq ?_
 refine rg ?_
 refine q trivial rfl rfl (asg (v := .bool false) rfl) ?_
 refine nl ?_
 refine nN ?_
 refine sq ?_
 refine sq ?_
 refine rg ?_
 refine q trivial rfl rfl (mv (v := Str l) rfl) ?_
 refine q trivial rfl rfl (lnS (l := l) st9 rfl) ?_
 refine q trivial rfl rfl (mv (v := I 0) rfl) ?_
 refine nl ?_
 refine nN ?_
 refine bl ?_
 refine lp (σ := Nat) (fun (k : Nat) f w' => Has f [(0, Str l), (1, Str m), (7, I ((l.length : Nat) : Int)), (8, I ((k : Nat) : Int))] ∧ (k ≤ l.length) ∧ ((l.take k).all (okC m) = true) ∧ SH w w' [] []) (fun k => l.length - k) 0 ⟨⟨rfl, rfl, rfl, rfl, trivial⟩, (by simp), (by simp), hs0⟩ ?_
 rintro k f w1 ⟨hf, hk, ha, hs1⟩
 obtain ⟨g1, rfl⟩ := has_upd hf
 clear hf
 refine sq ?_
 refine rg ?_
 refine q trivial rfl rfl (lss (k := .i64) (a := ((k : Nat) : Int)) (b := ((l.length : Nat) : Int)) rfl rfl) ?_
 refine nl ?_
 refine nN ?_
 refine sq ?_
 refine cdd (p := ((k : Nat) : Int) < ((l.length : Nat) : Int)) rfl (fun h1 => ?_) (fun h1 => ?_)
 · refine sk ?_
   refine nN ?_
   refine sq ?_
   refine bl ?_
   refine sq ?_
   refine rg ?_
   refine q trivial rfl rfl (mv (v := I ((k : Nat) : Int)) rfl) ?_
   refine q trivial rfl rfl (asg (v := I ((k : Nat) : Int)) rfl) ?_
   refine nl ?_
   refine nN ?_
   refine sq ?_
   refine rg ?_
   refine q trivial rfl rfl (mv (v := Str l) rfl) ?_
   refine q trivial rfl rfl (mv (v := I ((k : Nat) : Int)) rfl) ?_
   refine q trivial rfl rfl (ixs (l := l) k st9 rfl rfl (by first | omega | (simp; done) | (simp; omega))) ?_
   refine cl trivial rfl (iLetter (c := (l.getD k 0)) (w := _)) ?_
   rintro _ w2 ⟨rfl, hs2'⟩
   have hs2 : SH w w2 [] [] := hs1.call0 hs2'
   clear hs2'
   refine q trivial rfl rfl (nd (p := 97 ≤ (((l.getD k 0).toNat : Nat) : Int) ∧ (((l.getD k 0).toNat : Nat) : Int) ≤ 122) rfl) ?_
   refine q trivial rfl rfl (mv (v := .bool (decide (¬ (97 ≤ (((l.getD k 0).toNat : Nat) : Int) ∧ (((l.getD k 0).toNat : Nat) : Int) ≤ 122)))) rfl) ?_
   refine spd (p := ¬ (97 ≤ (((l.getD k 0).toNat : Nat) : Int) ∧ (((l.getD k 0).toNat : Nat) : Int) ≤ 122)) 16 rfl (fun h2 => ?_) (fun h2 => ?_)
   · refine q ⟨_, rfl, rfl⟩ rfl rfl (mv (v := Str l) rfl) ?_
     refine q ⟨_, rfl, rfl⟩ rfl rfl (mv (v := I ((k : Nat) : Int)) rfl) ?_
     refine q ⟨_, rfl, rfl⟩ rfl rfl (ixs (l := l) k st9 rfl rfl (by first | omega | (simp; done) | (simp; omega))) ?_
     refine cl ⟨_, rfl, rfl⟩ rfl (iDigit (c := (l.getD k 0)) (w := _)) ?_
     rintro _ w3 ⟨rfl, hs3'⟩
     have hs3 : SH w w3 [] [] := hs2.call0 hs3'
     clear hs3'
     refine q ⟨_, rfl, rfl⟩ rfl rfl (nd (p := 48 ≤ (((l.getD k 0).toNat : Nat) : Int) ∧ (((l.getD k 0).toNat : Nat) : Int) ≤ 57) rfl) ?_
     refine q trivial rfl rfl (pt (v := .bool (decide (¬ (48 ≤ (((l.getD k 0).toNat : Nat) : Int) ∧ (((l.getD k 0).toNat : Nat) : Int) ≤ 57)))) rfl rfl) ?_
     refine q trivial rfl rfl (mv (v := .bool (decide (¬ (48 ≤ (((l.getD k 0).toNat : Nat) : Int) ∧ (((l.getD k 0).toNat : Nat) : Int) ≤ 57)))) rfl) ?_
     refine spd (p := ¬ (48 ≤ (((l.getD k 0).toNat : Nat) : Int) ∧ (((l.getD k 0).toNat : Nat) : Int) ≤ 57)) 23 rfl (fun h3 => ?_) (fun h3 => ?_)
     · refine q ⟨_, rfl, rfl⟩ rfl rfl (mv (v := Str m) rfl) ?_
       refine q ⟨_, rfl, rfl⟩ rfl rfl (mv (v := Str l) rfl) ?_
       refine q ⟨_, rfl, rfl⟩ rfl rfl (mv (v := I ((k : Nat) : Int)) rfl) ?_
       refine q ⟨_, rfl, rfl⟩ rfl rfl (ixs (l := l) k st9 rfl rfl (by first | omega | (simp; done) | (simp; omega))) ?_
       refine cl ⟨_, rfl, rfl⟩ rfl (stIndexByte (l := m) (c := (l.getD k 0)) (w := _)) ?_
       rintro _ w4 ⟨rfl, hs4'⟩
       have hs4 : SH w w4 [] [] := hs3.call0 hs4'
       clear hs4'
       refine q ⟨_, rfl, rfl⟩ rfl rfl (lss (k := .i64) (a := idxB m (l.getD k 0)) (b := 0) rfl rfl) ?_
       refine q trivial rfl rfl (pt (v := .bool (decide ((idxB m (l.getD k 0)) < 0))) rfl rfl) ?_
       refine nl ?_
       refine nN ?_
       refine cdd (p := (idxB m (l.getD k 0)) < 0) rfl (fun h4 => ?_) (fun h4 => ?_)
       · refine sq ?_
         refine rg ?_
         refine q trivial rfl rfl (asg (v := .bool false) rfl) ?_
         refine nl ?_
         refine nN ?_
         refine rt (bR (tR (tR (bR (tR ?_)))))
         refine fret (v := .bool false) (.tmp .nil) rfl ?_
         have e1 : false = l.all (okC m) := by exact (all_no (d := 0) (k := k) (by omega) (by simp only [okC, decide_eq_false_iff_not]; omega)).symm
         exact ⟨(congrArg (Value.bool) e1), hs4⟩
       · refine sk ?_
         refine bN ?_
         refine nN ?_
         refine rg ?_
         refine q trivial rfl rfl (add (a := ((k : Nat) : Int)) (b := 1) rfl rfl (by exact ⟨by omega, by omega⟩)) ?_
         refine q trivial rfl rfl (mv (v := I (((k : Nat) : Int) + 1)) rfl) ?_
         refine nl ?_
         refine nN ?_
         refine ⟨(k + 1), ⟨⟨rfl, rfl, rfl, rfl, trivial⟩, (by omega), (all_step (d := 0) (by omega) ha (by simp only [okC, decide_eq_true_eq]; omega)), hs4⟩, ?_⟩
         omega
     · refine gk false rfl rfl rfl rfl rfl ?_
       refine gk false rfl rfl rfl rfl rfl ?_
       refine gk false rfl rfl rfl rfl rfl ?_
       refine gk false rfl rfl rfl rfl rfl ?_
       refine gk false rfl rfl rfl rfl rfl ?_
       refine gk false rfl rfl rfl rfl rfl ?_
       refine q trivial rfl rfl (pf (v := .bool false) rfl rfl) ?_
       refine nl ?_
       refine nN ?_
       refine cdf rfl ?_
       refine sk ?_
       refine bN ?_
       refine nN ?_
       refine rg ?_
       refine q trivial rfl rfl (add (a := ((k : Nat) : Int)) (b := 1) rfl rfl (by exact ⟨by omega, by omega⟩)) ?_
       refine q trivial rfl rfl (mv (v := I (((k : Nat) : Int) + 1)) rfl) ?_
       refine nl ?_
       refine nN ?_
       refine ⟨(k + 1), ⟨⟨rfl, rfl, rfl, rfl, trivial⟩, (by omega), (all_step (d := 0) (by omega) ha (by simp only [okC, decide_eq_true_eq]; omega)), hs3⟩, ?_⟩
       omega
   · refine gk false rfl rfl rfl rfl rfl ?_
     refine gk false rfl rfl rfl rfl rfl ?_
     refine gk false rfl rfl rfl rfl rfl ?_
     refine gk false rfl rfl rfl rfl rfl ?_
     refine gk false rfl rfl rfl rfl rfl ?_
     refine q trivial rfl rfl (pf (v := .bool false) rfl rfl) ?_
     refine q trivial rfl rfl (mv (v := .bool false) rfl) ?_
     refine gk false rfl rfl rfl rfl rfl ?_
     refine gk false rfl rfl rfl rfl rfl ?_
     refine gk false rfl rfl rfl rfl rfl ?_
     refine gk false rfl rfl rfl rfl rfl ?_
     refine gk false rfl rfl rfl rfl rfl ?_
     refine gk false rfl rfl rfl rfl rfl ?_
     refine q trivial rfl rfl (pf (v := .bool false) rfl rfl) ?_
     refine nl ?_
     refine nN ?_
     refine cdf rfl ?_
     refine sk ?_
     refine bN ?_
     refine nN ?_
     refine rg ?_
     refine q trivial rfl rfl (add (a := ((k : Nat) : Int)) (b := 1) rfl rfl (by exact ⟨by omega, by omega⟩)) ?_
     refine q trivial rfl rfl (mv (v := I (((k : Nat) : Int) + 1)) rfl) ?_
     refine nl ?_
     refine nN ?_
     refine ⟨(k + 1), ⟨⟨rfl, rfl, rfl, rfl, trivial⟩, (by omega), (all_step (d := 0) (by omega) ha (by simp only [okC, decide_eq_true_eq]; omega)), hs2⟩, ?_⟩
     omega
 · refine ex (tE (tE (bE ?_)))
   refine nN ?_
   refine sq ?_
   refine rg ?_
   refine q trivial rfl rfl (asg (v := .bool true) rfl) ?_
   refine nl ?_
   refine nN ?_
   refine rt ?_
   refine fret (v := .bool true) (.tmp .nil) rfl ?_
   have e2 : true = l.all (okC m) := by exact (all_yes (by omega) ha).symm
   exact ⟨(congrArg (Value.bool) e2), hs1⟩

theorem slIndexFuncR (p : List UInt8 × Int × Bool → Bool) {Azs : Option Addr} {czs : Nat} (zs : List (List UInt8 × Int × Bool)) (kf : FuncId) (w : World) (hzs : Sl w [] 3 Azs zs.length czs (zs.flatMap gRule)) (hzs_e : ∀ u ∈ zs, u.1.length ≤ 9223372036854775807) (hf : ∀ (x : List UInt8 × Int × Bool) (w : World) (_ : x.1.length ≤ 9223372036854775807), Does Tryz.prog kf [.agg #[Str x.1, .int .i64 x.2.1, .bool x.2.2]] w (fun v w' => v = .bool (p x) ∧ SH w w' [] [])) : Does Tryz.prog 53 [.slice Azs zs.length czs, .func (.func kf) #[] #[]] w (fun v w' => v = .int .i64 (idxP p zs) ∧ SH w w' [] []) := by
 refine fn_enter (N := 19) Tryz.func53 rfl (by kernel_rfl) rfl rfl rfl ?_
 have hs0 : SH w w [] [] := SH.refl w []
 have hzs_m : zs.length ≤ 9223372036854775807 := Nat.le_trans hzs.cap hzs.capMax
 refine sq ?_
 refine rg ?_
 refine q trivial rfl rfl (asg (v := I 0) rfl) ?_
 refine nl ?_
 refine nN ?_
 refine sq ?_
 refine sq ?_
 refine rg ?_
 refine q trivial rfl rfl (mv (v := .slice Azs zs.length czs) rfl) ?_
 refine q trivial rfl rfl (lnA (n := zs.length) sl32 rfl) ?_
 refine q trivial rfl rfl (mv (v := I 0) rfl) ?_
 refine nl ?_
 refine nN ?_
 refine bl ?_
 refine lp (σ := Nat) (fun (k : Nat) f w' => Has f [(0, .slice Azs zs.length czs), (1, .func (.func kf) #[] #[]), (7, I ((zs.length : Nat) : Int)), (8, I ((k : Nat) : Int))] ∧ (k ≤ zs.length) ∧ (∀ j, j < k → p (zs.getD j rule0) = false) ∧ SH w w' [] []) (fun k => zs.length - k) 0 ⟨⟨rfl, rfl, rfl, rfl, trivial⟩, (by simp), (by intro j hj; omega), hs0⟩ ?_
 rintro k f w1 ⟨hf, hk, hn, hs1⟩
 obtain ⟨g1, rfl⟩ := has_upd hf
 clear hf
 refine sq ?_
 refine rg ?_
 refine q trivial rfl rfl (lss (k := .i64) (a := ((k : Nat) : Int)) (b := ((zs.length : Nat) : Int)) rfl rfl) ?_
 refine nl ?_
 refine nN ?_
 refine sq ?_
 refine cdd (p := ((k : Nat) : Int) < ((zs.length : Nat) : Int)) rfl (fun h1 => ?_) (fun h1 => ?_)
 · refine sk ?_
   refine nN ?_
   refine sq ?_
   refine bl ?_
   refine sq ?_
   refine rg ?_
   refine q trivial rfl rfl (mv (v := I ((k : Nat) : Int)) rfl) ?_
   refine q trivial rfl rfl (asg (v := I ((k : Nat) : Int)) rfl) ?_
   refine nl ?_
   refine nN ?_
   refine sq ?_
   refine rg ?_
   refine q trivial rfl rfl (mv (v := .func (.func kf) #[] #[]) rfl) ?_
   refine q trivial rfl rfl (mv (v := .slice Azs zs.length czs) rfl) ?_
   refine q trivial rfl rfl (mv (v := I ((k : Nat) : Int)) rfl) ?_
   refine ixwf (g := gRule) (zs := zs) (fun _ => rfl) rule0 k sl32 rfl rfl hzs (by first | omega | (simp; done) | (simp; omega)) (by first | omega | (simp; done) | (simp; omega)) trivial rfl (fun a1 ha1 => ?_)
   refine q trivial rfl rfl (ldag (us := [Str ((zs.getD k rule0).1), I ((zs.getD k rule0).2.1), .bool ((zs.getD k rule0).2.2)]) hs1 ha1 (fun _ h => h) rfl rfl ag53) ?_
   refine clv (k := kf) trivial rfl rfl (hf (zs.getD k rule0) _ (hzs_e _ (getD_mem' (by omega)))) ?_
   rintro _ w2 ⟨rfl, hs2'⟩
   have hs2 : SH w w2 [] [] := hs1.call0 hs2'
   clear hs2'
   refine nl ?_
   refine nN ?_
   refine cd (b := p (zs.getD k rule0)) rfl (fun h2 => ?_) (fun h2 => ?_)
   · refine sq ?_
     refine rg ?_
     refine q trivial rfl rfl (mv (v := I ((k : Nat) : Int)) rfl) ?_
     refine q trivial rfl rfl (asg (v := I ((k : Nat) : Int)) rfl) ?_
     refine nl ?_
     refine nN ?_
     refine rt (bR (tR (tR (bR (tR ?_)))))
     refine fret (v := I ((k : Nat) : Int)) (.tmp .nil) rfl ?_
     have e1 : ((k : Nat) : Int) = idxP p zs := by exact idxP_eq (d := rule0) (by omega) hn h2
     exact ⟨(congrArg (Value.int .i64) e1), hs2⟩
   · refine sk ?_
     refine bN ?_
     refine nN ?_
     refine rg ?_
     refine q trivial rfl rfl (add (a := ((k : Nat) : Int)) (b := 1) rfl rfl (by exact ⟨by omega, by omega⟩)) ?_
     refine q trivial rfl rfl (mv (v := I (((k : Nat) : Int) + 1)) rfl) ?_
     refine nl ?_
     refine nN ?_
     refine ⟨(k + 1), ⟨⟨rfl, rfl, rfl, rfl, trivial⟩, (by omega), (by intro j hj; rcases Nat.lt_succ_iff_lt_or_eq.1 hj with h | h; exact hn j h; subst h; exact h2), hs2⟩, ?_⟩
     omega
 · refine ex (tE (tE (bE ?_)))
   refine nN ?_
   refine sq ?_
   refine rg ?_
   refine q trivial rfl rfl (asg (v := I (-1)) rfl) ?_
   refine nl ?_
   refine nN ?_
   refine rt ?_
   refine fret (v := I (-1)) (.tmp .nil) rfl ?_
   have e2 : (-1) = idxP p zs := by exact idxP_none (d := rule0) (fun j hj => hn j (by omega))
   exact ⟨(congrArg (Value.int .i64) e2), hs1⟩

theorem slContainsFuncR (p : List UInt8 × Int × Bool → Bool) {Azs : Option Addr} {czs : Nat} (zs : List (List UInt8 × Int × Bool)) (kf : FuncId) (w : World) (hzs : Sl w [] 3 Azs zs.length czs (zs.flatMap gRule)) (hzs_e : ∀ u ∈ zs, u.1.length ≤ 9223372036854775807) (hf : ∀ (x : List UInt8 × Int × Bool) (w : World) (_ : x.1.length ≤ 9223372036854775807), Does Tryz.prog kf [.agg #[Str x.1, .int .i64 x.2.1, .bool x.2.2]] w (fun v w' => v = .bool (p x) ∧ SH w w' [] [])) : Does Tryz.prog 40 [.slice Azs zs.length czs, .func (.func kf) #[] #[]] w (fun v w' => v = .bool (zs.any p) ∧ SH w w' [] []) := by
 refine fn_enter (N := 9) Tryz.func40 rfl (by kernel_rfl) rfl rfl rfl ?_
 have hs0 : SH w w [] [] := SH.refl w []
 have hzs_m : zs.length ≤ 9223372036854775807 := Nat.le_trans hzs.cap hzs.capMax
 refine sq ?_
 refine rg ?_
 refine q trivial rfl rfl (asg (v := .bool false) rfl) ?_
 refine nl ?_
 refine nN ?_
 refine sq ?_
 refine rg ?_
 refine q trivial rfl rfl (mv (v := .slice Azs zs.length czs) rfl) ?_
 refine q trivial rfl rfl (mv (v := .func (.func kf) #[] #[]) rfl) ?_
 refine cl trivial rfl (slIndexFuncR (p := p) (Azs := Azs) (czs := czs) (zs := zs) (kf := kf) (w := _) (hzs := (hzs.up0 hs0)) (hzs_e := hzs_e) (hf := hf)) ?_
 rintro _ w1 ⟨rfl, hs1'⟩
 have hs1 : SH w w1 [] [] := hs0.call0 hs1'
 clear hs1'
 refine q trivial rfl rfl (geq (k := .i64) (a := idxP p zs) (b := 0) rfl rfl) ?_
 refine q trivial rfl rfl (asg (v := .bool (decide ((0 : Int) ≤ (idxP p zs)))) rfl) ?_
 refine nl ?_
 refine nN ?_
 refine rt ?_
 refine fret (v := .bool (decide ((0 : Int) ≤ (idxP p zs)))) (.tmp .nil) rfl ?_
 have e1 : (decide ((0 : Int) ≤ (idxP p zs))) = zs.any p := by exact idxP_any p zs
 exact ⟨(congrArg (Value.bool) e1), hs1⟩

theorem iRV1 (l : List UInt8) (n : Int) (b : Bool) (w : World) (hl_n : l.length ≤ 9223372036854775807) : Does Tryz.prog 41 [.agg #[Str l, I n, .bool b]] w (fun v w' => v = .bool (!ruleOk (l, n, b)) ∧ SH w w' [] []) := by
 refine fn_enter (N := 19) Tryz.func41 rfl (by kernel_rfl) rfl rfl rfl ?_
 have hs0 : SH w w [] [] := SH.refl w []
 refine sq ?_
 refine rg ?_
 refine bx (v := .agg #[Str l, I n, .bool b]) (cs := [Str l, I n, .bool b]) hs0 rfl rfl trivial rfl (fun b1 w1 (hs1 : SH w w1 [] [.blk b1 53 [Str l, I n, .bool b]]) => ?_)
 refine q trivial rfl rfl (asg (v := .bool false) rfl) ?_
 refine nl ?_
 refine nN ?_
 refine sq ?_
 refine rg ?_
 refine q trivial rfl rfl (fa 0 fo53_0 rfl) ?_
 refine q trivial rfl rfl (ld (v := Str l) hs1 0 rfl rfl rfl one9) ?_
 refine q trivial rfl rfl (lnS (l := l) st9 rfl) ?_
 refine q trivial rfl rfl (gtr (k := .i64) (a := ((l.length : Nat) : Int)) (b := 20) rfl rfl) ?_
 refine q trivial rfl rfl (mv (v := .bool (decide ((20 : Int) < ((l.length : Nat) : Int)))) rfl) ?_
 refine spd (p := (20 : Int) < ((l.length : Nat) : Int)) 7 rfl (fun h1 => ?_) (fun h1 => ?_)
 · refine gk true rfl rfl rfl rfl rfl ?_
   refine gk true rfl rfl rfl rfl rfl ?_
   refine gk true rfl rfl rfl rfl rfl ?_
   refine gk true rfl rfl rfl rfl rfl ?_
   refine q trivial rfl rfl (pt (v := .bool true) rfl rfl) ?_
   refine q trivial rfl rfl (mv (v := .bool true) rfl) ?_
   refine gk true rfl rfl rfl rfl rfl ?_
   refine gk true rfl rfl rfl rfl rfl ?_
   refine gk true rfl rfl rfl rfl rfl ?_
   refine gk true rfl rfl rfl rfl rfl ?_
   refine q trivial rfl rfl (pt (v := .bool true) rfl rfl) ?_
   refine q trivial rfl rfl (asg (v := .bool true) rfl) ?_
   refine nl ?_
   refine nN ?_
   refine rt ?_
   refine fret (v := .bool true) (.tmp .nil) rfl ?_
   have e1 : true = !ruleOk (l, n, b) := by first | exact rv1a (by omega) | exact rv1b (by assumption) | exact rv1c (by omega) (by assumption)
   exact ⟨(congrArg (Value.bool) e1), (hs1.pick [] rfl (by decide))⟩
 · refine q ⟨_, rfl, rfl⟩ rfl rfl (fa 0 fo53_0 rfl) ?_
   refine q ⟨_, rfl, rfl⟩ rfl rfl (ld (v := Str l) hs1 0 rfl rfl rfl one9) ?_
   refine cl ⟨_, rfl, rfl⟩ rfl (iConsists (l := l) (m := [45, 46]) (w := _) (hl_n := (by first | omega | (simp; done) | (simp; omega)))) ?_
   rintro _ w2 ⟨rfl, hs2'⟩
   have hs2 : SH w w2 [] [.blk b1 53 [Str l, I n, .bool b]] := hs1.call0 hs2'
   clear hs2'
   refine q ⟨_, rfl, rfl⟩ rfl rfl (nt (b := l.all (okC [45, 46])) rfl) ?_
   refine q trivial rfl rfl (pf (v := .bool (!(l.all (okC [45, 46])))) rfl rfl) ?_
   refine q trivial rfl rfl (mv (v := .bool (!(l.all (okC [45, 46])))) rfl) ?_
   refine spl (b := !(l.all (okC [45, 46]))) 13 rfl (fun h2 => ?_) (fun h2 => ?_)
   · have h3 : (l.all (okC [45, 46])) = false := by simpa using h2
     refine gk true rfl rfl rfl rfl rfl ?_
     refine gk true rfl rfl rfl rfl rfl ?_
     refine gk true rfl rfl rfl rfl rfl ?_
     refine gk true rfl rfl rfl rfl rfl ?_
     refine q trivial rfl rfl (pt (v := .bool true) rfl rfl) ?_
     refine q trivial rfl rfl (asg (v := .bool true) rfl) ?_
     refine nl ?_
     refine nN ?_
     refine rt ?_
     refine fret (v := .bool true) (.tmp .nil) rfl ?_
     have e2 : true = !ruleOk (l, n, b) := by first | exact rv1a (by omega) | exact rv1b (by assumption) | exact rv1c (by omega) (by assumption)
     exact ⟨(congrArg (Value.bool) e2), (hs2.pick [] rfl (by decide))⟩
   · have h4 : (l.all (okC [45, 46])) = true := by simpa using h2
     refine q ⟨_, rfl, rfl⟩ rfl rfl (fa 1 fo53_1 rfl) ?_
     refine q ⟨_, rfl, rfl⟩ rfl rfl (ld (v := I n) hs2 0 rfl rfl rfl one3) ?_
     refine cl ⟨_, rfl, rfl⟩ rfl (isPort (x := n) (w := _)) ?_
     rintro _ w3 ⟨rfl, hs3'⟩
     have hs3 : SH w w3 [] [.blk b1 53 [Str l, I n, .bool b]] := hs2.call0 hs3'
     clear hs3'
     refine q ⟨_, rfl, rfl⟩ rfl rfl (nd (p := 0 ≤ n ∧ n ≤ 65535) rfl) ?_
     refine q trivial rfl rfl (pf (v := .bool (decide (¬ (0 ≤ n ∧ n ≤ 65535)))) rfl rfl) ?_
     refine q trivial rfl rfl (asg (v := .bool (decide (¬ (0 ≤ n ∧ n ≤ 65535)))) rfl) ?_
     refine nl ?_
     refine nN ?_
     refine rt ?_
     refine fret (v := .bool (decide (¬ (0 ≤ n ∧ n ≤ 65535)))) (.tmp .nil) rfl ?_
     have e3 : (decide (¬ (0 ≤ n ∧ n ≤ 65535))) = !ruleOk (l, n, b) := by first | exact rv1a (by omega) | exact rv1b (by assumption) | exact rv1c (by omega) (by assumption)
     exact ⟨(congrArg (Value.bool) e3), (hs3.pick [] rfl (by decide))⟩

theorem iRulesValid {Azs : Option Addr} {czs : Nat} (zs : List (List UInt8 × Int × Bool)) (w : World) (hzs : Sl w [] 3 Azs zs.length czs (zs.flatMap gRule)) (hzs_e : ∀ u ∈ zs, u.1.length ≤ 9223372036854775807) : Does Tryz.prog 25 [.slice Azs zs.length czs] w (fun v w' => v = .bool (rulesOk zs) ∧ SH w w' [] []) := by
 refine fn_enter (N := 11) Tryz.func25 rfl (by kernel_rfl) rfl rfl rfl ?_
 have hs0 : SH w w [] [] := SH.refl w []
 have hzs_m : zs.length ≤ 9223372036854775807 := Nat.le_trans hzs.cap hzs.capMax
 refine sq ?_
 refine rg ?_
 refine q trivial rfl rfl (asg (v := .bool false) rfl) ?_
 refine nl ?_
 refine nN ?_
 refine sq ?_
 refine rg ?_
 refine q trivial rfl rfl (mv (v := .slice Azs zs.length czs) rfl) ?_
 refine q trivial rfl rfl (lnA (n := zs.length) sl32 rfl) ?_
 refine q trivial rfl rfl (leq (k := .i64) (a := ((zs.length : Nat) : Int)) (b := 6) rfl rfl) ?_
 refine q trivial rfl rfl (mv (v := .bool (decide (((zs.length : Nat) : Int) ≤ 6))) rfl) ?_
 refine spd (p := ((zs.length : Nat) : Int) ≤ 6) 6 rfl (fun h1 => ?_) (fun h1 => ?_)
 · refine q ⟨_, rfl, rfl⟩ rfl rfl (mv (v := .slice Azs zs.length czs) rfl) ?_
   refine cl ⟨_, rfl, rfl⟩ rfl (slContainsFuncR (p := (fun x => (!ruleOk (x.1, x.2.1, x.2.2)))) (Azs := Azs) (czs := czs) (zs := zs) (kf := 41) (w := _) (hzs := (hzs.up0 hs0)) (hzs_e := hzs_e) (hf := (fun x w hx => iRV1 (l := x.1) (n := x.2.1) (b := x.2.2) w hx))) ?_
   rintro _ w1 ⟨rfl, hs1'⟩
   have hs1 : SH w w1 [] [] := hs0.call0 hs1'
   clear hs1'
   refine q ⟨_, rfl, rfl⟩ rfl rfl (nt (b := zs.any (fun x => (!ruleOk (x.1, x.2.1, x.2.2)))) rfl) ?_
   refine q trivial rfl rfl (pt (v := .bool (!(zs.any (fun x => (!ruleOk (x.1, x.2.1, x.2.2)))))) rfl rfl) ?_
   refine q trivial rfl rfl (asg (v := .bool (!(zs.any (fun x => (!ruleOk (x.1, x.2.1, x.2.2)))))) rfl) ?_
   refine nl ?_
   refine nN ?_
   refine rt ?_
   refine fret (v := .bool (!(zs.any (fun x => (!ruleOk (x.1, x.2.1, x.2.2)))))) (.tmp .nil) rfl ?_
   have e1 : (!(zs.any (fun x => (!ruleOk (x.1, x.2.1, x.2.2))))) = rulesOk zs := by rw [← rulesOk_any]; simp [h1]
   exact ⟨(congrArg (Value.bool) e1), hs1⟩
 · refine gk false rfl rfl rfl rfl rfl ?_
   refine gk false rfl rfl rfl rfl rfl ?_
   refine gk false rfl rfl rfl rfl rfl ?_
   refine q trivial rfl rfl (pf (v := .bool false) rfl rfl) ?_
   refine q trivial rfl rfl (asg (v := .bool false) rfl) ?_
   refine nl ?_
   refine nN ?_
   refine rt ?_
   refine fret (v := .bool false) (.tmp .nil) rfl ?_
   have e2 : false = rulesOk zs := by rw [← rulesOk_any]; simp [h1]
   exact ⟨(congrArg (Value.bool) e2), hs0⟩

theorem sRulesValid {Azs : Option Addr} {czs : Nat} (zs : List (List UInt8 × Int × Bool)) (w : World) (hzs : Sl w [] 3 Azs zs.length czs (zs.flatMap gRule)) (hzs_e : ∀ u ∈ zs, u.1.length ≤ 9223372036854775807) : Does Tryz.prog 20 [.slice Azs zs.length czs] w (fun v w' => v = .bool (rulesOk zs) ∧ SH w w' [] []) := by
 refine fn_enter (N := 55) Tryz.func20 rfl (by kernel_rfl) rfl rfl rfl ?_
 have hs0 : SH w w [] [] := SH.refl w []
 have hzs_m : zs.length ≤ 9223372036854775807 := Nat.le_trans hzs.cap hzs.capMax
 refine sq ?_
 refine rg ?_
 refine q trivial rfl rfl (asg (v := .bool false) rfl) ?_
 refine nl ?_
 refine nN ?_
 refine sq ?_
 refine sq ?_
 refine rg ?_
 refine q trivial rfl rfl (asg (v := I 0) rfl) ?_
 refine nl ?_
 refine nN ?_
 refine bl ?_
 refine lp (σ := Nat) (fun (k : Nat) f w' => Has f [(0, .slice Azs zs.length czs), (3, I ((k : Nat) : Int))] ∧ (k ≤ zs.length) ∧ ((zs.take k).all ruleOk = true) ∧ SH w w' [] []) (fun k => zs.length - k) 0 ⟨⟨rfl, rfl, trivial⟩, (by simp), (by simp), hs0⟩ ?_
 rintro k f w1 ⟨hf, hk, ha, hs1⟩
 obtain ⟨g1, rfl⟩ := has_upd hf
 clear hf
 refine sq ?_
 refine sq ?_
 refine rg ?_
 refine q trivial rfl rfl (mv (v := I ((k : Nat) : Int)) rfl) ?_
 refine q trivial rfl rfl (mv (v := .slice Azs zs.length czs) rfl) ?_
 refine q trivial rfl rfl (lnA (n := zs.length) sl32 rfl) ?_
 refine q trivial rfl rfl (lss (k := .i64) (a := ((k : Nat) : Int)) (b := ((zs.length : Nat) : Int)) rfl rfl) ?_
 refine nl ?_
 refine nN ?_
 refine cdd (p := ((k : Nat) : Int) < ((zs.length : Nat) : Int)) rfl (fun h1 => ?_) (fun h1 => ?_)
 · refine sk ?_
   refine nN ?_
   refine sq ?_
   refine bl ?_
   refine sq ?_
   refine sq ?_
   refine rg ?_
   refine q trivial rfl rfl (asg (v := I 0) rfl) ?_
   refine nl ?_
   refine nN ?_
   refine bl ?_
   refine lp (σ := Nat) (fun (j : Nat) f w' => Has f [(0, .slice Azs zs.length czs), (3, I ((k : Nat) : Int)), (4, I ((j : Nat) : Int))] ∧ (j ≤ (zs.getD k rule0).1.length) ∧ (((zs.getD k rule0).1.take j).all (okC [45, 46]) = true) ∧ SH w w' [] []) (fun j => (zs.getD k rule0).1.length - j) 0 ⟨⟨rfl, rfl, rfl, trivial⟩, (by simp), (by simp), hs1⟩ ?_
   rintro j f w2 ⟨hf, hj, hb, hs2⟩
   obtain ⟨g2, rfl⟩ := has_upd hf
   clear hf
   refine sq ?_
   refine sq ?_
   refine rg ?_
   refine q trivial rfl rfl (mv (v := I ((j : Nat) : Int)) rfl) ?_
   refine q trivial rfl rfl (mv (v := .slice Azs zs.length czs) rfl) ?_
   refine q trivial rfl rfl (mv (v := I ((k : Nat) : Int)) rfl) ?_
   refine ixwf (g := gRule) (zs := zs) (fun _ => rfl) rule0 k sl32 rfl rfl hzs (by first | (first | omega | (simp; done) | (simp; omega)) | (have hre := hzs_e _ (getD_mem' (d := rule0) (show k < zs.length by omega)); first | omega | (simp; done) | (simp; omega))) (by first | (first | omega | (simp; done) | (simp; omega)) | (have hre := hzs_e _ (getD_mem' (d := rule0) (show k < zs.length by omega)); first | omega | (simp; done) | (simp; omega))) trivial rfl (fun a1 ha1 => ?_)
   refine q trivial rfl rfl (fap 0 fo53_0 rfl) ?_
   refine q trivial rfl rfl (ldf (v := Str ((zs.getD k rule0).1)) 0 hs2 ha1 (fun _ h => h) rfl rfl one9) ?_
   refine q trivial rfl rfl (lnS (l := (zs.getD k rule0).1) st9 rfl) ?_
   refine q trivial rfl rfl (lss (k := .i64) (a := ((j : Nat) : Int)) (b := ((((zs.getD k rule0).1).length : Nat) : Int)) rfl rfl) ?_
   refine nl ?_
   refine nN ?_
   refine cdd (p := ((j : Nat) : Int) < ((((zs.getD k rule0).1).length : Nat) : Int)) rfl (fun h2 => ?_) (fun h2 => ?_)
   · refine sk ?_
     refine nN ?_
     refine sq ?_
     refine bl ?_
     refine sq ?_
     refine rg ?_
     refine q trivial rfl rfl (mv (v := .slice Azs zs.length czs) rfl) ?_
     refine q trivial rfl rfl (mv (v := I ((k : Nat) : Int)) rfl) ?_
     refine ixwf (g := gRule) (zs := zs) (fun _ => rfl) rule0 k sl32 rfl rfl hzs (by first | (first | omega | (simp; done) | (simp; omega)) | (have hre := hzs_e _ (getD_mem' (d := rule0) (show k < zs.length by omega)); first | omega | (simp; done) | (simp; omega))) (by first | (first | omega | (simp; done) | (simp; omega)) | (have hre := hzs_e _ (getD_mem' (d := rule0) (show k < zs.length by omega)); first | omega | (simp; done) | (simp; omega))) trivial rfl (fun a2 ha2 => ?_)
     refine q trivial rfl rfl (fap 0 fo53_0 rfl) ?_
     refine q trivial rfl rfl (ldf (v := Str ((zs.getD k rule0).1)) 0 hs2 ha2 (fun _ h => h) rfl rfl one9) ?_
     refine q trivial rfl rfl (mv (v := I ((j : Nat) : Int)) rfl) ?_
     refine q trivial rfl rfl (ixs (l := (zs.getD k rule0).1) j st9 rfl rfl (by first | (first | omega | (simp; done) | (simp; omega)) | (have hre := hzs_e _ (getD_mem' (d := rule0) (show k < zs.length by omega)); first | omega | (simp; done) | (simp; omega)))) ?_
     refine q trivial rfl rfl (asg (v := .int .u8 (((((zs.getD k rule0).1).getD j 0).toNat : Nat) : Int)) rfl) ?_
     refine nl ?_
     refine nN ?_
     refine sq ?_
     refine rg ?_
     refine q trivial rfl rfl (mv (v := .int .u8 (((((zs.getD k rule0).1).getD j 0).toNat : Nat) : Int)) rfl) ?_
     refine cl trivial rfl (sLetter (c := (((zs.getD k rule0).1).getD j 0)) (w := _)) ?_
     rintro _ w3 ⟨rfl, hs3'⟩
     have hs3 : SH w w3 [] [] := hs2.call0 hs3'
     clear hs3'
     refine q trivial rfl rfl (nt (b := letC (((zs.getD k rule0).1).getD j 0)) rfl) ?_
     refine q trivial rfl rfl (mv (v := .bool (!(letC (((zs.getD k rule0).1).getD j 0)))) rfl) ?_
     refine spl (b := !(letC (((zs.getD k rule0).1).getD j 0))) 32 rfl (fun h3 => ?_) (fun h3 => ?_)
     · have h4 : (letC (((zs.getD k rule0).1).getD j 0)) = false := by simpa using h3
       refine q ⟨_, rfl, rfl⟩ rfl rfl (mv (v := .int .u8 (((((zs.getD k rule0).1).getD j 0).toNat : Nat) : Int)) rfl) ?_
       refine q ⟨_, rfl, rfl⟩ rfl rfl (nei (k := .u8) (a := (((((zs.getD k rule0).1).getD j 0).toNat : Nat) : Int)) (b := 46) rfl rfl) ?_
       refine q trivial rfl rfl (pt (v := .bool (decide ((((((zs.getD k rule0).1).getD j 0).toNat : Nat) : Int) ≠ 46))) rfl rfl) ?_
       refine nl ?_
       refine nN ?_
       refine cdd (p := (((((zs.getD k rule0).1).getD j 0).toNat : Nat) : Int) ≠ 46) rfl (fun h5 => ?_) (fun h5 => ?_)
       · refine sq ?_
         refine rg ?_
         refine q trivial rfl rfl (asg (v := .bool false) rfl) ?_
         refine nl ?_
         refine nN ?_
         refine rt (bR (tR (tR (bR (tR (bR (tR (tR (bR (tR ?_))))))))))
         refine fret (v := .bool false) (.tmp .nil) rfl ?_
         have e1 : false = rulesOk zs := by exact (rules_bad1 (k := k) (j := j) (by omega) (by omega) (ruleC_no (by assumption) (by omega))).symm
         exact ⟨(congrArg (Value.bool) e1), hs3⟩
       · refine sk ?_
         refine bN ?_
         refine nN ?_
         refine rg ?_
         refine q trivial rfl rfl (mv (v := I ((j : Nat) : Int)) rfl) ?_
         refine q trivial rfl rfl (add (a := ((j : Nat) : Int)) (b := 1) rfl rfl (by first | (exact ⟨by omega, by omega⟩) | (have hre := hzs_e _ (getD_mem' (d := rule0) (show k < zs.length by omega)); exact ⟨by omega, by omega⟩))) ?_
         refine q trivial rfl rfl (asg (v := I (((j : Nat) : Int) + 1)) rfl) ?_
         refine nl ?_
         refine nN ?_
         refine ⟨(j + 1), ⟨⟨rfl, rfl, rfl, trivial⟩, (by omega), (all_step (d := 0) (by omega) hb (ruleC_mk (by first | exact .inl (by assumption) | exact .inr (by omega)))), hs3⟩, ?_⟩
         omega
     · have h6 : (letC (((zs.getD k rule0).1).getD j 0)) = true := by simpa using h3
       refine gk false rfl rfl rfl rfl rfl ?_
       refine gk false rfl rfl rfl rfl rfl ?_
       refine q trivial rfl rfl (pf (v := .bool false) rfl rfl) ?_
       refine nl ?_
       refine nN ?_
       refine cdf rfl ?_
       refine sk ?_
       refine bN ?_
       refine nN ?_
       refine rg ?_
       refine q trivial rfl rfl (mv (v := I ((j : Nat) : Int)) rfl) ?_
       refine q trivial rfl rfl (add (a := ((j : Nat) : Int)) (b := 1) rfl rfl (by first | (exact ⟨by omega, by omega⟩) | (have hre := hzs_e _ (getD_mem' (d := rule0) (show k < zs.length by omega)); exact ⟨by omega, by omega⟩))) ?_
       refine q trivial rfl rfl (asg (v := I (((j : Nat) : Int) + 1)) rfl) ?_
       refine nl ?_
       refine nN ?_
       refine ⟨(j + 1), ⟨⟨rfl, rfl, rfl, trivial⟩, (by omega), (all_step (d := 0) (by omega) hb (ruleC_mk (by first | exact .inl (by assumption) | exact .inr (by omega)))), hs3⟩, ?_⟩
       omega
   · refine ex (tE (tE (bE ?_)))
     refine nN ?_
     refine sq ?_
     refine rg ?_
     refine q trivial rfl rfl (mv (v := .slice Azs zs.length czs) rfl) ?_
     refine q trivial rfl rfl (mv (v := I ((k : Nat) : Int)) rfl) ?_
     refine ixwf (g := gRule) (zs := zs) (fun _ => rfl) rule0 k sl32 rfl rfl hzs (by first | (first | omega | (simp; done) | (simp; omega)) | (have hre := hzs_e _ (getD_mem' (d := rule0) (show k < zs.length by omega)); first | omega | (simp; done) | (simp; omega))) (by first | (first | omega | (simp; done) | (simp; omega)) | (have hre := hzs_e _ (getD_mem' (d := rule0) (show k < zs.length by omega)); first | omega | (simp; done) | (simp; omega))) trivial rfl (fun a3 ha3 => ?_)
     refine q trivial rfl rfl (fap 0 fo53_0 rfl) ?_
     refine q trivial rfl rfl (ldf (v := Str ((zs.getD k rule0).1)) 0 hs2 ha3 (fun _ h => h) rfl rfl one9) ?_
     refine q trivial rfl rfl (lnS (l := (zs.getD k rule0).1) st9 rfl) ?_
     refine q trivial rfl rfl (gtr (k := .i64) (a := ((((zs.getD k rule0).1).length : Nat) : Int)) (b := 20) rfl rfl) ?_
     refine q trivial rfl rfl (mv (v := .bool (decide ((20 : Int) < ((((zs.getD k rule0).1).length : Nat) : Int)))) rfl) ?_
     refine spd (p := (20 : Int) < ((((zs.getD k rule0).1).length : Nat) : Int)) 43 rfl (fun h7 => ?_) (fun h7 => ?_)
     · refine gk true rfl rfl rfl rfl rfl ?_
       refine gk true rfl rfl rfl rfl rfl ?_
       refine gk true rfl rfl rfl rfl rfl ?_
       refine gk true rfl rfl rfl rfl rfl ?_
       refine gk true rfl rfl rfl rfl rfl ?_
       refine gk true rfl rfl rfl rfl rfl ?_
       refine gk true rfl rfl rfl rfl rfl ?_
       refine q trivial rfl rfl (pt (v := .bool true) rfl rfl) ?_
       refine nl ?_
       refine nN ?_
       refine cdt rfl ?_
       refine sq ?_
       refine rg ?_
       refine q trivial rfl rfl (asg (v := .bool false) rfl) ?_
       refine nl ?_
       refine nN ?_
       refine rt (bR (tR (tR (bR (tR ?_)))))
       refine fret (v := .bool false) (.tmp .nil) rfl ?_
       have e2 : false = rulesOk zs := by exact (rules_bad2 (k := k) (by omega) (by omega)).symm
       exact ⟨(congrArg (Value.bool) e2), hs2⟩
     · refine q ⟨_, rfl, rfl⟩ rfl rfl (mv (v := .slice Azs zs.length czs) rfl) ?_
       refine q ⟨_, rfl, rfl⟩ rfl rfl (mv (v := I ((k : Nat) : Int)) rfl) ?_
       refine ixwf (g := gRule) (zs := zs) (fun _ => rfl) rule0 k sl32 rfl rfl hzs (by first | (first | omega | (simp; done) | (simp; omega)) | (have hre := hzs_e _ (getD_mem' (d := rule0) (show k < zs.length by omega)); first | omega | (simp; done) | (simp; omega))) (by first | (first | omega | (simp; done) | (simp; omega)) | (have hre := hzs_e _ (getD_mem' (d := rule0) (show k < zs.length by omega)); first | omega | (simp; done) | (simp; omega))) ⟨_, rfl, rfl⟩ rfl (fun a4 ha4 => ?_)
       refine q ⟨_, rfl, rfl⟩ rfl rfl (fap 1 fo53_1 rfl) ?_
       refine q ⟨_, rfl, rfl⟩ rfl rfl (ldf (v := I ((zs.getD k rule0).2.1)) 1 hs2 ha4 (fun _ h => h) rfl rfl one3) ?_
       refine cl ⟨_, rfl, rfl⟩ rfl (sIn (x := (zs.getD k rule0).2.1) (lo := 0) (hi := 65535) (w := _)) ?_
       rintro _ w4 ⟨rfl, hs4'⟩
       have hs4 : SH w w4 [] [] := hs2.call0 hs4'
       clear hs4'
       refine q ⟨_, rfl, rfl⟩ rfl rfl (nd (p := 0 ≤ ((zs.getD k rule0).2.1) ∧ ((zs.getD k rule0).2.1) ≤ 65535) rfl) ?_
       refine q trivial rfl rfl (pf (v := .bool (decide (¬ (0 ≤ ((zs.getD k rule0).2.1) ∧ ((zs.getD k rule0).2.1) ≤ 65535)))) rfl rfl) ?_
       refine nl ?_
       refine nN ?_
       refine cdd (p := ¬ (0 ≤ ((zs.getD k rule0).2.1) ∧ ((zs.getD k rule0).2.1) ≤ 65535)) rfl (fun h8 => ?_) (fun h8 => ?_)
       · refine sq ?_
         refine rg ?_
         refine q trivial rfl rfl (asg (v := .bool false) rfl) ?_
         refine nl ?_
         refine nN ?_
         refine rt (bR (tR (tR (bR (tR ?_)))))
         refine fret (v := .bool false) (.tmp .nil) rfl ?_
         have e3 : false = rulesOk zs := by exact (rules_bad2 (k := k) (by omega) (by omega)).symm
         exact ⟨(congrArg (Value.bool) e3), hs4⟩
       · refine sk ?_
         refine bN ?_
         refine nN ?_
         refine rg ?_
         refine q trivial rfl rfl (mv (v := I ((k : Nat) : Int)) rfl) ?_
         refine q trivial rfl rfl (add (a := ((k : Nat) : Int)) (b := 1) rfl rfl (by first | (exact ⟨by omega, by omega⟩) | (have hre := hzs_e _ (getD_mem' (d := rule0) (show k < zs.length by omega)); exact ⟨by omega, by omega⟩))) ?_
         refine q trivial rfl rfl (asg (v := I (((k : Nat) : Int) + 1)) rfl) ?_
         refine nl ?_
         refine nN ?_
         refine ⟨(k + 1), ⟨⟨rfl, rfl, trivial⟩, (by omega), (all_step (d := rule0) (by omega) ha (ruleOk_mk (by omega) (all_yes (k := j) (by omega) hb) (by omega))), hs4⟩, ?_⟩
         omega
 · refine ex (tE (tE (bE ?_)))
   refine nN ?_
   refine sq ?_
   refine rg ?_
   refine q trivial rfl rfl (mv (v := .slice Azs zs.length czs) rfl) ?_
   refine q trivial rfl rfl (lnA (n := zs.length) sl32 rfl) ?_
   refine q trivial rfl rfl (leq (k := .i64) (a := ((zs.length : Nat) : Int)) (b := 6) rfl rfl) ?_
   refine q trivial rfl rfl (asg (v := .bool (decide (((zs.length : Nat) : Int) ≤ 6))) rfl) ?_
   refine nl ?_
   refine nN ?_
   refine rt ?_
   refine fret (v := .bool (decide (((zs.length : Nat) : Int) ≤ 6))) (.tmp .nil) rfl ?_
   have e4 : (decide (((zs.length : Nat) : Int) ≤ 6)) = rulesOk zs := by exact rules_end (by omega) ha
   exact ⟨(congrArg (Value.bool) e4), hs1⟩

theorem eqRule (l1 : List UInt8) (n1 : Int) (b1_ : Bool) (l2 : List UInt8) (n2 : Int) (b2_ : Bool) (w : World)  : Does Tryz.prog 29 [.agg #[Str l1, I n1, .bool b1_], .agg #[Str l2, I n2, .bool b2_]] w (fun v w' => v = .bool (decide ((l1, n1, b1_) = (l2, n2, b2_))) ∧ SH w w' [] []) := by
 refine fn_enter (N := 20) Tryz.func29 rfl (by kernel_rfl) rfl rfl rfl ?_
 have hs0 : SH w w [] [] := SH.refl w []
 refine sq ?_
 refine rg ?_
 refine bx (v := .agg #[Str l1, I n1, .bool b1_]) (cs := [Str l1, I n1, .bool b1_]) hs0 rfl rfl trivial rfl (fun b1 w1 (hs1 : SH w w1 [] [.blk b1 53 [Str l1, I n1, .bool b1_]]) => ?_)
 refine bx (v := .agg #[Str l2, I n2, .bool b2_]) (cs := [Str l2, I n2, .bool b2_]) hs1 rfl rfl trivial rfl (fun b2 w2 (hs2 : SH w w2 [] [.blk b1 53 [Str l1, I n1, .bool b1_], .blk b2 53 [Str l2, I n2, .bool b2_]]) => ?_)
 refine q trivial rfl rfl (asg (v := .bool false) rfl) ?_
 refine nl ?_
 refine nN ?_
 refine sq ?_
 refine sq ?_
 refine rg ?_
 refine q trivial rfl rfl (fa 0 fo53_0 rfl) ?_
 refine q trivial rfl rfl (ld (v := Str l1) hs2 0 rfl rfl rfl one9) ?_
 refine q trivial rfl rfl (fa 0 fo53_0 rfl) ?_
 refine q trivial rfl rfl (ld (v := Str l2) hs2 1 rfl rfl rfl one9) ?_
 refine q trivial rfl rfl (nes (l := l1) (m := l2) rfl rfl) ?_
 refine nl ?_
 refine nN ?_
 refine cdd (p := l1 ≠ l2) rfl (fun h1 => ?_) (fun h1 => ?_)
 · refine sq ?_
   refine rg ?_
   refine q trivial rfl rfl (asg (v := .bool false) rfl) ?_
   refine nl ?_
   refine nN ?_
   refine rt (tR ?_)
   refine fret (v := .bool false) (.tmp .nil) rfl ?_
   have e1 : false = (decide ((l1, n1, b1_) = (l2, n2, b2_))) := by simp [h1] <;> simp_all
   exact ⟨(congrArg (Value.bool) e1), (hs2.pick [] rfl (by decide))⟩
 · refine sk ?_
   refine nN ?_
   refine sq ?_
   refine sq ?_
   refine rg ?_
   refine q trivial rfl rfl (fa 1 fo53_1 rfl) ?_
   refine q trivial rfl rfl (ld (v := I n1) hs2 0 rfl rfl rfl one3) ?_
   refine q trivial rfl rfl (fa 1 fo53_1 rfl) ?_
   refine q trivial rfl rfl (ld (v := I n2) hs2 1 rfl rfl rfl one3) ?_
   refine q trivial rfl rfl (nei (k := .i64) (a := n1) (b := n2) rfl rfl) ?_
   refine nl ?_
   refine nN ?_
   refine cdd (p := n1 ≠ n2) rfl (fun h2 => ?_) (fun h2 => ?_)
   · refine sq ?_
     refine rg ?_
     refine q trivial rfl rfl (asg (v := .bool false) rfl) ?_
     refine nl ?_
     refine nN ?_
     refine rt (tR ?_)
     refine fret (v := .bool false) (.tmp .nil) rfl ?_
     have e2 : false = (decide ((l1, n1, b1_) = (l2, n2, b2_))) := by simp [h1, h2] <;> simp_all
     exact ⟨(congrArg (Value.bool) e2), (hs2.pick [] rfl (by decide))⟩
   · refine sk ?_
     refine nN ?_
     refine sq ?_
     refine sq ?_
     refine rg ?_
     refine q trivial rfl rfl (fa 2 fo53_2 rfl) ?_
     refine q trivial rfl rfl (ld (v := .bool b1_) hs2 0 rfl rfl rfl one4) ?_
     refine q trivial rfl rfl (fa 2 fo53_2 rfl) ?_
     refine q trivial rfl rfl (ld (v := .bool b2_) hs2 1 rfl rfl rfl one4) ?_
     refine q trivial rfl rfl (neb (a := b1_) (b := b2_) tb4 rfl rfl) ?_
     refine nl ?_
     refine nN ?_
     refine cdd (p := b1_ ≠ b2_) rfl (fun h3 => ?_) (fun h3 => ?_)
     · refine sq ?_
       refine rg ?_
       refine q trivial rfl rfl (asg (v := .bool false) rfl) ?_
       refine nl ?_
       refine nN ?_
       refine rt (tR ?_)
       refine fret (v := .bool false) (.tmp .nil) rfl ?_
       have e3 : false = (decide ((l1, n1, b1_) = (l2, n2, b2_))) := by simp [h1, h2, h3] <;> simp_all
       exact ⟨(congrArg (Value.bool) e3), (hs2.pick [] rfl (by decide))⟩
     · refine sk ?_
       refine nN ?_
       refine sq ?_
       refine rg ?_
       refine q trivial rfl rfl (asg (v := .bool true) rfl) ?_
       refine nl ?_
       refine nN ?_
       refine rt ?_
       refine fret (v := .bool true) (.tmp .nil) rfl ?_
       have e4 : true = (decide ((l1, n1, b1_) = (l2, n2, b2_))) := by simp [h1, h2, h3] <;> simp_all
       exact ⟨(congrArg (Value.bool) e4), (hs2.pick [] rfl (by decide))⟩

theorem eqRuleS {Axs : Option Addr} {cxs : Nat} (xs : List (List UInt8 × Int × Bool)) {Ays : Option Addr} {cys : Nat} (ys : List (List UInt8 × Int × Bool)) (w : World) (hxs : Sl w [] 3 Axs xs.length cxs (xs.flatMap gRule)) (hxs_e : ∀ u ∈ xs, u.1.length ≤ 9223372036854775807) (hys : Sl w [] 3 Ays ys.length cys (ys.flatMap gRule)) (hys_e : ∀ u ∈ ys, u.1.length ≤ 9223372036854775807) : Does Tryz.prog 11 [.slice Axs xs.length cxs, .slice Ays ys.length cys] w (fun v w' => v = .bool (decide (xs = ys)) ∧ SH w w' [] []) := by
 refine fn_enter (N := 27) Tryz.func11 rfl (by kernel_rfl) rfl rfl rfl ?_
 have hs0 : SH w w [] [] := SH.refl w []
 have hxs_m : xs.length ≤ 9223372036854775807 := Nat.le_trans hxs.cap hxs.capMax
 have hys_m : ys.length ≤ 9223372036854775807 := Nat.le_trans hys.cap hys.capMax
 refine sq ?_
 refine rg ?_
 refine q trivial rfl rfl (asg (v := .bool false) rfl) ?_
 refine nl ?_
 refine nN ?_
 refine sq ?_
 refine sq ?_
 refine rg ?_
 refine q trivial rfl rfl (mv (v := .slice Axs xs.length cxs) rfl) ?_
 refine q trivial rfl rfl (lnA (n := xs.length) sl32 rfl) ?_
 refine q trivial rfl rfl (mv (v := .slice Ays ys.length cys) rfl) ?_
 refine q trivial rfl rfl (lnA (n := ys.length) sl32 rfl) ?_
 refine q trivial rfl rfl (nei (k := .i64) (a := ((xs.length : Nat) : Int)) (b := ((ys.length : Nat) : Int)) rfl rfl) ?_
 refine nl ?_
 refine nN ?_
 refine cdd (p := ((xs.length : Nat) : Int) ≠ ((ys.length : Nat) : Int)) rfl (fun h1 => ?_) (fun h1 => ?_)
 · refine sq ?_
   refine rg ?_
   refine q trivial rfl rfl (asg (v := .bool false) rfl) ?_
   refine nl ?_
   refine nN ?_
   refine rt (tR ?_)
   refine fret (v := .bool false) (.tmp .nil) rfl ?_
   have e1 : false = (decide (xs = ys)) := by simp; intro h; subst h; exact h1 rfl
   exact ⟨(congrArg (Value.bool) e1), hs0⟩
 · refine sk ?_
   refine nN ?_
   refine sq ?_
   refine sq ?_
   refine rg ?_
   refine q trivial rfl rfl (asg (v := I 0) rfl) ?_
   refine nl ?_
   refine nN ?_
   refine bl ?_
   refine lp (σ := Nat) (fun (k : Nat) f w' => Has f [(0, .slice Axs xs.length cxs), (1, .slice Ays ys.length cys), (5, I ((k : Nat) : Int))] ∧ (xs.length = ys.length) ∧ (k ≤ xs.length) ∧ (xs.take k = ys.take k) ∧ SH w w' [] []) (fun k => xs.length - k) 0 ⟨⟨rfl, rfl, rfl, trivial⟩, (by omega), (by simp), (by simp), hs0⟩ ?_
   rintro k f w1 ⟨hf, hl, hk, ha, hs1⟩
   obtain ⟨g1, rfl⟩ := has_upd hf
   clear hf
   refine sq ?_
   refine sq ?_
   refine rg ?_
   refine q trivial rfl rfl (mv (v := I ((k : Nat) : Int)) rfl) ?_
   refine q trivial rfl rfl (mv (v := .slice Axs xs.length cxs) rfl) ?_
   refine q trivial rfl rfl (lnA (n := xs.length) sl32 rfl) ?_
   refine q trivial rfl rfl (lss (k := .i64) (a := ((k : Nat) : Int)) (b := ((xs.length : Nat) : Int)) rfl rfl) ?_
   refine nl ?_
   refine nN ?_
   refine cdd (p := ((k : Nat) : Int) < ((xs.length : Nat) : Int)) rfl (fun h2 => ?_) (fun h2 => ?_)
   · refine sk ?_
     refine nN ?_
     refine sq ?_
     refine bl ?_
     refine sq ?_
     refine rq (fun w' => SH w w' [] []) mixed (by kernel_rfl) hs1.drew ?_
     refine qq trivial rfl rfl (fun wq hsq => mv (v := .slice Axs xs.length cxs) rfl) ?_
     refine qq trivial rfl rfl (fun wq hsq => mv (v := I ((k : Nat) : Int)) rfl) ?_
     refine ixqf (g := gRule) (zs := xs) (fun _ => rfl) rule0 k sl32 rfl rfl hxs (by first | omega | (simp; done) | (simp; omega)) (by first | omega | (simp; done) | (simp; omega)) trivial rfl (fun a1 ha1 => ?_)
     refine qq trivial rfl rfl (fun wq hsq => ldag (us := [Str ((xs.getD k rule0).1), I ((xs.getD k rule0).2.1), .bool ((xs.getD k rule0).2.2)]) hsq ha1 (fun _ h => h) rfl rfl ag53) ?_
     refine qq trivial rfl rfl (fun wq hsq => mv (v := .slice Ays ys.length cys) rfl) ?_
     refine qq trivial rfl rfl (fun wq hsq => mv (v := I ((k : Nat) : Int)) rfl) ?_
     refine ixqf (g := gRule) (zs := ys) (fun _ => rfl) rule0 k sl32 rfl rfl hys (by first | omega | (simp; done) | (simp; omega)) (by first | omega | (simp; done) | (simp; omega)) trivial rfl (fun a2 ha2 => ?_)
     refine qq trivial rfl rfl (fun wq hsq => ldag (us := [Str ((ys.getD k rule0).1), I ((ys.getD k rule0).2.1), .bool ((ys.getD k rule0).2.2)]) hsq ha2 (fun _ h => h) rfl rfl ag53) ?_
     refine qc (.bool (decide ((((xs.getD k rule0).1), ((xs.getD k rule0).2.1), ((xs.getD k rule0).2.2)) = (((ys.getD k rule0).1), ((ys.getD k rule0).2.1), ((ys.getD k rule0).2.2))))) trivial rfl (fun wq hsq => (eqRule (l1 := (xs.getD k rule0).1) (n1 := (xs.getD k rule0).2.1) (b1_ := ((xs.getD k rule0).2.2)) (l2 := (ys.getD k rule0).1) (n2 := (ys.getD k rule0).2.1) (b2_ := ((ys.getD k rule0).2.2)) (w := _)).mono (fun v w' h => ⟨h.1, by simpa using hsq.call0 h.2⟩)) ?_
     refine qq trivial rfl rfl (fun wq hsq => nd (p := (((xs.getD k rule0).1), ((xs.getD k rule0).2.1), ((xs.getD k rule0).2.2)) = (((ys.getD k rule0).1), ((ys.getD k rule0).2.1), ((ys.getD k rule0).2.2))) rfl) ?_
     refine qn (fun w2 hs2 => ?_)
     refine nN ?_
     refine cdd (p := ¬ ((((xs.getD k rule0).1), ((xs.getD k rule0).2.1), ((xs.getD k rule0).2.2)) = (((ys.getD k rule0).1), ((ys.getD k rule0).2.1), ((ys.getD k rule0).2.2)))) rfl (fun h3 => ?_) (fun h3 => ?_)
     · refine sq ?_
       refine rg ?_
       refine q trivial rfl rfl (asg (v := .bool false) rfl) ?_
       refine nl ?_
       refine nN ?_
       refine rt (bR (tR (tR (bR (tR ?_)))))
       refine fret (v := .bool false) (.tmp .nil) rfl ?_
       have e2 : false = (decide (xs = ys)) := by simp; intro h; subst h; exact h3 rfl
       exact ⟨(congrArg (Value.bool) e2), hs2⟩
     · refine sk ?_
       refine bN ?_
       refine nN ?_
       refine rg ?_
       refine q trivial rfl rfl (mv (v := I ((k : Nat) : Int)) rfl) ?_
       refine q trivial rfl rfl (add (a := ((k : Nat) : Int)) (b := 1) rfl rfl (by exact ⟨by omega, by omega⟩)) ?_
       refine q trivial rfl rfl (asg (v := I (((k : Nat) : Int) + 1)) rfl) ?_
       refine nl ?_
       refine nN ?_
       refine ⟨(k + 1), ⟨⟨rfl, rfl, rfl, trivial⟩, (hl), (by omega), (take_succ_eq (d := rule0) (by omega) (by omega) ha (Decidable.not_not.1 h3)), hs2⟩, ?_⟩
       omega
   · refine ex (tE (tE (bE ?_)))
     refine nN ?_
     refine sq ?_
     refine rg ?_
     refine q trivial rfl rfl (asg (v := .bool true) rfl) ?_
     refine nl ?_
     refine nN ?_
     refine rt ?_
     refine fret (v := .bool true) (.tmp .nil) rfl ?_
     have e3 : true = (decide (xs = ys)) := by simp; exact take_all_eq hl (by omega) ha
     exact ⟨(congrArg (Value.bool) e3), hs1⟩

theorem toRule (l : List UInt8) (n : Int) (b : Bool) (w : World)  : Does Tryz.prog 23 [.agg #[Str l, I n, .bool b]] w (fun v w' => v = .agg #[Str l, .int .i64 n, .bool b] ∧ SH w w' [] []) := by
 refine fn_enter (N := 14) Tryz.func23 rfl (by kernel_rfl) rfl rfl rfl ?_
 have hs0 : SH w w [] [] := SH.refl w []
 refine sq ?_
 refine rg ?_
 refine bx (v := .agg #[Str l, I n, .bool b]) (cs := [Str l, I n, .bool b]) hs0 rfl rfl trivial rfl (fun b1 w1 (hs1 : SH w w1 [] [.blk b1 47 [Str l, I n, .bool b]]) => ?_)
 refine al (v := .agg #[Str [], I 0, .bool false]) (cs := [Str [], I 0, .bool false]) hs1 tz53 rfl trivial rfl (fun b2 w2 (hs2 : SH w w2 [] [.blk b1 47 [Str l, I n, .bool b], .blk b2 53 [Str [], I 0, .bool false]]) => ?_)
 refine nl ?_
 refine nN ?_
 refine sq ?_
 refine rg ?_
 refine al (v := .agg #[Str [], I 0, .bool false]) (cs := [Str [], I 0, .bool false]) hs2 tz53 rfl trivial rfl (fun b3 w3 (hs3 : SH w w3 [] [.blk b1 47 [Str l, I n, .bool b], .blk b2 53 [Str [], I 0, .bool false], .blk b3 53 [Str [], I 0, .bool false]]) => ?_)
 refine nl ?_
 refine nN ?_
 refine sq ?_
 refine rg ?_
 refine q trivial rfl rfl (fa 0 fo47_0 rfl) ?_
 refine q trivial rfl rfl (ld (v := Str l) hs3 0 rfl rfl rfl one9) ?_
 refine q trivial rfl rfl (fa 0 fo53_0 rfl) ?_
 refine st (v := Str l) hs3 2 rfl rfl rfl rfl rfl one9 trivial (fun w4 (hs4 : SH w w4 [] [.blk b1 47 [Str l, I n, .bool b], .blk b2 53 [Str [], I 0, .bool false], .blk b3 53 [Str l, I 0, .bool false]]) => ?_)
 refine nl ?_
 refine nN ?_
 refine sq ?_
 refine rg ?_
 refine q trivial rfl rfl (fa 1 fo47_1 rfl) ?_
 refine q trivial rfl rfl (ld (v := I n) hs4 0 rfl rfl rfl one3) ?_
 refine q trivial rfl rfl (fa 1 fo53_1 rfl) ?_
 refine st (v := I n) hs4 2 rfl rfl rfl rfl rfl one3 trivial (fun w5 (hs5 : SH w w5 [] [.blk b1 47 [Str l, I n, .bool b], .blk b2 53 [Str [], I 0, .bool false], .blk b3 53 [Str l, I n, .bool false]]) => ?_)
 refine nl ?_
 refine nN ?_
 refine sq ?_
 refine rg ?_
 refine q trivial rfl rfl (fa 2 fo47_2 rfl) ?_
 refine q trivial rfl rfl (ld (v := .bool b) hs5 0 rfl rfl rfl one4) ?_
 refine q trivial rfl rfl (fa 2 fo53_2 rfl) ?_
 refine st (v := .bool b) hs5 2 rfl rfl rfl rfl rfl one4 trivial (fun w6 (hs6 : SH w w6 [] [.blk b1 47 [Str l, I n, .bool b], .blk b2 53 [Str [], I 0, .bool false], .blk b3 53 [Str l, I n, .bool b]]) => ?_)
 refine nl ?_
 refine nN ?_
 refine sq ?_
 refine rg ?_
 refine q trivial rfl rfl (ldg (vs := [Str l, I n, .bool b]) hs6 2 rfl rfl rfl rfl ag53) ?_
 refine stg (vs := [Str l, I n, .bool b]) hs6 1 rfl rfl rfl rfl rfl rfl rfl ag53 trivial (fun w7 (hs7 : SH w w7 [] [.blk b1 47 [Str l, I n, .bool b], .blk b3 53 [Str l, I n, .bool b], .blk b2 53 [Str l, I n, .bool b]]) => ?_)
 refine nl ?_
 refine nN ?_
 refine rt ?_
 refine fret (v := .agg #[Str l, I n, .bool b]) (resC hs7 2 rfl rfl ag53 rfl .nil) rfl ?_
 exact ⟨rfl, (hs7.pick [] rfl (by decide))⟩

theorem toRuleS {Axs : Option Addr} {cxs : Nat} (xs : List (List UInt8 × Int × Bool)) (w : World) (hxs : Sl w [] 3 Axs xs.length cxs (xs.flatMap gRule)) (hxs_e : ∀ u ∈ xs, u.1.length ≤ 9223372036854775807) (hxs_n : xs.length ≤ 1099511627776) : Does Tryz.prog 7 [.slice Axs xs.length cxs] w (fun v w' => ∃ Ar : Option Addr, ∃ cr : Nat, v = .slice Ar xs.length cr ∧ SH w w' [] [.own Ar xs.length cr 53 3 (xs.flatMap gRule)]) := by
 refine fn_enter (N := 23) Tryz.func7 rfl (by kernel_rfl) rfl rfl rfl ?_
 have hs0 : SH w w [] [] := SH.refl w []
 have hxs_m : xs.length ≤ 9223372036854775807 := Nat.le_trans hxs.cap hxs.capMax
 refine sq ?_
 refine rg ?_
 refine q trivial rfl rfl (asg (v := ns) rfl) ?_
 refine nl ?_
 refine nN ?_
 refine sq ?_
 refine rg ?_
 refine q trivial rfl rfl (mv (v := .slice Axs xs.length cxs) rfl) ?_
 refine q trivial rfl rfl (lnA (n := xs.length) sl22 rfl) ?_
 refine mkf (g := gRule) (zz := rule0) (n := xs.length) (fun _ => rfl) (by decide) hs0 sl32 rfl rfl rfl (by omega) (by unfold maxLen; omega) trivial rfl (fun b1 w1 (hs1 : SH w w1 [] [.own (some ⟨b1, 0, none⟩) ((List.replicate xs.length (rule0 : List UInt8 × Int × Bool)).length) xs.length 53 3 ((List.replicate xs.length (rule0 : List UInt8 × Int × Bool)).flatMap gRule)]) => ?_)
 refine q trivial rfl rfl (asg (v := sb b1 ((List.replicate xs.length (rule0 : List UInt8 × Int × Bool)).length) xs.length) rfl) ?_
 refine nl ?_
 refine nN ?_
 refine sq ?_
 refine sq ?_
 refine rg ?_
 refine q trivial rfl rfl (asg (v := I 0) rfl) ?_
 refine nl ?_
 refine nN ?_
 refine bl ?_
 have e1 : List.replicate xs.length (rule0 : List UInt8 × Int × Bool) = xs.take 0 ++ List.replicate (xs.length - 0) rule0 := by simp
 have e2 : (List.replicate xs.length (rule0 : List UInt8 × Int × Bool)).length = xs.length := by first | rfl | (simp; done) | (simp; omega) | omega
 refine lp (σ := (Option Addr) × Nat × Nat) (fun ⟨Ag3, cg3, k⟩ f w' => Has f [(0, .slice Axs xs.length cxs), (3, .slice Ag3 xs.length cg3), (4, I ((k : Nat) : Int))] ∧ (k ≤ xs.length) ∧ SH w w' [] [.own Ag3 xs.length cg3 53 3 ((xs.take k ++ List.replicate (xs.length - k) rule0).flatMap gRule)]) (fun ⟨Ag3, cg3, k⟩ => xs.length - k) ((some ⟨b1, 0, none⟩), xs.length, 0) ⟨⟨rfl, (show (.slice (some ⟨b1, 0, none⟩) ((List.replicate xs.length (rule0 : List UInt8 × Int × Bool)).length) xs.length : Value) = .slice (some ⟨b1, 0, none⟩) xs.length xs.length from slv rfl e2 rfl), rfl, trivial⟩, (by simp), (hs1.cast (lc (own_eqf (g := gRule) rfl e2 rfl e1) rfl))⟩ ?_
 rintro ⟨Ag3, cg3, k⟩ f w2 ⟨hf, hk, hs2⟩
 obtain ⟨g1, rfl⟩ := has_upd hf
 clear hf
 refine sq ?_
 refine sq ?_
 refine rg ?_
 refine q trivial rfl rfl (mv (v := I ((k : Nat) : Int)) rfl) ?_
 refine q trivial rfl rfl (mv (v := .slice Axs xs.length cxs) rfl) ?_
 refine q trivial rfl rfl (lnA (n := xs.length) sl22 rfl) ?_
 refine q trivial rfl rfl (lss (k := .i64) (a := ((k : Nat) : Int)) (b := ((xs.length : Nat) : Int)) rfl rfl) ?_
 refine nl ?_
 refine nN ?_
 refine cdd (p := ((k : Nat) : Int) < ((xs.length : Nat) : Int)) rfl (fun h1 => ?_) (fun h1 => ?_)
 · refine sk ?_
   refine nN ?_
   refine sq ?_
   refine bl ?_
   refine rg ?_
   refine q trivial rfl rfl (mv (v := .slice Ag3 xs.length cg3) rfl) ?_
   refine q trivial rfl rfl (mv (v := I ((k : Nat) : Int)) rfl) ?_
   refine q trivial rfl rfl (mv (v := .slice Axs xs.length cxs) rfl) ?_
   refine q trivial rfl rfl (mv (v := I ((k : Nat) : Int)) rfl) ?_
   refine ixwf (g := gRule) (zs := xs) (fun _ => rfl) rule0 k sl22 rfl rfl hxs (by first | omega | (simp; done) | (simp; omega)) (by first | omega | (simp; done) | (simp; omega)) trivial rfl (fun a1 ha1 => ?_)
   refine q trivial rfl rfl (ldag (us := [Str ((xs.getD k rule0).1), I ((xs.getD k rule0).2.1), .bool ((xs.getD k rule0).2.2)]) hs2 ha1 (fun _ h => h) rfl rfl ag47) ?_
   refine cl trivial rfl (toRule (l := (xs.getD k rule0).1) (n := (xs.getD k rule0).2.1) (b := ((xs.getD k rule0).2.2)) (w := _)) ?_
   rintro _ w3 ⟨rfl, hs3'⟩
   have hs3 : SH w w3 [] [.own Ag3 xs.length cg3 53 3 ((xs.take k ++ List.replicate (xs.length - k) rule0).flatMap gRule)] := hs2.call0 hs3'
   clear hs3'
   obtain ⟨b2, rfl⟩ := own_form hs3 0 rfl (by first | omega | (simp; done) | (simp; omega))
   refine q trivial rfl rfl (ixo k sl32 rfl rfl (by first | omega | (simp; done) | (simp; omega))) ?_
   refine stof (g := gRule) (ys := xs.take k ++ List.replicate (xs.length - k) rule0) (o := k) (u := ((((xs.getD k rule0).1), ((xs.getD k rule0).2.1), ((xs.getD k rule0).2.2)) : List UInt8 × Int × Bool)) (fun _ => rfl) hs3 0 rfl rfl rfl rfl (by first | omega | (simp; done) | (simp; omega)) (by first | omega | (simp; done) | (simp; omega)) rfl ag53 trivial (fun w4 (hs4 : SH w w4 [] [.own (some ⟨b2, 0, none⟩) xs.length cg3 53 3 (((xs.take k ++ List.replicate (xs.length - k) rule0).set k ((((xs.getD k rule0).1), ((xs.getD k rule0).2.1), ((xs.getD k rule0).2.2)) : List UInt8 × Int × Bool)).flatMap gRule)]) => ?_)
   refine nl ?_
   refine bN ?_
   refine nN ?_
   refine rg ?_
   refine q trivial rfl rfl (mv (v := I ((k : Nat) : Int)) rfl) ?_
   refine q trivial rfl rfl (add (a := ((k : Nat) : Int)) (b := 1) rfl rfl (by exact ⟨by omega, by omega⟩)) ?_
   refine q trivial rfl rfl (asg (v := I (((k : Nat) : Int) + 1)) rfl) ?_
   refine nl ?_
   refine nN ?_
   have e3 : (xs.take k ++ List.replicate (xs.length - k) rule0).set k ((((xs.getD k rule0).1), ((xs.getD k rule0).2.1), ((xs.getD k rule0).2.2)) : List UInt8 × Int × Bool) = xs.take (k + 1) ++ List.replicate (xs.length - (k + 1)) rule0 := by exact copy_setG (by omega)
   refine ⟨((some ⟨b2, 0, none⟩), cg3, k + 1), ⟨⟨rfl, rfl, rfl, trivial⟩, (by omega), (hs4.cast (lc (own_eqf (g := gRule) rfl rfl rfl e3) rfl))⟩, ?_⟩
   show xs.length - (k + 1) < xs.length - k
   omega
 · refine ex (tE (tE (bE ?_)))
   refine nN ?_
   refine sq ?_
   refine rg ?_
   refine q trivial rfl rfl (mv (v := .slice Ag3 xs.length cg3) rfl) ?_
   refine q trivial rfl rfl (asg (v := .slice Ag3 xs.length cg3) rfl) ?_
   refine nl ?_
   refine nN ?_
   refine rt ?_
   refine fret (v := .slice Ag3 xs.length cg3) (.tmp .nil) rfl ?_
   have e4 : xs.take k ++ List.replicate (xs.length - k) rule0 = xs := by have : k = xs.length := (by omega); subst this; simp
   exact ⟨Ag3, cg3, rfl, (hs2.cast (lc (own_eqf (g := gRule) rfl rfl rfl e4) rfl))⟩

theorem szRule (l : List UInt8) (n : Int) (b : Bool) (z : Int) (w : World) (hl_n : l.length ≤ 9223372036854775807) (hz : 0 ≤ z ∧ z ≤ 1099511627776) : Does Tryz.prog 17 [.agg #[Str l, I n, .bool b], I z] w (fun v w' => v = .int .i64 (szI l.length z) ∧ SH w w' [] []) := by
 refine fn_enter (N := 13) Tryz.func17 rfl (by kernel_rfl) rfl rfl rfl ?_
 have hs0 : SH w w [] [] := SH.refl w []
 refine sq ?_
 refine rg ?_
 refine bx (v := .agg #[Str l, I n, .bool b]) (cs := [Str l, I n, .bool b]) hs0 rfl rfl trivial rfl (fun b1 w1 (hs1 : SH w w1 [] [.blk b1 47 [Str l, I n, .bool b]]) => ?_)
 refine q trivial rfl rfl (asg (v := I 0) rfl) ?_
 refine nl ?_
 refine nN ?_
 refine sq ?_
 refine rg ?_
 refine q trivial rfl rfl (mv (v := I z) rfl) ?_
 refine q trivial rfl rfl (fa 0 fo47_0 rfl) ?_
 refine q trivial rfl rfl (ld (v := Str l) hs1 0 rfl rfl rfl one9) ?_
 refine q trivial rfl rfl (lnS (l := l) st9 rfl) ?_
 refine q trivial rfl rfl (sub (a := z) (b := ((l.length : Nat) : Int)) rfl rfl (by exact ⟨by omega, by omega⟩)) ?_
 refine q trivial rfl rfl (asg (v := I (z - ((l.length : Nat) : Int))) rfl) ?_
 refine nl ?_
 refine nN ?_
 refine sq ?_
 refine sq ?_
 refine rg ?_
 refine q trivial rfl rfl (mv (v := I (z - ((l.length : Nat) : Int))) rfl) ?_
 refine q trivial rfl rfl (lss (k := .i64) (a := z - ((l.length : Nat) : Int)) (b := 0) rfl rfl) ?_
 refine nl ?_
 refine nN ?_
 refine cdd (p := (z - ((l.length : Nat) : Int)) < 0) rfl (fun h1 => ?_) (fun h1 => ?_)
 · refine sq ?_
   refine rg ?_
   refine q trivial rfl rfl (asg (v := I (-1)) rfl) ?_
   refine nl ?_
   refine nN ?_
   refine rt (tR ?_)
   refine fret (v := I (-1)) (.tmp .nil) rfl ?_
   have e1 : (-1) = szI l.length z := by simp [szI] <;> omega
   exact ⟨(congrArg (Value.int .i64) e1), (hs1.pick [] rfl (by decide))⟩
 · refine sk ?_
   refine nN ?_
   refine sq ?_
   refine rg ?_
   refine q trivial rfl rfl (mv (v := I (z - ((l.length : Nat) : Int))) rfl) ?_
   refine q trivial rfl rfl (asg (v := I (z - ((l.length : Nat) : Int))) rfl) ?_
   refine nl ?_
   refine nN ?_
   refine rt ?_
   refine fret (v := I (z - ((l.length : Nat) : Int))) (.tmp .nil) rfl ?_
   have e2 : z - ((l.length : Nat) : Int) = szI l.length z := by simp [szI] <;> omega
   exact ⟨(congrArg (Value.int .i64) e2), (hs1.pick [] rfl (by decide))⟩

theorem szRuleS {Axs : Option Addr} {cxs : Nat} (xs : List (List UInt8 × Int × Bool)) (z : Int) (w : World) (hxs : Sl w [] 3 Axs xs.length cxs (xs.flatMap gRule)) (hxs_e : ∀ u ∈ xs, u.1.length ≤ 9223372036854775807) (hz : 0 ≤ z ∧ z ≤ 1099511627776) : Does Tryz.prog 4 [.slice Axs xs.length cxs, I z] w (fun v w' => ∃ r : Int, v = .int .i64 r ∧ (r < 0 ∨ ((xs.length : Nat) : Int) ≤ z) ∧ (r ≤ z) ∧ SH w w' [] []) := by
 refine fn_enter (N := 27) Tryz.func4 rfl (by kernel_rfl) rfl rfl rfl ?_
 have hs0 : SH w w [] [] := SH.refl w []
 have hxs_m : xs.length ≤ 9223372036854775807 := Nat.le_trans hxs.cap hxs.capMax
 refine sq ?_
 refine rg ?_
 refine q trivial rfl rfl (asg (v := I 0) rfl) ?_
 refine nl ?_
 refine nN ?_
 refine sq ?_
 refine rg ?_
 refine q trivial rfl rfl (mv (v := I z) rfl) ?_
 refine q trivial rfl rfl (mv (v := .slice Axs xs.length cxs) rfl) ?_
 refine q trivial rfl rfl (lnA (n := xs.length) sl22 rfl) ?_
 refine q trivial rfl rfl (sub (a := z) (b := ((xs.length : Nat) : Int)) rfl rfl (by first | (exact ⟨by omega, by omega⟩) | (have hre := hxs_e _ (getD_mem' (d := rule0) (show k < xs.length by omega)); exact ⟨by omega, by omega⟩))) ?_
 refine q trivial rfl rfl (asg (v := I (z - ((xs.length : Nat) : Int))) rfl) ?_
 refine nl ?_
 refine nN ?_
 refine sq ?_
 refine sq ?_
 refine rg ?_
 refine q trivial rfl rfl (mv (v := I (z - ((xs.length : Nat) : Int))) rfl) ?_
 refine q trivial rfl rfl (lss (k := .i64) (a := z - ((xs.length : Nat) : Int)) (b := 0) rfl rfl) ?_
 refine nl ?_
 refine nN ?_
 refine cdd (p := (z - ((xs.length : Nat) : Int)) < 0) rfl (fun h1 => ?_) (fun h1 => ?_)
 · refine sq ?_
   refine rg ?_
   refine q trivial rfl rfl (asg (v := I (-1)) rfl) ?_
   refine nl ?_
   refine nN ?_
   refine rt (tR ?_)
   refine fret (v := I (-1)) (.tmp .nil) rfl ?_
   exact ⟨(-1), rfl, (by first | assumption | omega | (simp; omega)), (by first | assumption | omega | (simp; omega)), hs0⟩
 · refine sk ?_
   refine nN ?_
   refine sq ?_
   refine sq ?_
   refine rg ?_
   refine q trivial rfl rfl (asg (v := I 0) rfl) ?_
   refine nl ?_
   refine nN ?_
   refine bl ?_
   refine lp (σ := Nat × Int) (fun ⟨k, u⟩ f w' => Has f [(0, .slice Axs xs.length cxs), (1, I u), (5, I ((k : Nat) : Int))] ∧ (k ≤ xs.length) ∧ (0 ≤ u ∧ u ≤ 1099511627776 ∧ u ≤ z) ∧ SH w w' [] []) (fun ⟨k, u⟩ => xs.length - k) (0, z - ((xs.length : Nat) : Int)) ⟨⟨rfl, rfl, rfl, trivial⟩, (by simp), (by omega), hs0⟩ ?_
   rintro ⟨k, u⟩ f w1 ⟨hf, hk, hu, hs1⟩
   obtain ⟨g1, rfl⟩ := has_upd hf
   clear hf
   refine sq ?_
   refine sq ?_
   refine rg ?_
   refine q trivial rfl rfl (mv (v := I ((k : Nat) : Int)) rfl) ?_
   refine q trivial rfl rfl (mv (v := .slice Axs xs.length cxs) rfl) ?_
   refine q trivial rfl rfl (lnA (n := xs.length) sl22 rfl) ?_
   refine q trivial rfl rfl (lss (k := .i64) (a := ((k : Nat) : Int)) (b := ((xs.length : Nat) : Int)) rfl rfl) ?_
   refine nl ?_
   refine nN ?_
   refine cdd (p := ((k : Nat) : Int) < ((xs.length : Nat) : Int)) rfl (fun h2 => ?_) (fun h2 => ?_)
   · refine sk ?_
     refine nN ?_
     refine sq ?_
     refine bl ?_
     refine sq ?_
     refine rg ?_
     refine q trivial rfl rfl (mv (v := .slice Axs xs.length cxs) rfl) ?_
     refine q trivial rfl rfl (mv (v := I ((k : Nat) : Int)) rfl) ?_
     refine ixwf (g := gRule) (zs := xs) (fun _ => rfl) rule0 k sl22 rfl rfl hxs (by first | (first | omega | (simp; done) | (simp; omega)) | (have hre := hxs_e _ (getD_mem' (d := rule0) (show k < xs.length by omega)); first | omega | (simp; done) | (simp; omega))) (by first | (first | omega | (simp; done) | (simp; omega)) | (have hre := hxs_e _ (getD_mem' (d := rule0) (show k < xs.length by omega)); first | omega | (simp; done) | (simp; omega))) trivial rfl (fun a1 ha1 => ?_)
     refine q trivial rfl rfl (ldag (us := [Str ((xs.getD k rule0).1), I ((xs.getD k rule0).2.1), .bool ((xs.getD k rule0).2.2)]) hs1 ha1 (fun _ h => h) rfl rfl ag47) ?_
     refine q trivial rfl rfl (mv (v := I u) rfl) ?_
     refine cl trivial rfl (szRule (l := (xs.getD k rule0).1) (n := (xs.getD k rule0).2.1) (b := ((xs.getD k rule0).2.2)) (z := u) (w := _) (hl_n := (by first | (first | omega | (simp; done) | (simp; omega)) | (have hre := hxs_e _ (getD_mem' (d := rule0) (show k < xs.length by omega)); first | omega | (simp; done) | (simp; omega)))) (hz := (by first | (first | omega | assumption | (simp; done) | (simp; omega)) | (have hre := hxs_e _ (getD_mem' (d := rule0) (show k < xs.length by omega)); first | omega | assumption | (simp; done) | (simp; omega))))) ?_
     rintro _ w2 ⟨rfl, hs2'⟩
     have hs2 : SH w w2 [] [] := hs1.call0 hs2'
     clear hs2'
     refine q trivial rfl rfl (asg (v := I (szI ((xs.getD k rule0).1).length u)) rfl) ?_
     refine nl ?_
     refine nN ?_
     refine sq ?_
     refine rg ?_
     refine q trivial rfl rfl (mv (v := I (szI ((xs.getD k rule0).1).length u)) rfl) ?_
     refine q trivial rfl rfl (lss (k := .i64) (a := szI ((xs.getD k rule0).1).length u) (b := 0) rfl rfl) ?_
     refine nl ?_
     refine nN ?_
     refine cdd (p := (szI ((xs.getD k rule0).1).length u) < 0) rfl (fun h3 => ?_) (fun h3 => ?_)
     · refine sq ?_
       refine rg ?_
       refine q trivial rfl rfl (asg (v := I (-1)) rfl) ?_
       refine nl ?_
       refine nN ?_
       refine rt (bR (tR (tR (bR (tR ?_)))))
       refine fret (v := I (-1)) (.tmp .nil) rfl ?_
       exact ⟨(-1), rfl, (by first | assumption | omega | (simp; omega)), (by first | assumption | omega | (simp; omega)), hs2⟩
     · refine sk ?_
       refine bN ?_
       refine nN ?_
       refine rg ?_
       refine q trivial rfl rfl (mv (v := I ((k : Nat) : Int)) rfl) ?_
       refine q trivial rfl rfl (add (a := ((k : Nat) : Int)) (b := 1) rfl rfl (by first | (exact ⟨by omega, by omega⟩) | (have hre := hxs_e _ (getD_mem' (d := rule0) (show k < xs.length by omega)); exact ⟨by omega, by omega⟩))) ?_
       refine q trivial rfl rfl (asg (v := I (((k : Nat) : Int) + 1)) rfl) ?_
       refine nl ?_
       refine nN ?_
       refine ⟨(k + 1, szI (xs.getD k rule0).1.length u), ⟨⟨rfl, rfl, rfl, trivial⟩, (by omega), (by have := szI_bd (n := (xs.getD k rule0).1.length) (z := u) (by omega); omega), hs2⟩, ?_⟩
       show xs.length - (k + 1) < xs.length - k
       omega
   · refine ex (tE (tE (bE ?_)))
     refine nN ?_
     refine sq ?_
     refine rg ?_
     refine q trivial rfl rfl (mv (v := I u) rfl) ?_
     refine q trivial rfl rfl (asg (v := I u) rfl) ?_
     refine nl ?_
     refine nN ?_
     refine rt ?_
     refine fret (v := I u) (.tmp .nil) rfl ?_
     exact ⟨u, rfl, (by first | assumption | omega | (simp; omega)), (by first | assumption | omega | (simp; omega)), hs1⟩

theorem szIntS {Axs : Option Addr} {cxs : Nat} (xs : List Int) (z : Int) (w : World) (hxs : Sl w [] 1 Axs xs.length cxs (xs.map I)) (hz : 0 ≤ z ∧ z ≤ 1099511627776) : Does Tryz.prog 33 [.slice Axs xs.length cxs, I z] w (fun v w' => v = .int .i64 (szI xs.length z) ∧ SH w w' [] []) := by
 refine fn_enter (N := 12) Tryz.func33 rfl (by kernel_rfl) rfl rfl rfl ?_
 have hs0 : SH w w [] [] := SH.refl w []
 have hxs_m : xs.length ≤ 9223372036854775807 := Nat.le_trans hxs.cap hxs.capMax
 refine sq ?_
 refine rg ?_
 refine q trivial rfl rfl (asg (v := I 0) rfl) ?_
 refine nl ?_
 refine nN ?_
 refine sq ?_
 refine rg ?_
 refine q trivial rfl rfl (mv (v := I z) rfl) ?_
 refine q trivial rfl rfl (mv (v := .slice Axs xs.length cxs) rfl) ?_
 refine q trivial rfl rfl (lnA (n := xs.length) sl23 rfl) ?_
 refine q trivial rfl rfl (sub (a := z) (b := ((xs.length : Nat) : Int)) rfl rfl (by exact ⟨by omega, by omega⟩)) ?_
 refine q trivial rfl rfl (asg (v := I (z - ((xs.length : Nat) : Int))) rfl) ?_
 refine nl ?_
 refine nN ?_
 refine sq ?_
 refine sq ?_
 refine rg ?_
 refine q trivial rfl rfl (mv (v := I (z - ((xs.length : Nat) : Int))) rfl) ?_
 refine q trivial rfl rfl (lss (k := .i64) (a := z - ((xs.length : Nat) : Int)) (b := 0) rfl rfl) ?_
 refine nl ?_
 refine nN ?_
 refine cdd (p := (z - ((xs.length : Nat) : Int)) < 0) rfl (fun h1 => ?_) (fun h1 => ?_)
 · refine sq ?_
   refine rg ?_
   refine q trivial rfl rfl (asg (v := I (-1)) rfl) ?_
   refine nl ?_
   refine nN ?_
   refine rt (tR ?_)
   refine fret (v := I (-1)) (.tmp .nil) rfl ?_
   have e1 : (-1) = szI xs.length z := by simp [szI] <;> omega
   exact ⟨(congrArg (Value.int .i64) e1), hs0⟩
 · refine sk ?_
   refine nN ?_
   refine sq ?_
   refine rg ?_
   refine q trivial rfl rfl (mv (v := I (z - ((xs.length : Nat) : Int))) rfl) ?_
   refine q trivial rfl rfl (asg (v := I (z - ((xs.length : Nat) : Int))) rfl) ?_
   refine nl ?_
   refine nN ?_
   refine rt ?_
   refine fret (v := I (z - ((xs.length : Nat) : Int))) (.tmp .nil) rfl ?_
   have e2 : z - ((xs.length : Nat) : Int) = szI xs.length z := by simp [szI] <;> omega
   exact ⟨(congrArg (Value.int .i64) e2), hs0⟩

theorem slIndexS (l : List UInt8) (c : UInt8) (w : World)  : Does Tryz.prog 92 [Str l, Str [c]] w (fun v w' => v = .int .i64 (idxB l c) ∧ SH w w' [] []) := by
 refine fn_enter (N := 143) Tryz.func92 rfl (by kernel_rfl) rfl rfl rfl ?_
 have hs0 : SH w w [] [] := SH.refl w []
 refine sq ?_
 refine rg ?_
 refine q trivial rfl rfl (asg (v := I 0) rfl) ?_
 refine nl ?_
 refine nN ?_
 refine sq ?_
 refine rg ?_
 refine q trivial rfl rfl (mv (v := Str [c]) rfl) ?_
 refine q trivial rfl rfl (lnS (l := [c]) st9 rfl) ?_
 refine q trivial rfl rfl (asg (v := I (([c].length : Nat) : Int)) rfl) ?_
 refine nl ?_
 refine nN ?_
 refine sq ?_
 refine bl ?_
 refine sq ?_
 refine rg ?_
 refine q trivial rfl rfl (mv (v := I (([c].length : Nat) : Int)) rfl) ?_
 refine q trivial rfl rfl (eqi (k := .i64) (a := (([c].length : Nat) : Int)) (b := 0) rfl rfl) ?_
 refine q trivial rfl rfl (mv (v := .bool (decide ((([c].length : Nat) : Int) = 0))) rfl) ?_
 refine spd (p := (([c].length : Nat) : Int) = 0) 19 rfl (fun h1 => absurd h1 (by simp)) (fun h1 => ?_)
 refine q ⟨_, rfl, rfl⟩ rfl rfl (mv (v := Str [c]) rfl) ?_
 refine q ⟨_, rfl, rfl⟩ rfl rfl (mv (v := Str l) rfl) ?_
 refine q ⟨_, rfl, rfl⟩ rfl rfl (eqs (l := [c]) (m := l) rfl rfl) ?_
 refine q trivial rfl rfl (pf (v := .bool (decide ([c] = l))) rfl rfl) ?_
 refine q trivial rfl rfl (asg (v := .bool (decide ([c] = l))) rfl) ?_
 refine nl ?_
 refine nN ?_
 refine cdd (p := [c] = l) rfl (fun h2 => ?_) (fun h2 => ?_)
 · refine sq ?_
   refine rg ?_
   refine q trivial rfl rfl (asg (v := I 0) rfl) ?_
   refine nl ?_
   refine nN ?_
   refine rt (bR (tR ?_))
   refine fret (v := I 0) (.tmp .nil) rfl ?_
   have e1 : 0 = idxB l c := by subst h2; exact (idxB_self c).symm
   exact ⟨(congrArg (Value.int .i64) e1), hs0⟩
 · refine sq ?_
   refine rg ?_
   refine q trivial rfl rfl (mv (v := I (([c].length : Nat) : Int)) rfl) ?_
   refine q trivial rfl rfl (eqi (k := .i64) (a := (([c].length : Nat) : Int)) (b := 1) rfl rfl) ?_
   refine q trivial rfl rfl (asg (v := .bool (decide ((([c].length : Nat) : Int) = 1))) rfl) ?_
   refine nl ?_
   refine nN ?_
   refine cdd (p := (([c].length : Nat) : Int) = 1) rfl (fun h3 => ?_) (fun h3 => absurd (by rfl) h3)
   refine sq ?_
   refine rg ?_
   refine q trivial rfl rfl (mv (v := Str l) rfl) ?_
   refine q trivial rfl rfl (mv (v := Str [c]) rfl) ?_
   refine q trivial rfl rfl (ixs (l := [c]) 0 st9 rfl rfl (by first | omega | (simp; done) | (simp; omega))) ?_
   refine cl trivial rfl (slIndexByte (l := l) (c := ([c].getD 0 0)) (w := _)) ?_
   rintro _ w1 ⟨rfl, hs1'⟩
   have hs1 : SH w w1 [] [] := hs0.call0 hs1'
   clear hs1'
   refine q trivial rfl rfl (asg (v := I (idxB l ([c].getD 0 0))) rfl) ?_
   refine nl ?_
   refine nN ?_
   refine rt (bR (tR ?_))
   refine fret (v := I (idxB l ([c].getD 0 0))) (.tmp .nil) rfl ?_
   have e2 : idxB l ([c].getD 0 0) = idxB l c := by rfl
   exact ⟨(congrArg (Value.int .i64) e2), hs1⟩

theorem stIndex (l : List UInt8) (c : UInt8) (w : World)  : Does Tryz.prog 85 [Str l, Str [c]] w (fun v w' => v = .int .i64 (idxB l c) ∧ SH w w' [] []) := by
 refine fn_enter (N := 8) Tryz.func85 rfl (by kernel_rfl) rfl rfl rfl ?_
 have hs0 : SH w w [] [] := SH.refl w []
 refine sq ?_
 refine rg ?_
 refine q trivial rfl rfl (asg (v := I 0) rfl) ?_
 refine nl ?_
 refine nN ?_
 refine sq ?_
 refine rg ?_
 refine q trivial rfl rfl (mv (v := Str l) rfl) ?_
 refine q trivial rfl rfl (mv (v := Str [c]) rfl) ?_
 refine cl trivial rfl (slIndexS (l := l) (c := c) (w := _)) ?_
 rintro _ w1 ⟨rfl, hs1'⟩
 have hs1 : SH w w1 [] [] := hs0.call0 hs1'
 clear hs1'
 refine q trivial rfl rfl (asg (v := I (idxB l c)) rfl) ?_
 refine nl ?_
 refine nN ?_
 refine rt ?_
 refine fret (v := I (idxB l c)) (.tmp .nil) rfl ?_
 exact ⟨rfl, hs1⟩

theorem stCount (l : List UInt8) (c : UInt8) (w : World)  : Does Tryz.prog 84 [Str l, Str [c]] w (fun v w' => v = .int .i64 ((l.count c : Nat) : Int) ∧ SH w w' [] []) := by
 refine fn_enter (N := 34) Tryz.func84 rfl (by kernel_rfl) rfl rfl rfl ?_
 have hs0 : SH w w [] [] := SH.refl w []
 refine sq ?_
 refine rg ?_
 refine q trivial rfl rfl (asg (v := I 0) rfl) ?_
 refine nl ?_
 refine nN ?_
 refine sq ?_
 refine sq ?_
 refine rg ?_
 refine q trivial rfl rfl (mv (v := Str [c]) rfl) ?_
 refine q trivial rfl rfl (lnS (l := [c]) st9 rfl) ?_
 refine q trivial rfl rfl (eqi (k := .i64) (a := (([c].length : Nat) : Int)) (b := 0) rfl rfl) ?_
 refine nl ?_
 refine nN ?_
 refine cdd (p := (([c].length : Nat) : Int) = 0) rfl (fun h1 => absurd h1 (by simp)) (fun h1 => ?_)
 refine sk ?_
 refine nN ?_
 refine sq ?_
 refine sq ?_
 refine rg ?_
 refine q trivial rfl rfl (mv (v := Str [c]) rfl) ?_
 refine q trivial rfl rfl (lnS (l := [c]) st9 rfl) ?_
 refine q trivial rfl rfl (eqi (k := .i64) (a := (([c].length : Nat) : Int)) (b := 1) rfl rfl) ?_
 refine nl ?_
 refine nN ?_
 refine cdd (p := (([c].length : Nat) : Int) = 1) rfl (fun h2 => ?_) (fun h2 => absurd (by rfl) h2)
 refine sq ?_
 refine rg ?_
 refine q trivial rfl rfl (mv (v := Str l) rfl) ?_
 refine q trivial rfl rfl (mv (v := Str [c]) rfl) ?_
 refine q trivial rfl rfl (ixs (l := [c]) 0 st9 rfl rfl (by first | omega | (simp; done) | (simp; omega))) ?_
 refine q trivial rfl rfl (csc (l := l) (c := ([c].getD 0 0)) Tryz.func91 (by kernel_rfl) rfl (by kernel_rfl) (by kernel_rfl) rfl rfl) ?_
 refine q trivial rfl rfl (asg (v := I ((l.count ([c].getD 0 0) : Nat) : Int)) rfl) ?_
 refine nl ?_
 refine nN ?_
 refine rt (tR ?_)
 refine fret (v := I ((l.count ([c].getD 0 0) : Nat) : Int)) (.tmp .nil) rfl ?_
 have e1 : ((l.count ([c].getD 0 0) : Nat) : Int) = ((l.count c : Nat) : Int) := by first | rfl | (simp; done) | (simp_all; done) | omega
 exact ⟨(congrArg (Value.int .i64) e1), hs0⟩

theorem genSplit (l : List UInt8) (c : UInt8) (w : World) (hl_n : l.length ≤ 1099511627776) : Does Tryz.prog 77 [Str l, Str [c], I 0, I (-1)] w (fun v w' => ∃ Ar : Option Addr, ∃ cr : Nat, v = .slice Ar (splitB c l).length cr ∧ SH w w' [] [.own Ar ((splitB c l).length) cr 9 1 ((splitB c l).map Str)]) := by
 refine fn_enter (N := 66) Tryz.func77 rfl (by kernel_rfl) rfl rfl rfl ?_
 have hs0 : SH w w [] [] := SH.refl w []
 refine sq ?_
 refine rg ?_
 refine q trivial rfl rfl (asg (v := ns) rfl) ?_
 refine nl ?_
 refine nN ?_
 refine sq ?_
 refine sq ?_
 refine rg ?_
 refine q trivial rfl rfl (mv (v := I (-1)) rfl) ?_
 refine q trivial rfl rfl (eqi (k := .i64) (a := (-1)) (b := 0) rfl rfl) ?_
 refine nl ?_
 refine nN ?_
 refine cdd (p := ((-1) : Int) = 0) rfl (fun h1 => absurd h1 (by decide)) (fun h1 => ?_)
 refine sk ?_
 refine nN ?_
 refine sq ?_
 refine sq ?_
 refine rg ?_
 refine q trivial rfl rfl (mv (v := Str [c]) rfl) ?_
 refine q trivial rfl rfl (eqs (l := [c]) (m := []) rfl rfl) ?_
 refine nl ?_
 refine nN ?_
 refine cdd (p := [c] = []) rfl (fun h2 => absurd h2 (by simp)) (fun h2 => ?_)
 refine sk ?_
 refine nN ?_
 refine sq ?_
 refine sq ?_
 refine rg ?_
 refine q trivial rfl rfl (mv (v := I (-1)) rfl) ?_
 refine q trivial rfl rfl (lss (k := .i64) (a := (-1)) (b := 0) rfl rfl) ?_
 refine nl ?_
 refine nN ?_
 refine cdd (p := (-1) < 0) rfl (fun h3 => ?_) (fun h3 => absurd (by decide) h3)
 refine rg ?_
 refine q trivial rfl rfl (mv (v := Str l) rfl) ?_
 refine q trivial rfl rfl (mv (v := Str [c]) rfl) ?_
 refine cl trivial rfl (stCount (l := l) (c := c) (w := _)) ?_
 rintro _ w1 ⟨rfl, hs1'⟩
 have hs1 : SH w w1 [] [] := hs0.call0 hs1'
 clear hs1'
 refine q trivial rfl rfl (add (a := ((l.count c : Nat) : Int)) (b := 1) rfl rfl (by first | (exact ⟨by omega, by omega⟩) | (have hsl := splitB_len c l; have hcl := List.count_le_length (a := c) (l := l); exact ⟨by omega, by omega⟩) | (have hsl := splitB_len c l; have hcl := List.count_le_length (a := c) (l := l); have hib := idxB_lt s c; (try have e1 : [c].length = 1 := rfl); exact ⟨by omega, by omega⟩))) ?_
 refine q trivial rfl rfl (asg (v := I (((l.count c : Nat) : Int) + 1)) rfl) ?_
 refine nl ?_
 refine nN ?_
 refine sq ?_
 refine rg ?_
 refine q trivial rfl rfl (mv (v := I (((l.count c : Nat) : Int) + 1)) rfl) ?_
 refine q trivial rfl rfl (mv (v := Str l) rfl) ?_
 refine q trivial rfl rfl (lnS (l := l) st9 rfl) ?_
 refine q trivial rfl rfl (add (a := ((l.length : Nat) : Int)) (b := 1) rfl rfl (by first | (exact ⟨by omega, by omega⟩) | (have hsl := splitB_len c l; have hcl := List.count_le_length (a := c) (l := l); exact ⟨by omega, by omega⟩) | (have hsl := splitB_len c l; have hcl := List.count_le_length (a := c) (l := l); have hib := idxB_lt s c; (try have e1 : [c].length = 1 := rfl); exact ⟨by omega, by omega⟩))) ?_
 refine q trivial rfl rfl (mnI (a := ((l.count c : Nat) : Int) + 1) (b := ((l.length : Nat) : Int) + 1) rfl rfl) ?_
 refine q trivial rfl rfl (asg (v := I (min (((l.count c : Nat) : Int) + 1) (((l.length : Nat) : Int) + 1))) rfl) ?_
 refine nl ?_
 refine nN ?_
 refine sq ?_
 refine rg ?_
 refine q trivial rfl rfl (mv (v := I (min (((l.count c : Nat) : Int) + 1) (((l.length : Nat) : Int) + 1))) rfl) ?_
 refine mkm (g := Str) (z := []) (n := (min (((l.count c : Nat) : Int) + 1) (((l.length : Nat) : Int) + 1)).toNat) hs1 sl81 rfl (ieq (x := min (((l.count c : Nat) : Int) + 1) (((l.length : Nat) : Int) + 1)) (by first | (omega) | (have hsl := splitB_len c l; have hcl := List.count_le_length (a := c) (l := l); omega) | (have hsl := splitB_len c l; have hcl := List.count_le_length (a := c) (l := l); have hib := idxB_lt s c; (try have e1 : [c].length = 1 := rfl); omega))) (ieq (x := min (((l.count c : Nat) : Int) + 1) (((l.length : Nat) : Int) + 1)) (by first | (omega) | (have hsl := splitB_len c l; have hcl := List.count_le_length (a := c) (l := l); omega) | (have hsl := splitB_len c l; have hcl := List.count_le_length (a := c) (l := l); have hib := idxB_lt s c; (try have e1 : [c].length = 1 := rfl); omega))) (by first | (omega) | (have hsl := splitB_len c l; have hcl := List.count_le_length (a := c) (l := l); omega)) (by unfold maxLen; first | (omega) | (have hsl := splitB_len c l; have hcl := List.count_le_length (a := c) (l := l); omega)) trivial rfl (fun b1 w2 (hs2 : SH w w2 [] [.own (some ⟨b1, 0, none⟩) ((List.replicate ((min (((l.count c : Nat) : Int) + 1) (((l.length : Nat) : Int) + 1)).toNat) ([] : List UInt8)).length) ((min (((l.count c : Nat) : Int) + 1) (((l.length : Nat) : Int) + 1)).toNat) 9 1 ((List.replicate ((min (((l.count c : Nat) : Int) + 1) (((l.length : Nat) : Int) + 1)).toNat) ([] : List UInt8)).map Str)]) => ?_)
 refine q trivial rfl rfl (asg (v := sb b1 ((List.replicate ((min (((l.count c : Nat) : Int) + 1) (((l.length : Nat) : Int) + 1)).toNat) ([] : List UInt8)).length) ((min (((l.count c : Nat) : Int) + 1) (((l.length : Nat) : Int) + 1)).toNat)) rfl) ?_
 refine nl ?_
 refine nN ?_
 refine sq ?_
 refine rg ?_
 refine q trivial rfl rfl (mv (v := I (min (((l.count c : Nat) : Int) + 1) (((l.length : Nat) : Int) + 1))) rfl) ?_
 refine q trivial rfl rfl (sub (a := min (((l.count c : Nat) : Int) + 1) (((l.length : Nat) : Int) + 1)) (b := 1) rfl rfl (by first | (exact ⟨by omega, by omega⟩) | (have hsl := splitB_len c l; have hcl := List.count_le_length (a := c) (l := l); exact ⟨by omega, by omega⟩))) ?_
 refine q trivial rfl rfl (asg (v := I ((min (((l.count c : Nat) : Int) + 1) (((l.length : Nat) : Int) + 1)) - 1)) rfl) ?_
 refine nl ?_
 refine nN ?_
 refine sq ?_
 refine rg ?_
 refine q trivial rfl rfl (asg (v := I 0) rfl) ?_
 refine nl ?_
 refine nN ?_
 refine sq ?_
 refine bl ?_
 have e1 : List.replicate ((min (((l.count c : Nat) : Int) + 1) (((l.length : Nat) : Int) + 1)).toNat) ([] : List UInt8) = (splitB c l).take 0 ++ List.replicate ((splitB c l).length - 0) ([] : List UInt8) := by have hsl := splitB_len c l; have hcl := List.count_le_length (a := c) (l := l); rw [show (min (((l.count c : Nat) : Int) + 1) (((l.length : Nat) : Int) + 1)).toNat = (splitB c l).length by omega]; simp
 have e2 : (List.replicate ((min (((l.count c : Nat) : Int) + 1) (((l.length : Nat) : Int) + 1)).toNat) ([] : List UInt8)).length = (splitB c l).length := by first | (first | rfl | (simp; done) | (simp; omega) | omega) | (have hsl := splitB_len c l; have hcl := List.count_le_length (a := c) (l := l); first | rfl | (simp; done) | (simp; omega) | omega)
 refine lp (σ := (Option Addr) × Nat × Nat × (List UInt8)) (fun ⟨Ag9, cg9, k, s⟩ f w' => Has f [(0, Str s), (1, Str [c]), (2, I 0), (3, I ((l.count c : Nat) : Int)), (9, .slice Ag9 ((splitB c l).length) cg9), (10, I ((k : Nat) : Int))] ∧ (k < (splitB c l).length) ∧ (splitB c s = (splitB c l).drop k) ∧ (s.length ≤ l.length) ∧ SH w w' [] [.own Ag9 ((splitB c l).length) cg9 9 1 (((splitB c l).take k ++ List.replicate ((splitB c l).length - k) ([] : List UInt8)).map Str)]) (fun ⟨Ag9, cg9, k, s⟩ => l.length + 1 - k) ((some ⟨b1, 0, none⟩), (min (((l.count c : Nat) : Int) + 1) (((l.length : Nat) : Int) + 1)).toNat, 0, l) ⟨⟨rfl, rfl, rfl, (show (I ((min (((l.count c : Nat) : Int) + 1) (((l.length : Nat) : Int) + 1)) - 1) : Value) = I ((l.count c : Nat) : Int) from congrArg (Value.int .i64) (by have hsl := splitB_len c l; have hcl := List.count_le_length (a := c) (l := l); omega)), (show (.slice (some ⟨b1, 0, none⟩) ((List.replicate ((min (((l.count c : Nat) : Int) + 1) (((l.length : Nat) : Int) + 1)).toNat) ([] : List UInt8)).length) ((min (((l.count c : Nat) : Int) + 1) (((l.length : Nat) : Int) + 1)).toNat) : Value) = .slice (some ⟨b1, 0, none⟩) ((splitB c l).length) ((min (((l.count c : Nat) : Int) + 1) (((l.length : Nat) : Int) + 1)).toNat) from slv rfl e2 rfl), rfl, trivial⟩, (by have hsl := splitB_len c l; have hcl := List.count_le_length (a := c) (l := l); omega), (by simp), (Nat.le_refl _), (hs2.cast (lc (own_eq (g := Str) rfl e2 rfl e1) rfl))⟩ ?_
 rintro ⟨Ag9, cg9, k, s⟩ f w3 ⟨hf, hk, hs_, hsn, hs3⟩
 obtain ⟨g1, rfl⟩ := has_upd hf
 clear hf
 refine sq ?_
 refine sq ?_
 refine rg ?_
 refine q trivial rfl rfl (mv (v := I ((k : Nat) : Int)) rfl) ?_
 refine q trivial rfl rfl (mv (v := I ((l.count c : Nat) : Int)) rfl) ?_
 refine q trivial rfl rfl (lss (k := .i64) (a := ((k : Nat) : Int)) (b := ((l.count c : Nat) : Int)) rfl rfl) ?_
 refine nl ?_
 refine nN ?_
 refine cdd (p := ((k : Nat) : Int) < ((l.count c : Nat) : Int)) rfl (fun h4 => ?_) (fun h4 => ?_)
 · refine sk ?_
   refine nN ?_
   refine bl ?_
   refine sq ?_
   refine rg ?_
   refine q trivial rfl rfl (mv (v := Str s) rfl) ?_
   refine q trivial rfl rfl (mv (v := Str [c]) rfl) ?_
   refine cl trivial rfl (stIndex (l := s) (c := c) (w := _)) ?_
   rintro _ w4 ⟨rfl, hs4'⟩
   have hs4 : SH w w4 [] [.own Ag9 ((splitB c l).length) cg9 9 1 (((splitB c l).take k ++ List.replicate ((splitB c l).length - k) ([] : List UInt8)).map Str)] := hs3.call0 hs4'
   clear hs4'
   refine q trivial rfl rfl (asg (v := I (idxB s c)) rfl) ?_
   refine nl ?_
   refine nN ?_
   refine sq ?_
   refine sq ?_
   refine rg ?_
   refine q trivial rfl rfl (mv (v := I (idxB s c)) rfl) ?_
   refine q trivial rfl rfl (lss (k := .i64) (a := idxB s c) (b := 0) rfl rfl) ?_
   refine nl ?_
   refine nN ?_
   refine cdd (p := (idxB s c) < 0) rfl (fun h5 => ?_) (fun h5 => ?_)
   · refine ex (tE (bX rfl (tE (bE ?_))))
     refine nN ?_
     refine sq ?_
     refine rg ?_
     refine q trivial rfl rfl (mv (v := .slice Ag9 ((splitB c l).length) cg9) rfl) ?_
     refine q trivial rfl rfl (mv (v := I ((k : Nat) : Int)) rfl) ?_
     refine q trivial rfl rfl (mv (v := Str s) rfl) ?_
     obtain ⟨b2, rfl⟩ := own_form hs4 0 rfl (by first | (first | omega | (simp; done) | (simp; omega)) | (have hsl := splitB_len c l; have hcl := List.count_le_length (a := c) (l := l); first | omega | (simp; done) | (simp; omega)))
     refine q trivial rfl rfl (ixo k sl81 rfl rfl (by first | (first | omega | (simp; done) | (simp; omega)) | (have hsl := splitB_len c l; have hcl := List.count_le_length (a := c) (l := l); first | omega | (simp; done) | (simp; omega)))) ?_
     refine stomn (g := Str) (ys := (splitB c l).take k ++ List.replicate ((splitB c l).length - k) ([] : List UInt8)) (o := k) (u := s) hs4 0 rfl rfl rfl rfl (by first | (first | omega | (simp; done) | (simp; omega)) | (have hsl := splitB_len c l; have hcl := List.count_le_length (a := c) (l := l); first | omega | (simp; done) | (simp; omega))) rfl one9 trivial (fun w5 (hs5 : SH w w5 [] [.own (some ⟨b2, 0, none⟩) ((splitB c l).length) cg9 9 1 ((((splitB c l).take k ++ List.replicate ((splitB c l).length - k) ([] : List UInt8)).set k s).map Str)]) => ?_)
     refine nl ?_
     refine nN ?_
     refine sq ?_
     refine rg ?_
     refine q trivial rfl rfl (mv (v := sb b2 ((splitB c l).length) cg9) rfl) ?_
     refine q trivial rfl rfl (mv (v := I ((k : Nat) : Int)) rfl) ?_
     refine q trivial rfl rfl (add (a := ((k : Nat) : Int)) (b := 1) rfl rfl (by first | (exact ⟨by omega, by omega⟩) | (have hsl := splitB_len c l; have hcl := List.count_le_length (a := c) (l := l); exact ⟨by omega, by omega⟩) | (have hsl := splitB_len c l; have hcl := List.count_le_length (a := c) (l := l); have hib := idxB_lt s c; (try have e1 : [c].length = 1 := rfl); exact ⟨by omega, by omega⟩))) ?_
     have e3 : ((((splitB c l).take k ++ List.replicate ((splitB c l).length - k) ([] : List UInt8)).set k s).map Str).take ((k + 1) * 1) = ((((splitB c l).take k ++ List.replicate ((splitB c l).length - k) ([] : List UInt8)).set k s).take (k + 1)).map Str := by first | rfl | simp [List.map_take]
     have hs6 : SH w w5 [] [.own (some ⟨b2, 0, none⟩) (k + 1) cg9 9 1 (((((splitB c l).take k ++ List.replicate ((splitB c l).length - k) ([] : List UInt8)).set k s).take (k + 1)).map Str)] := e3 ▸ SH.trunc hs5 0 (k + 1) rfl (by first | (first | omega | (simp; omega)) | (have hsl := splitB_len c l; have hcl := List.count_le_length (a := c) (l := l); first | omega | (simp; omega)) | (have hsl := splitB_len c l; have hcl := List.count_le_length (a := c) (l := l); have hib := idxB_lt s c; (try have e1 : [c].length = 1 := rfl); first | omega | (simp; omega)))
     refine q trivial rfl rfl (cuh (k + 1) sl81 rfl rfl (Nat.le_trans (by first | (first | omega | (simp; omega)) | (have hsl := splitB_len c l; have hcl := List.count_le_length (a := c) (l := l); first | omega | (simp; omega)) | (have hsl := splitB_len c l; have hcl := List.count_le_length (a := c) (l := l); have hib := idxB_lt s c; (try have e1 : [c].length = 1 := rfl); first | omega | (simp; omega))) (own_cap hs5 0 rfl).1)) ?_
     refine q trivial rfl rfl (asg (v := sb b2 (k + 1) cg9) rfl) ?_
     have e4 : k + 1 = ((((splitB c l).take k ++ List.replicate ((splitB c l).length - k) ([] : List UInt8)).set k s).take (k + 1)).length := by first | (first | rfl | (simp; done) | (simp; omega) | (simp at *; omega)) | (have hsl := splitB_len c l; have hcl := List.count_le_length (a := c) (l := l); first | rfl | (simp; done) | (simp; omega) | (simp at *; omega))
     have hs7 : SH w w5 [] [.own (some ⟨b2, 0, none⟩) (((((splitB c l).take k ++ List.replicate ((splitB c l).length - k) ([] : List UInt8)).set k s).take (k + 1)).length) cg9 9 1 (((((splitB c l).take k ++ List.replicate ((splitB c l).length - k) ([] : List UInt8)).set k s).take (k + 1)).map Str)] := (hs6.cast (lc (own_eq (g := Str) rfl e4 rfl rfl) rfl))
     refine re 8 (v := sb b2 (((((splitB c l).take k ++ List.replicate ((splitB c l).length - k) ([] : List UInt8)).set k s).take (k + 1)).length) cg9) (show (sb b2 (k + 1) cg9 : Value) = sb b2 (((((splitB c l).take k ++ List.replicate ((splitB c l).length - k) ([] : List UInt8)).set k s).take (k + 1)).length) cg9 from slv rfl e4 rfl) ?_
     refine nl ?_
     refine nN ?_
     refine rt ?_
     refine fret (v := sb b2 (((((splitB c l).take k ++ List.replicate ((splitB c l).length - k) ([] : List UInt8)).set k s).take (k + 1)).length) cg9) (.tmp .nil) rfl ?_
     have e5 : (((splitB c l).take k ++ List.replicate ((splitB c l).length - k) ([] : List UInt8)).set k s).take (k + 1) = splitB c l := by exact split_end (split_stop hs_ (by omega))
     have e6 : ((((splitB c l).take k ++ List.replicate ((splitB c l).length - k) ([] : List UInt8)).set k s).take (k + 1)).length = (splitB c l).length := by exact congrArg List.length e5
     exact ⟨(some ⟨b2, 0, none⟩), cg9, (slv rfl e6 rfl), (hs7.cast (lc (own_eq (g := Str) rfl e6 rfl e5) rfl))⟩
   · refine sk ?_
     refine nN ?_
     refine sq ?_
     refine rg ?_
     refine q trivial rfl rfl (mv (v := .slice Ag9 ((splitB c l).length) cg9) rfl) ?_
     refine q trivial rfl rfl (mv (v := I ((k : Nat) : Int)) rfl) ?_
     refine q trivial rfl rfl (mv (v := Str s) rfl) ?_
     refine q trivial rfl rfl (mv (v := I (idxB s c)) rfl) ?_
     refine q trivial rfl rfl (mv (v := I 0) rfl) ?_
     refine q trivial rfl rfl (add (a := idxB s c) (b := 0) rfl rfl (by first | (exact ⟨by omega, by omega⟩) | (have hsl := splitB_len c l; have hcl := List.count_le_length (a := c) (l := l); exact ⟨by omega, by omega⟩) | (have hsl := splitB_len c l; have hcl := List.count_le_length (a := c) (l := l); have hib := idxB_lt s c; (try have e1 : [c].length = 1 := rfl); exact ⟨by omega, by omega⟩))) ?_
     refine q trivial rfl rfl (cuhs (l := s) (((idxB s c) + 0).toNat) st9 rfl (ieq (x := (idxB s c) + 0) (by first | (omega) | (have hsl := splitB_len c l; have hcl := List.count_le_length (a := c) (l := l); omega) | (have hsl := splitB_len c l; have hcl := List.count_le_length (a := c) (l := l); have hib := idxB_lt s c; (try have e1 : [c].length = 1 := rfl); omega))) (by first | (first | omega | (simp; omega)) | (have hsl := splitB_len c l; have hcl := List.count_le_length (a := c) (l := l); first | omega | (simp; omega)) | (have hsl := splitB_len c l; have hcl := List.count_le_length (a := c) (l := l); have hib := idxB_lt s c; (try have e1 : [c].length = 1 := rfl); first | omega | (simp; omega)))) ?_
     obtain ⟨b3, rfl⟩ := own_form hs4 0 rfl (by first | (first | omega | (simp; done) | (simp; omega)) | (have hsl := splitB_len c l; have hcl := List.count_le_length (a := c) (l := l); first | omega | (simp; done) | (simp; omega)))
     refine q trivial rfl rfl (ixo k sl81 rfl rfl (by first | (first | omega | (simp; done) | (simp; omega)) | (have hsl := splitB_len c l; have hcl := List.count_le_length (a := c) (l := l); first | omega | (simp; done) | (simp; omega)))) ?_
     refine stomn (g := Str) (ys := (splitB c l).take k ++ List.replicate ((splitB c l).length - k) ([] : List UInt8)) (o := k) (u := s.take (((idxB s c) + 0).toNat)) hs4 0 rfl rfl rfl rfl (by first | (first | omega | (simp; done) | (simp; omega)) | (have hsl := splitB_len c l; have hcl := List.count_le_length (a := c) (l := l); first | omega | (simp; done) | (simp; omega))) rfl one9 trivial (fun w6 (hs8 : SH w w6 [] [.own (some ⟨b3, 0, none⟩) ((splitB c l).length) cg9 9 1 ((((splitB c l).take k ++ List.replicate ((splitB c l).length - k) ([] : List UInt8)).set k (s.take (((idxB s c) + 0).toNat))).map Str)]) => ?_)
     refine nl ?_
     refine nN ?_
     refine sq ?_
     refine rg ?_
     refine q trivial rfl rfl (mv (v := Str s) rfl) ?_
     refine q trivial rfl rfl (mv (v := I (idxB s c)) rfl) ?_
     refine q trivial rfl rfl (mv (v := Str [c]) rfl) ?_
     refine q trivial rfl rfl (lnS (l := [c]) st9 rfl) ?_
     refine q trivial rfl rfl (add (a := idxB s c) (b := (([c].length : Nat) : Int)) rfl rfl (by first | (exact ⟨by omega, by omega⟩) | (have hsl := splitB_len c l; have hcl := List.count_le_length (a := c) (l := l); exact ⟨by omega, by omega⟩) | (have hsl := splitB_len c l; have hcl := List.count_le_length (a := c) (l := l); have hib := idxB_lt s c; (try have e1 : [c].length = 1 := rfl); exact ⟨by omega, by omega⟩))) ?_
     refine q trivial rfl rfl (culs (l := s) (((idxB s c) + (([c].length : Nat) : Int)).toNat) st9 rfl (ieq (x := (idxB s c) + (([c].length : Nat) : Int)) (by first | (omega) | (have hsl := splitB_len c l; have hcl := List.count_le_length (a := c) (l := l); omega) | (have hsl := splitB_len c l; have hcl := List.count_le_length (a := c) (l := l); have hib := idxB_lt s c; (try have e1 : [c].length = 1 := rfl); omega))) (by first | (first | omega | (simp; omega)) | (have hsl := splitB_len c l; have hcl := List.count_le_length (a := c) (l := l); first | omega | (simp; omega)) | (have hsl := splitB_len c l; have hcl := List.count_le_length (a := c) (l := l); have hib := idxB_lt s c; (try have e1 : [c].length = 1 := rfl); first | omega | (simp; omega)))) ?_
     refine q trivial rfl rfl (asg (v := Str (s.drop (((idxB s c) + (([c].length : Nat) : Int)).toNat))) rfl) ?_
     refine nl ?_
     refine nN ?_
     refine rg ?_
     refine q trivial rfl rfl (mv (v := I ((k : Nat) : Int)) rfl) ?_
     refine q trivial rfl rfl (add (a := ((k : Nat) : Int)) (b := 1) rfl rfl (by first | (exact ⟨by omega, by omega⟩) | (have hsl := splitB_len c l; have hcl := List.count_le_length (a := c) (l := l); exact ⟨by omega, by omega⟩) | (have hsl := splitB_len c l; have hcl := List.count_le_length (a := c) (l := l); have hib := idxB_lt s c; (try have e1 : [c].length = 1 := rfl); exact ⟨by omega, by omega⟩))) ?_
     refine q trivial rfl rfl (asg (v := I (((k : Nat) : Int) + 1)) rfl) ?_
     refine nl ?_
     refine bN ?_
     refine nN ?_
     have e7 : ((splitB c l).take k ++ List.replicate ((splitB c l).length - k) ([] : List UInt8)).set k (s.take (((idxB s c) + 0).toNat)) = (splitB c l).take (k + 1) ++ List.replicate ((splitB c l).length - (k + 1)) ([] : List UInt8) := by exact split_set (split_take hs_ (by omega) (by omega))
     refine ⟨((some ⟨b3, 0, none⟩), cg9, k + 1, (s.drop (((idxB s c) + (([c].length : Nat) : Int)).toNat))), ⟨⟨rfl, rfl, rfl, rfl, rfl, rfl, trivial⟩, (by have h_ := splitB_len c l; omega), (split_next hs_ (by omega) (by simp; omega)), (by simp; omega), (hs8.cast (lc (own_eq (g := Str) rfl rfl rfl e7) rfl))⟩, ?_⟩
     show l.length + 1 - (k + 1) < l.length + 1 - k
     (have hcl := List.count_le_length (a := c) (l := l); omega)
 · refine ex (tE (tE (bE ?_)))
   refine nN ?_
   refine sq ?_
   refine rg ?_
   refine q trivial rfl rfl (mv (v := .slice Ag9 ((splitB c l).length) cg9) rfl) ?_
   refine q trivial rfl rfl (mv (v := I ((k : Nat) : Int)) rfl) ?_
   refine q trivial rfl rfl (mv (v := Str s) rfl) ?_
   obtain ⟨b4, rfl⟩ := own_form hs3 0 rfl (by first | (first | omega | (simp; done) | (simp; omega)) | (have hsl := splitB_len c l; have hcl := List.count_le_length (a := c) (l := l); first | omega | (simp; done) | (simp; omega)))
   refine q trivial rfl rfl (ixo k sl81 rfl rfl (by first | (first | omega | (simp; done) | (simp; omega)) | (have hsl := splitB_len c l; have hcl := List.count_le_length (a := c) (l := l); first | omega | (simp; done) | (simp; omega)))) ?_
   refine stomn (g := Str) (ys := (splitB c l).take k ++ List.replicate ((splitB c l).length - k) ([] : List UInt8)) (o := k) (u := s) hs3 0 rfl rfl rfl rfl (by first | (first | omega | (simp; done) | (simp; omega)) | (have hsl := splitB_len c l; have hcl := List.count_le_length (a := c) (l := l); first | omega | (simp; done) | (simp; omega))) rfl one9 trivial (fun w7 (hs9 : SH w w7 [] [.own (some ⟨b4, 0, none⟩) ((splitB c l).length) cg9 9 1 ((((splitB c l).take k ++ List.replicate ((splitB c l).length - k) ([] : List UInt8)).set k s).map Str)]) => ?_)
   refine nl ?_
   refine nN ?_
   refine sq ?_
   refine rg ?_
   refine q trivial rfl rfl (mv (v := sb b4 ((splitB c l).length) cg9) rfl) ?_
   refine q trivial rfl rfl (mv (v := I ((k : Nat) : Int)) rfl) ?_
   refine q trivial rfl rfl (add (a := ((k : Nat) : Int)) (b := 1) rfl rfl (by first | (exact ⟨by omega, by omega⟩) | (have hsl := splitB_len c l; have hcl := List.count_le_length (a := c) (l := l); exact ⟨by omega, by omega⟩) | (have hsl := splitB_len c l; have hcl := List.count_le_length (a := c) (l := l); have hib := idxB_lt s c; (try have e1 : [c].length = 1 := rfl); exact ⟨by omega, by omega⟩))) ?_
   have e8 : ((((splitB c l).take k ++ List.replicate ((splitB c l).length - k) ([] : List UInt8)).set k s).map Str).take ((k + 1) * 1) = ((((splitB c l).take k ++ List.replicate ((splitB c l).length - k) ([] : List UInt8)).set k s).take (k + 1)).map Str := by first | rfl | simp [List.map_take]
   have hs10 : SH w w7 [] [.own (some ⟨b4, 0, none⟩) (k + 1) cg9 9 1 (((((splitB c l).take k ++ List.replicate ((splitB c l).length - k) ([] : List UInt8)).set k s).take (k + 1)).map Str)] := e8 ▸ SH.trunc hs9 0 (k + 1) rfl (by first | (first | omega | (simp; omega)) | (have hsl := splitB_len c l; have hcl := List.count_le_length (a := c) (l := l); first | omega | (simp; omega)) | (have hsl := splitB_len c l; have hcl := List.count_le_length (a := c) (l := l); have hib := idxB_lt s c; (try have e1 : [c].length = 1 := rfl); first | omega | (simp; omega)))
   refine q trivial rfl rfl (cuh (k + 1) sl81 rfl rfl (Nat.le_trans (by first | (first | omega | (simp; omega)) | (have hsl := splitB_len c l; have hcl := List.count_le_length (a := c) (l := l); first | omega | (simp; omega)) | (have hsl := splitB_len c l; have hcl := List.count_le_length (a := c) (l := l); have hib := idxB_lt s c; (try have e1 : [c].length = 1 := rfl); first | omega | (simp; omega))) (own_cap hs9 0 rfl).1)) ?_
   refine q trivial rfl rfl (asg (v := sb b4 (k + 1) cg9) rfl) ?_
   have e9 : k + 1 = ((((splitB c l).take k ++ List.replicate ((splitB c l).length - k) ([] : List UInt8)).set k s).take (k + 1)).length := by first | (first | rfl | (simp; done) | (simp; omega) | (simp at *; omega)) | (have hsl := splitB_len c l; have hcl := List.count_le_length (a := c) (l := l); first | rfl | (simp; done) | (simp; omega) | (simp at *; omega))
   have hs11 : SH w w7 [] [.own (some ⟨b4, 0, none⟩) (((((splitB c l).take k ++ List.replicate ((splitB c l).length - k) ([] : List UInt8)).set k s).take (k + 1)).length) cg9 9 1 (((((splitB c l).take k ++ List.replicate ((splitB c l).length - k) ([] : List UInt8)).set k s).take (k + 1)).map Str)] := (hs10.cast (lc (own_eq (g := Str) rfl e9 rfl rfl) rfl))
   refine re 8 (v := sb b4 (((((splitB c l).take k ++ List.replicate ((splitB c l).length - k) ([] : List UInt8)).set k s).take (k + 1)).length) cg9) (show (sb b4 (k + 1) cg9 : Value) = sb b4 (((((splitB c l).take k ++ List.replicate ((splitB c l).length - k) ([] : List UInt8)).set k s).take (k + 1)).length) cg9 from slv rfl e9 rfl) ?_
   refine nl ?_
   refine nN ?_
   refine rt ?_
   refine fret (v := sb b4 (((((splitB c l).take k ++ List.replicate ((splitB c l).length - k) ([] : List UInt8)).set k s).take (k + 1)).length) cg9) (.tmp .nil) rfl ?_
   have e10 : (((splitB c l).take k ++ List.replicate ((splitB c l).length - k) ([] : List UInt8)).set k s).take (k + 1) = splitB c l := by exact split_end (split_last hs_ hk (by omega))
   have e11 : ((((splitB c l).take k ++ List.replicate ((splitB c l).length - k) ([] : List UInt8)).set k s).take (k + 1)).length = (splitB c l).length := by exact congrArg List.length e10
   exact ⟨(some ⟨b4, 0, none⟩), cg9, (slv rfl e11 rfl), (hs11.cast (lc (own_eq (g := Str) rfl e11 rfl e10) rfl))⟩

theorem stSplit (l : List UInt8) (c : UInt8) (w : World) (hl_n : l.length ≤ 1099511627776) : Does Tryz.prog 70 [Str l, Str [c]] w (fun v w' => ∃ Ar : Option Addr, ∃ cr : Nat, v = .slice Ar (splitB c l).length cr ∧ SH w w' [] [.own Ar ((splitB c l).length) cr 9 1 ((splitB c l).map Str)]) := by
 refine fn_enter (N := 8) Tryz.func70 rfl (by kernel_rfl) rfl rfl rfl ?_
 have hs0 : SH w w [] [] := SH.refl w []
 refine sq ?_
 refine rg ?_
 refine q trivial rfl rfl (asg (v := ns) rfl) ?_
 refine nl ?_
 refine nN ?_
 refine sq ?_
 refine rg ?_
 refine q trivial rfl rfl (mv (v := Str l) rfl) ?_
 refine q trivial rfl rfl (mv (v := Str [c]) rfl) ?_
 refine cl trivial rfl (genSplit (l := l) (c := c) (w := _) (hl_n := (by first | omega | (simp; done) | (simp; omega)))) ?_
 rintro _ w1 ⟨A1, c1, rfl, hs1'⟩
 have hs1 : SH w w1 [] [.own A1 ((splitB c l).length) c1 9 1 ((splitB c l).map Str)] := hs0.call0 hs1'
 clear hs1'
 refine q trivial rfl rfl (asg (v := .slice A1 ((splitB c l).length) c1) rfl) ?_
 refine nl ?_
 refine nN ?_
 refine rt ?_
 refine fret (v := .slice A1 ((splitB c l).length) c1) (.tmp .nil) rfl ?_
 exact ⟨A1, c1, rfl, hs1⟩

theorem l2Cut (l : List UInt8) (c : UInt8) (w : World) (hl_n : l.length ≤ 1099511627776) : Does Tryz.prog 64 [Str l, .int .u8 ((c.toNat : Nat) : Int)] w (fun v w' => ∃ Ar : Option Addr, ∃ cr : Nat, v = .slice Ar (splitB c l).length cr ∧ SH w w' [] [.own Ar ((splitB c l).length) cr 9 1 ((splitB c l).map Str)]) := by
 refine fn_enter (N := 35) Tryz.func64 rfl (by kernel_rfl) rfl rfl rfl ?_
 have hs0 : SH w w [] [] := SH.refl w []
 refine sq ?_
 refine rg ?_
 refine q trivial rfl rfl (asg (v := ns) rfl) ?_
 refine nl ?_
 refine nN ?_
 refine sq ?_
 refine rg ?_
 refine bsk hs0 sl81 [] [] trivial rfl (fun b1 w1 (hs1 : SH w w1 [] [.own (some ⟨b1, 0, none⟩) (([] : List (List UInt8)).length) 0 9 1 (([] : List (List UInt8)).map Str)]) => ?_)
 refine q trivial rfl rfl (asg (v := sb b1 (([] : List (List UInt8)).length) 0) rfl) ?_
 refine nl ?_
 refine nN ?_
 refine sq ?_
 refine rg ?_
 refine q trivial rfl rfl (asg (v := I 0) rfl) ?_
 refine nl ?_
 refine nN ?_
 refine sq ?_
 refine sq ?_
 refine rg ?_
 refine q trivial rfl rfl (asg (v := I 0) rfl) ?_
 refine nl ?_
 refine nN ?_
 refine bl ?_
 refine lp (σ := (Option Addr) × Nat × Nat × Nat × (List (List UInt8))) (fun ⟨Ag5, cg5, i, a, zs⟩ f w' => Has f [(0, Str l), (1, .int .u8 ((c.toNat : Nat) : Int)), (5, .slice Ag5 zs.length cg5), (6, I ((a : Nat) : Int)), (7, I ((i : Nat) : Int))] ∧ (i ≤ l.length) ∧ (a ≤ i) ∧ (zs ++ splitB c (l.drop a) = splitB c l) ∧ (∀ j, a ≤ j → j < i → l.getD j 0 ≠ c) ∧ SH w w' [] [.own Ag5 zs.length cg5 9 1 (zs.map Str)]) (fun ⟨Ag5, cg5, i, a, zs⟩ => l.length - i) ((some ⟨b1, 0, none⟩), 0, 0, 0, ([] : List (List UInt8))) ⟨⟨rfl, rfl, rfl, rfl, rfl, trivial⟩, (by omega), (by omega), (by simp), (by intro j _ hj; omega), hs1⟩ ?_
 rintro ⟨Ag5, cg5, i, a, zs⟩ f w2 ⟨hf, hi, ha, hz, hn, hs2⟩
 obtain ⟨g1, rfl⟩ := has_upd hf
 clear hf
 refine sq ?_
 refine sq ?_
 refine rg ?_
 refine q trivial rfl rfl (mv (v := I ((i : Nat) : Int)) rfl) ?_
 refine q trivial rfl rfl (mv (v := Str l) rfl) ?_
 refine q trivial rfl rfl (lnS (l := l) st9 rfl) ?_
 refine q trivial rfl rfl (lss (k := .i64) (a := ((i : Nat) : Int)) (b := ((l.length : Nat) : Int)) rfl rfl) ?_
 refine nl ?_
 refine nN ?_
 refine cdd (p := ((i : Nat) : Int) < ((l.length : Nat) : Int)) rfl (fun h1 => ?_) (fun h1 => ?_)
 · refine sk ?_
   refine nN ?_
   refine sq ?_
   refine bl ?_
   refine sq ?_
   refine rg ?_
   refine q trivial rfl rfl (mv (v := Str l) rfl) ?_
   refine q trivial rfl rfl (mv (v := I ((i : Nat) : Int)) rfl) ?_
   refine q trivial rfl rfl (ixs (l := l) i st9 rfl rfl (by first | (first | omega | (simp; done) | (simp; omega)) | (have hzl := cut_len hz; first | omega | (simp; done) | (simp; omega)))) ?_
   refine q trivial rfl rfl (mv (v := .int .u8 ((c.toNat : Nat) : Int)) rfl) ?_
   refine q trivial rfl rfl (eqi (k := .u8) (a := (((l.getD i 0).toNat : Nat) : Int)) (b := ((c.toNat : Nat) : Int)) rfl rfl) ?_
   refine nl ?_
   refine nN ?_
   refine cdd (p := (((l.getD i 0).toNat : Nat) : Int) = ((c.toNat : Nat) : Int)) rfl (fun h2 => ?_) (fun h2 => ?_)
   · refine sq ?_
     refine rg ?_
     refine q trivial rfl rfl (mv (v := .slice Ag5 zs.length cg5) rfl) ?_
     refine q trivial rfl rfl (mv (v := Str l) rfl) ?_
     refine q trivial rfl rfl (mv (v := I ((a : Nat) : Int)) rfl) ?_
     refine q trivial rfl rfl (mv (v := I ((i : Nat) : Int)) rfl) ?_
     refine q trivial rfl rfl (cus (l := l) a i st9 rfl rfl rfl (by first | (first | omega | (simp; done) | (simp; omega)) | (have hzl := cut_len hz; first | omega | (simp; done) | (simp; omega))) (by first | (first | omega | (simp; done) | (simp; omega)) | (have hzl := cut_len hz; first | omega | (simp; done) | (simp; omega)))) ?_
     refine bsk hs2 sl81 [Str ((l.take i).drop a)] [Str ((l.take i).drop a)] trivial rfl (fun b2 w3 (hs3 : SH w w3 [] [.own Ag5 zs.length cg5 9 1 (zs.map Str), .own (some ⟨b2, 0, none⟩) (([(l.take i).drop a] : List (List UInt8)).length) 1 9 1 (([(l.take i).drop a] : List (List UInt8)).map Str)]) => ?_)
     refine apm (g := Str) (ys := zs) (zs := ([(l.take i).drop a] : List (List UInt8))) hs3 0 rfl sl81 rfl rfl rfl (hs3.sl0 1 rfl) (fun _ => rfl) (by unfold maxLen; first | (first | omega | (simp; done) | (simp; omega)) | (have hzl := cut_len hz; first | omega | (simp; done) | (simp; omega))) (by first | (first | omega | (simp; done) | (simp; omega)) | (have hzl := cut_len hz; first | omega | (simp; done) | (simp; omega))) trivial rfl (fun A1 c1 w4 (hs4 : SH w w4 [] [.own (some ⟨b2, 0, none⟩) (([(l.take i).drop a] : List (List UInt8)).length) 1 9 1 (([(l.take i).drop a] : List (List UInt8)).map Str), .own A1 ((zs ++ ([(l.take i).drop a] : List (List UInt8))).length) c1 9 1 ((zs ++ ([(l.take i).drop a] : List (List UInt8))).map Str)]) => ?_)
     refine q trivial rfl rfl (asg (v := .slice A1 ((zs ++ ([(l.take i).drop a] : List (List UInt8))).length) c1) rfl) ?_
     refine nl ?_
     refine nN ?_
     refine rg ?_
     refine q trivial rfl rfl (mv (v := I ((i : Nat) : Int)) rfl) ?_
     refine q trivial rfl rfl (add (a := ((i : Nat) : Int)) (b := 1) rfl rfl (by first | (exact ⟨by omega, by omega⟩) | (have hzl := cut_len hz; exact ⟨by omega, by omega⟩))) ?_
     refine q trivial rfl rfl (asg (v := I (((i : Nat) : Int) + 1)) rfl) ?_
     refine nl ?_
     refine bN ?_
     refine nN ?_
     refine rg ?_
     refine q trivial rfl rfl (mv (v := I ((i : Nat) : Int)) rfl) ?_
     refine q trivial rfl rfl (add (a := ((i : Nat) : Int)) (b := 1) rfl rfl (by first | (exact ⟨by omega, by omega⟩) | (have hzl := cut_len hz; exact ⟨by omega, by omega⟩))) ?_
     refine q trivial rfl rfl (asg (v := I (((i : Nat) : Int) + 1)) rfl) ?_
     refine nl ?_
     refine nN ?_
     refine ⟨(A1, c1, i + 1, i + 1, (zs ++ ([(l.take i).drop a] : List (List UInt8)))), ⟨⟨rfl, rfl, rfl, rfl, rfl, trivial⟩, (by omega), (by omega), (cut_step hz ha (by omega) hn (u8_eq (by omega))), (by intro j h_ hj; omega), (hs4.pick [1] rfl (by decide))⟩, ?_⟩
     show l.length - (i + 1) < l.length - i
     omega
   · refine sk ?_
     refine bN ?_
     refine nN ?_
     refine rg ?_
     refine q trivial rfl rfl (mv (v := I ((i : Nat) : Int)) rfl) ?_
     refine q trivial rfl rfl (add (a := ((i : Nat) : Int)) (b := 1) rfl rfl (by first | (exact ⟨by omega, by omega⟩) | (have hzl := cut_len hz; exact ⟨by omega, by omega⟩))) ?_
     refine q trivial rfl rfl (asg (v := I (((i : Nat) : Int) + 1)) rfl) ?_
     refine nl ?_
     refine nN ?_
     refine ⟨(Ag5, cg5, i + 1, a, zs), ⟨⟨rfl, rfl, rfl, rfl, rfl, trivial⟩, (by omega), (by omega), (hz), (by intro j h_ hj; rcases Nat.lt_succ_iff_lt_or_eq.1 hj with h | h; exact hn j h_ h; subst h; intro he; exact absurd (congrArg (fun z => ((UInt8.toNat z : Nat) : Int)) he) (by assumption)), hs2⟩, ?_⟩
     show l.length - (i + 1) < l.length - i
     omega
 · refine ex (tE (tE (bE ?_)))
   refine nN ?_
   refine sq ?_
   refine rg ?_
   refine q trivial rfl rfl (mv (v := .slice Ag5 zs.length cg5) rfl) ?_
   refine q trivial rfl rfl (mv (v := Str l) rfl) ?_
   refine q trivial rfl rfl (mv (v := I ((a : Nat) : Int)) rfl) ?_
   refine q trivial rfl rfl (culs (l := l) a st9 rfl rfl (by first | (first | omega | (simp; done) | (simp; omega)) | (have hzl := cut_len hz; first | omega | (simp; done) | (simp; omega)))) ?_
   refine bsk hs2 sl81 [Str (l.drop a)] [Str (l.drop a)] trivial rfl (fun b3 w5 (hs5 : SH w w5 [] [.own Ag5 zs.length cg5 9 1 (zs.map Str), .own (some ⟨b3, 0, none⟩) (([l.drop a] : List (List UInt8)).length) 1 9 1 (([l.drop a] : List (List UInt8)).map Str)]) => ?_)
   refine apm (g := Str) (ys := zs) (zs := ([l.drop a] : List (List UInt8))) hs5 0 rfl sl81 rfl rfl rfl (hs5.sl0 1 rfl) (fun _ => rfl) (by unfold maxLen; first | (first | omega | (simp; done) | (simp; omega)) | (have hzl := cut_len hz; first | omega | (simp; done) | (simp; omega))) (by first | (first | omega | (simp; done) | (simp; omega)) | (have hzl := cut_len hz; first | omega | (simp; done) | (simp; omega))) trivial rfl (fun A2 c2 w6 (hs6 : SH w w6 [] [.own (some ⟨b3, 0, none⟩) (([l.drop a] : List (List UInt8)).length) 1 9 1 (([l.drop a] : List (List UInt8)).map Str), .own A2 ((zs ++ ([l.drop a] : List (List UInt8))).length) c2 9 1 ((zs ++ ([l.drop a] : List (List UInt8))).map Str)]) => ?_)
   refine q trivial rfl rfl (asg (v := .slice A2 ((zs ++ ([l.drop a] : List (List UInt8))).length) c2) rfl) ?_
   refine nl ?_
   refine nN ?_
   refine rt ?_
   refine fret (v := .slice A2 ((zs ++ ([l.drop a] : List (List UInt8))).length) c2) (.tmp .nil) rfl ?_
   have e1 : zs ++ ([l.drop a] : List (List UInt8)) = splitB c l := by exact cut_end hz (by omega) hn
   have e2 : (zs ++ ([l.drop a] : List (List UInt8))).length = (splitB c l).length := by exact congrArg List.length e1
   exact ⟨A2, c2, (slv rfl e2 rfl), ((hs6.pick [1] rfl (by decide)).cast (lc (own_eq (g := Str) rfl e2 rfl e1) rfl))⟩

theorem iNameValid (l : List UInt8) (w : World) (hl_n : l.length ≤ 1099511627776) : Does Tryz.prog 58 [Str l] w (fun v w' => v = .bool (nameOk l) ∧ SH w w' [] []) := by
 refine fn_enter (N := 35) Tryz.func58 rfl (by kernel_rfl) rfl rfl rfl ?_
 have hs0 : SH w w [] [] := SH.refl w []
 refine sq ?_
 refine rg ?_
 refine q trivial rfl rfl (asg (v := .bool false) rfl) ?_
 refine nl ?_
 refine nN ?_
 refine sq ?_
 refine rg ?_
 refine q trivial rfl rfl (mv (v := Str l) rfl) ?_
 refine cl trivial rfl (stSplit (l := l) (c := 46) (w := _) (hl_n := (by first | (first | omega | (simp; done) | (simp; omega)) | (have hsb := splitB_getD 46 l k; have hsl := splitB_len 46 l; have hcl := List.count_le_length (a := (46 : UInt8)) (l := l); first | omega | (simp; done) | (simp; omega))))) ?_
 rintro _ w1 ⟨A1, c1, rfl, hs1'⟩
 have hs1 : SH w w1 [] [.own A1 ((splitB 46 l).length) c1 9 1 ((splitB 46 l).map Str)] := hs0.call0 hs1'
 clear hs1'
 refine q trivial rfl rfl (asg (v := .slice A1 ((splitB 46 l).length) c1) rfl) ?_
 refine nl ?_
 refine nN ?_
 refine sq ?_
 refine sq ?_
 refine rg ?_
 refine q trivial rfl rfl (mv (v := .slice A1 ((splitB 46 l).length) c1) rfl) ?_
 refine q trivial rfl rfl (lnA (n := (splitB 46 l).length) sl81 rfl) ?_
 refine q trivial rfl rfl (mv (v := I 0) rfl) ?_
 refine nl ?_
 refine nN ?_
 refine bl ?_
 refine lp (σ := Nat) (fun (k : Nat) f w' => Has f [(0, Str l), (3, .slice A1 ((splitB 46 l).length) c1), (8, .slice A1 ((splitB 46 l).length) c1), (9, I (((splitB 46 l).length : Nat) : Int)), (10, I ((k : Nat) : Int))] ∧ (k ≤ (splitB 46 l).length) ∧ (((splitB 46 l).take k).all partOk = true) ∧ SH w w' [] [.own A1 ((splitB 46 l).length) c1 9 1 ((splitB 46 l).map Str)]) (fun k => (splitB 46 l).length - k) 0 ⟨⟨rfl, rfl, rfl, rfl, rfl, trivial⟩, (by simp), (by simp), hs1⟩ ?_
 rintro k f w2 ⟨hf, hk, ha, hs2⟩
 obtain ⟨g1, rfl⟩ := has_upd hf
 clear hf
 refine sq ?_
 refine rg ?_
 refine q trivial rfl rfl (lss (k := .i64) (a := ((k : Nat) : Int)) (b := (((splitB 46 l).length : Nat) : Int)) rfl rfl) ?_
 refine nl ?_
 refine nN ?_
 refine sq ?_
 refine cdd (p := ((k : Nat) : Int) < (((splitB 46 l).length : Nat) : Int)) rfl (fun h1 => ?_) (fun h1 => ?_)
 · refine sk ?_
   refine nN ?_
   refine sq ?_
   refine bl ?_
   refine sq ?_
   refine rg ?_
   refine ixw1 k sl81 rfl rfl (hs2.sl0 0 rfl) (by first | (first | omega | (simp; done) | (simp; omega)) | (have hsb := splitB_getD 46 l k; have hsl := splitB_len 46 l; have hcl := List.count_le_length (a := (46 : UInt8)) (l := l); first | omega | (simp; done) | (simp; omega))) (getm Str [] (by first | (first | omega | (simp; done) | (simp; omega)) | (have hsb := splitB_getD 46 l k; have hsl := splitB_len 46 l; have hcl := List.count_le_length (a := (46 : UInt8)) (l := l); first | omega | (simp; done) | (simp; omega)))) trivial rfl (fun a1 ha1 => ?_)
   refine q trivial rfl rfl (lda (v := Str ((splitB 46 l).getD k [])) (SH.refl w2 []) ha1 (fun _ h => h) rfl rfl one9) ?_
   refine q trivial rfl rfl (asg (v := Str ((splitB 46 l).getD k [])) rfl) ?_
   refine nl ?_
   refine nN ?_
   refine sq ?_
   refine rg ?_
   refine q trivial rfl rfl (mv (v := Str ((splitB 46 l).getD k [])) rfl) ?_
   refine q trivial rfl rfl (eqs (l := (splitB 46 l).getD k []) (m := []) rfl rfl) ?_
   refine q trivial rfl rfl (mv (v := .bool (decide ((splitB 46 l).getD k [] = []))) rfl) ?_
   refine spd (p := (splitB 46 l).getD k [] = []) 16 rfl (fun h2 => ?_) (fun h2 => ?_)
   · refine gk true rfl rfl rfl rfl rfl ?_
     refine gk true rfl rfl rfl rfl rfl ?_
     refine gk true rfl rfl rfl rfl rfl ?_
     refine q trivial rfl rfl (pt (v := .bool true) rfl rfl) ?_
     refine nl ?_
     refine nN ?_
     refine cdt rfl ?_
     refine sq ?_
     refine rg ?_
     refine q trivial rfl rfl (asg (v := .bool false) rfl) ?_
     refine nl ?_
     refine nN ?_
     refine rt (bR (tR (tR (bR (tR ?_)))))
     refine fret (v := .bool false) (.tmp .nil) rfl ?_
     have e1 : false = nameOk l := by first | (exact (name_bad (k := k) (by omega) (part_nil (by assumption))).symm) | (exact (name_bad (k := k) (by omega) (part_len0 (by omega))).symm) | (exact (name_bad (k := k) (by omega) (part_bad (by assumption))).symm) | (exact (name_bad (k := k) (by omega) (part_bad1 (j := j) (by omega) (by assumption))).symm) | (exact (name_end2 (by omega) ha (by omega)).symm) | (exact (name_end1 (by omega) ha (by omega)).symm) | exact name_end3 (by omega) ha (by omega) (by assumption) | exact name_end4 (by omega) ha (by omega) (by assumption)
     exact ⟨(congrArg (Value.bool) e1), (hs2.pick [] rfl (by decide))⟩
   · refine q ⟨_, rfl, rfl⟩ rfl rfl (mv (v := Str ((splitB 46 l).getD k [])) rfl) ?_
     refine cl ⟨_, rfl, rfl⟩ rfl (iConsists (l := (splitB 46 l).getD k []) (m := [45]) (w := _) (hl_n := (by first | (first | omega | (simp; done) | (simp; omega)) | (have hsb := splitB_getD 46 l k; have hsl := splitB_len 46 l; have hcl := List.count_le_length (a := (46 : UInt8)) (l := l); first | omega | (simp; done) | (simp; omega))))) ?_
     rintro _ w3 ⟨rfl, hs3'⟩
     have hs3 : SH w w3 [] [.own A1 ((splitB 46 l).length) c1 9 1 ((splitB 46 l).map Str)] := hs2.call0 hs3'
     clear hs3'
     refine q ⟨_, rfl, rfl⟩ rfl rfl (nt (b := ((splitB 46 l).getD k []).all (okC [45])) rfl) ?_
     refine q trivial rfl rfl (pf (v := .bool (!(((splitB 46 l).getD k []).all (okC [45])))) rfl rfl) ?_
     refine nl ?_
     refine nN ?_
     refine cd (b := !(((splitB 46 l).getD k []).all (okC [45]))) rfl (fun h3 => ?_) (fun h3 => ?_)
     · have h4 : (((splitB 46 l).getD k []).all (okC [45])) = false := by simpa using h3
       refine sq ?_
       refine rg ?_
       refine q trivial rfl rfl (asg (v := .bool false) rfl) ?_
       refine nl ?_
       refine nN ?_
       refine rt (bR (tR (tR (bR (tR ?_)))))
       refine fret (v := .bool false) (.tmp .nil) rfl ?_
       have e2 : false = nameOk l := by first | (exact (name_bad (k := k) (by omega) (part_nil (by assumption))).symm) | (exact (name_bad (k := k) (by omega) (part_len0 (by omega))).symm) | (exact (name_bad (k := k) (by omega) (part_bad (by assumption))).symm) | (exact (name_bad (k := k) (by omega) (part_bad1 (j := j) (by omega) (by assumption))).symm) | (exact (name_end2 (by omega) ha (by omega)).symm) | (exact (name_end1 (by omega) ha (by omega)).symm) | exact name_end3 (by omega) ha (by omega) (by assumption) | exact name_end4 (by omega) ha (by omega) (by assumption)
       exact ⟨(congrArg (Value.bool) e2), (hs3.pick [] rfl (by decide))⟩
     · have h5 : (((splitB 46 l).getD k []).all (okC [45])) = true := by simpa using h3
       refine sk ?_
       refine bN ?_
       refine nN ?_
       refine rg ?_
       refine q trivial rfl rfl (add (a := ((k : Nat) : Int)) (b := 1) rfl rfl (by first | (exact ⟨by omega, by omega⟩) | (have hsb := splitB_getD 46 l k; have hsl := splitB_len 46 l; have hcl := List.count_le_length (a := (46 : UInt8)) (l := l); exact ⟨by omega, by omega⟩))) ?_
       refine q trivial rfl rfl (mv (v := I (((k : Nat) : Int) + 1)) rfl) ?_
       refine nl ?_
       refine nN ?_
       refine ⟨(k + 1), ⟨⟨rfl, rfl, rfl, rfl, rfl, trivial⟩, (by omega), (all_step (d := []) (by omega) ha (part_mk (by assumption) (by assumption))), hs3⟩, ?_⟩
       omega
 · refine ex (tE (tE (bE ?_)))
   refine nN ?_
   refine sq ?_
   refine rg ?_
   refine q trivial rfl rfl (mv (v := Str l) rfl) ?_
   refine q trivial rfl rfl (lnS (l := l) st9 rfl) ?_
   refine q trivial rfl rfl (leq (k := .i64) (a := ((l.length : Nat) : Int)) (b := 20) rfl rfl) ?_
   refine q trivial rfl rfl (mv (v := .bool (decide (((l.length : Nat) : Int) ≤ 20))) rfl) ?_
   refine spd (p := ((l.length : Nat) : Int) ≤ 20) 25 rfl (fun h6 => ?_) (fun h6 => ?_)
   · refine q ⟨_, rfl, rfl⟩ rfl rfl (mv (v := .slice A1 ((splitB 46 l).length) c1) rfl) ?_
     refine q ⟨_, rfl, rfl⟩ rfl rfl (mv (v := .slice A1 ((splitB 46 l).length) c1) rfl) ?_
     refine q ⟨_, rfl, rfl⟩ rfl rfl (lnA (n := (splitB 46 l).length) sl81 rfl) ?_
     refine q ⟨_, rfl, rfl⟩ rfl rfl (subN (a := (splitB 46 l).length) (b := 1) rfl rfl (by have hsb := splitB_getD 46 l k; have hsl := splitB_len 46 l; have hcl := List.count_le_length (a := (46 : UInt8)) (l := l); have := splitB_pos 46 l; omega) (by have hsb := splitB_getD 46 l k; have hsl := splitB_len 46 l; have hcl := List.count_le_length (a := (46 : UInt8)) (l := l); have := splitB_pos 46 l; omega)) ?_
     refine ixw1 (((splitB 46 l).length) - 1) sl81 rfl rfl (hs2.sl0 0 rfl) (by first | (first | omega | (simp; done) | (simp; omega)) | (have hsb := splitB_getD 46 l k; have hsl := splitB_len 46 l; have hcl := List.count_le_length (a := (46 : UInt8)) (l := l); first | omega | (simp; done) | (simp; omega))) (getm Str [] (by first | (first | omega | (simp; done) | (simp; omega)) | (have hsb := splitB_getD 46 l k; have hsl := splitB_len 46 l; have hcl := List.count_le_length (a := (46 : UInt8)) (l := l); first | omega | (simp; done) | (simp; omega)))) ⟨_, rfl, rfl⟩ rfl (fun a2 ha2 => ?_)
     refine q ⟨_, rfl, rfl⟩ rfl rfl (lda (v := Str ((splitB 46 l).getD (((splitB 46 l).length) - 1) [])) (SH.refl w2 []) ha2 (fun _ h => h) rfl rfl one9) ?_
     refine q ⟨_, rfl, rfl⟩ rfl rfl (ixs (l := (splitB 46 l).getD (((splitB 46 l).length) - 1) []) 0 st9 rfl rfl (by exact name_last (by omega) ha (by have := splitB_pos 46 l; omega))) ?_
     refine cl ⟨_, rfl, rfl⟩ rfl (iLetter (c := (((splitB 46 l).getD (((splitB 46 l).length) - 1) []).getD 0 0)) (w := _)) ?_
     rintro _ w4 ⟨rfl, hs4'⟩
     have hs4 : SH w w4 [] [.own A1 ((splitB 46 l).length) c1 9 1 ((splitB 46 l).map Str)] := hs2.call0 hs4'
     clear hs4'
     refine q trivial rfl rfl (pt (v := .bool (decide (97 ≤ (((((splitB 46 l).getD (((splitB 46 l).length) - 1) []).getD 0 0).toNat : Nat) : Int) ∧ (((((splitB 46 l).getD (((splitB 46 l).length) - 1) []).getD 0 0).toNat : Nat) : Int) ≤ 122))) rfl rfl) ?_
     refine q trivial rfl rfl (asg (v := .bool (decide (97 ≤ (((((splitB 46 l).getD (((splitB 46 l).length) - 1) []).getD 0 0).toNat : Nat) : Int) ∧ (((((splitB 46 l).getD (((splitB 46 l).length) - 1) []).getD 0 0).toNat : Nat) : Int) ≤ 122))) rfl) ?_
     refine nl ?_
     refine nN ?_
     refine rt ?_
     refine fret (v := .bool (decide (97 ≤ (((((splitB 46 l).getD (((splitB 46 l).length) - 1) []).getD 0 0).toNat : Nat) : Int) ∧ (((((splitB 46 l).getD (((splitB 46 l).length) - 1) []).getD 0 0).toNat : Nat) : Int) ≤ 122))) (.tmp .nil) rfl ?_
     have e3 : (decide (97 ≤ (((((splitB 46 l).getD (((splitB 46 l).length) - 1) []).getD 0 0).toNat : Nat) : Int) ∧ (((((splitB 46 l).getD (((splitB 46 l).length) - 1) []).getD 0 0).toNat : Nat) : Int) ≤ 122)) = nameOk l := by first | (exact (name_bad (k := k) (by omega) (part_nil (by assumption))).symm) | (exact (name_bad (k := k) (by omega) (part_len0 (by omega))).symm) | (exact (name_bad (k := k) (by omega) (part_bad (by assumption))).symm) | (exact (name_bad (k := k) (by omega) (part_bad1 (j := j) (by omega) (by assumption))).symm) | (exact (name_end2 (by omega) ha (by omega)).symm) | (exact (name_end1 (by omega) ha (by omega)).symm) | exact name_end3 (by omega) ha (by omega) (by assumption) | exact name_end4 (by omega) ha (by omega) (by assumption)
     exact ⟨(congrArg (Value.bool) e3), (hs4.pick [] rfl (by decide))⟩
   · refine gk false rfl rfl rfl rfl rfl ?_
     refine gk false rfl rfl rfl rfl rfl ?_
     refine gk false rfl rfl rfl rfl rfl ?_
     refine gk false rfl rfl rfl rfl rfl ?_
     refine gk false rfl rfl rfl rfl rfl ?_
     refine gk false rfl rfl rfl rfl rfl ?_
     refine gk false rfl rfl rfl rfl rfl ?_
     refine gk false rfl rfl rfl rfl rfl ?_
     refine q trivial rfl rfl (pf (v := .bool false) rfl rfl) ?_
     refine q trivial rfl rfl (asg (v := .bool false) rfl) ?_
     refine nl ?_
     refine nN ?_
     refine rt ?_
     refine fret (v := .bool false) (.tmp .nil) rfl ?_
     have e4 : false = nameOk l := by first | (exact (name_bad (k := k) (by omega) (part_nil (by assumption))).symm) | (exact (name_bad (k := k) (by omega) (part_len0 (by omega))).symm) | (exact (name_bad (k := k) (by omega) (part_bad (by assumption))).symm) | (exact (name_bad (k := k) (by omega) (part_bad1 (j := j) (by omega) (by assumption))).symm) | (exact (name_end2 (by omega) ha (by omega)).symm) | (exact (name_end1 (by omega) ha (by omega)).symm) | exact name_end3 (by omega) ha (by omega) (by assumption) | exact name_end4 (by omega) ha (by omega) (by assumption)
     exact ⟨(congrArg (Value.bool) e4), (hs2.pick [] rfl (by decide))⟩

theorem sNameValid (l : List UInt8) (w : World) (hl_n : l.length ≤ 1099511627776) : Does Tryz.prog 50 [Str l] w (fun v w' => v = .bool (nameOk l) ∧ SH w w' [] []) := by
 refine fn_enter (N := 53) Tryz.func50 rfl (by kernel_rfl) rfl rfl rfl ?_
 have hs0 : SH w w [] [] := SH.refl w []
 refine sq ?_
 refine rg ?_
 refine q trivial rfl rfl (asg (v := .bool false) rfl) ?_
 refine nl ?_
 refine nN ?_
 refine sq ?_
 refine rg ?_
 refine q trivial rfl rfl (mv (v := Str l) rfl) ?_
 refine cl trivial rfl (l2Cut (l := l) (c := (46 : UInt8)) (w := _) (hl_n := (by first | (first | omega | (simp; done) | (simp; omega)) | (have hsb := splitB_getD 46 l k; have hsl := splitB_len 46 l; have hcl := List.count_le_length (a := (46 : UInt8)) (l := l); first | omega | (simp; done) | (simp; omega))))) ?_
 rintro _ w1 ⟨A1, c1, rfl, hs1'⟩
 have hs1 : SH w w1 [] [.own A1 ((splitB (46 : UInt8) l).length) c1 9 1 ((splitB (46 : UInt8) l).map Str)] := hs0.call0 hs1'
 clear hs1'
 refine q trivial rfl rfl (asg (v := .slice A1 ((splitB (46 : UInt8) l).length) c1) rfl) ?_
 refine nl ?_
 refine nN ?_
 refine sq ?_
 refine sq ?_
 refine rg ?_
 refine q trivial rfl rfl (asg (v := I 0) rfl) ?_
 refine nl ?_
 refine nN ?_
 refine bl ?_
 refine lp (σ := Nat) (fun (k : Nat) f w' => Has f [(0, Str l), (3, .slice A1 ((splitB (46 : UInt8) l).length) c1), (4, I ((k : Nat) : Int))] ∧ (k ≤ (splitB 46 l).length) ∧ (((splitB 46 l).take k).all partOk = true) ∧ SH w w' [] [.own A1 ((splitB (46 : UInt8) l).length) c1 9 1 ((splitB (46 : UInt8) l).map Str)]) (fun k => (splitB 46 l).length - k) 0 ⟨⟨rfl, rfl, rfl, trivial⟩, (by simp), (by simp), hs1⟩ ?_
 rintro k f w2 ⟨hf, hk, ha, hs2⟩
 obtain ⟨g1, rfl⟩ := has_upd hf
 clear hf
 refine sq ?_
 refine sq ?_
 refine rg ?_
 refine q trivial rfl rfl (mv (v := I ((k : Nat) : Int)) rfl) ?_
 refine q trivial rfl rfl (mv (v := .slice A1 ((splitB (46 : UInt8) l).length) c1) rfl) ?_
 refine q trivial rfl rfl (lnA (n := (splitB (46 : UInt8) l).length) sl81 rfl) ?_
 refine q trivial rfl rfl (lss (k := .i64) (a := ((k : Nat) : Int)) (b := (((splitB (46 : UInt8) l).length : Nat) : Int)) rfl rfl) ?_
 refine nl ?_
 refine nN ?_
 refine cdd (p := ((k : Nat) : Int) < (((splitB (46 : UInt8) l).length : Nat) : Int)) rfl (fun h1 => ?_) (fun h1 => ?_)
 · refine sk ?_
   refine nN ?_
   refine sq ?_
   refine bl ?_
   refine sq ?_
   refine rg ?_
   refine q trivial rfl rfl (mv (v := .slice A1 ((splitB (46 : UInt8) l).length) c1) rfl) ?_
   refine q trivial rfl rfl (mv (v := I ((k : Nat) : Int)) rfl) ?_
   refine ixw1 k sl81 rfl rfl (hs2.sl0 0 rfl) (by first | (first | omega | (simp; done) | (simp; omega)) | (have hsb := splitB_getD 46 l k; have hsl := splitB_len 46 l; have hcl := List.count_le_length (a := (46 : UInt8)) (l := l); first | omega | (simp; done) | (simp; omega))) (getm Str [] (by first | (first | omega | (simp; done) | (simp; omega)) | (have hsb := splitB_getD 46 l k; have hsl := splitB_len 46 l; have hcl := List.count_le_length (a := (46 : UInt8)) (l := l); first | omega | (simp; done) | (simp; omega)))) trivial rfl (fun a1 ha1 => ?_)
   refine q trivial rfl rfl (lda (v := Str ((splitB (46 : UInt8) l).getD k [])) (SH.refl w2 []) ha1 (fun _ h => h) rfl rfl one9) ?_
   refine q trivial rfl rfl (asg (v := Str ((splitB (46 : UInt8) l).getD k [])) rfl) ?_
   refine nl ?_
   refine nN ?_
   refine sq ?_
   refine sq ?_
   refine rg ?_
   refine q trivial rfl rfl (mv (v := Str ((splitB (46 : UInt8) l).getD k [])) rfl) ?_
   refine q trivial rfl rfl (lnS (l := (splitB (46 : UInt8) l).getD k []) st9 rfl) ?_
   refine q trivial rfl rfl (eqi (k := .i64) (a := ((((splitB (46 : UInt8) l).getD k []).length : Nat) : Int)) (b := 0) rfl rfl) ?_
   refine nl ?_
   refine nN ?_
   refine cdd (p := ((((splitB (46 : UInt8) l).getD k []).length : Nat) : Int) = 0) rfl (fun h2 => ?_) (fun h2 => ?_)
   · refine sq ?_
     refine rg ?_
     refine q trivial rfl rfl (asg (v := .bool false) rfl) ?_
     refine nl ?_
     refine nN ?_
     refine rt (tR (bR (tR (tR (bR (tR ?_))))))
     refine fret (v := .bool false) (.tmp .nil) rfl ?_
     have e1 : false = nameOk l := by first | (exact (name_bad (k := k) (by omega) (part_nil (by assumption))).symm) | (exact (name_bad (k := k) (by omega) (part_len0 (by omega))).symm) | (exact (name_bad (k := k) (by omega) (part_bad (by assumption))).symm) | (exact (name_bad (k := k) (by omega) (part_bad1 (j := j) (by omega) (by assumption))).symm) | (exact (name_end2 (by omega) ha (by omega)).symm) | (exact (name_end1 (by omega) ha (by omega)).symm) | exact name_end3 (by omega) ha (by omega) (by assumption) | exact name_end4 (by omega) ha (by omega) (by assumption)
     exact ⟨(congrArg (Value.bool) e1), (hs2.pick [] rfl (by decide))⟩
   · refine sk ?_
     refine nN ?_
     refine sq ?_
     refine rg ?_
     refine q trivial rfl rfl (asg (v := I 0) rfl) ?_
     refine nl ?_
     refine nN ?_
     refine bl ?_
     refine lp (σ := Nat) (fun (j : Nat) f w' => Has f [(0, Str l), (3, .slice A1 ((splitB (46 : UInt8) l).length) c1), (4, I ((k : Nat) : Int)), (5, Str ((splitB (46 : UInt8) l).getD k [])), (6, I ((j : Nat) : Int))] ∧ (j ≤ ((splitB 46 l).getD k []).length) ∧ ((((splitB 46 l).getD k []).take j).all letC = true) ∧ SH w w' [] [.own A1 ((splitB (46 : UInt8) l).length) c1 9 1 ((splitB (46 : UInt8) l).map Str)]) (fun j => ((splitB 46 l).getD k []).length - j) 0 ⟨⟨rfl, rfl, rfl, rfl, rfl, trivial⟩, (by simp), (by simp), hs2⟩ ?_
     rintro j f w3 ⟨hf, hj, hb, hs3⟩
     obtain ⟨g2, rfl⟩ := has_upd hf
     clear hf
     refine sq ?_
     refine sq ?_
     refine rg ?_
     refine q trivial rfl rfl (mv (v := I ((j : Nat) : Int)) rfl) ?_
     refine q trivial rfl rfl (mv (v := Str ((splitB (46 : UInt8) l).getD k [])) rfl) ?_
     refine q trivial rfl rfl (lnS (l := (splitB (46 : UInt8) l).getD k []) st9 rfl) ?_
     refine q trivial rfl rfl (lss (k := .i64) (a := ((j : Nat) : Int)) (b := ((((splitB (46 : UInt8) l).getD k []).length : Nat) : Int)) rfl rfl) ?_
     refine nl ?_
     refine nN ?_
     refine cdd (p := ((j : Nat) : Int) < ((((splitB (46 : UInt8) l).getD k []).length : Nat) : Int)) rfl (fun h3 => ?_) (fun h3 => ?_)
     · refine sk ?_
       refine nN ?_
       refine sq ?_
       refine bl ?_
       refine sq ?_
       refine rg ?_
       refine q trivial rfl rfl (mv (v := Str ((splitB (46 : UInt8) l).getD k [])) rfl) ?_
       refine q trivial rfl rfl (mv (v := I ((j : Nat) : Int)) rfl) ?_
       refine q trivial rfl rfl (ixs (l := (splitB (46 : UInt8) l).getD k []) j st9 rfl rfl (by first | omega | exact name_last (by omega) ha (by have := splitB_pos 46 l; omega))) ?_
       refine cl trivial rfl (sLetter (c := (((splitB (46 : UInt8) l).getD k []).getD j 0)) (w := _)) ?_
       rintro _ w4 ⟨rfl, hs4'⟩
       have hs4 : SH w w4 [] [.own A1 ((splitB (46 : UInt8) l).length) c1 9 1 ((splitB (46 : UInt8) l).map Str)] := hs3.call0 hs4'
       clear hs4'
       refine q trivial rfl rfl (nt (b := letC (((splitB (46 : UInt8) l).getD k []).getD j 0)) rfl) ?_
       refine nl ?_
       refine nN ?_
       refine cd (b := !(letC (((splitB (46 : UInt8) l).getD k []).getD j 0))) rfl (fun h4 => ?_) (fun h4 => ?_)
       · have h5 : (letC (((splitB (46 : UInt8) l).getD k []).getD j 0)) = false := by simpa using h4
         refine sq ?_
         refine rg ?_
         refine q trivial rfl rfl (asg (v := .bool false) rfl) ?_
         refine nl ?_
         refine nN ?_
         refine rt (bR (tR (tR (bR (bR (tR (tR (bR (tR ?_)))))))))
         refine fret (v := .bool false) (.tmp .nil) rfl ?_
         have e2 : false = nameOk l := by first | (exact (name_bad (k := k) (by omega) (part_nil (by assumption))).symm) | (exact (name_bad (k := k) (by omega) (part_len0 (by omega))).symm) | (exact (name_bad (k := k) (by omega) (part_bad (by assumption))).symm) | (exact (name_bad (k := k) (by omega) (part_bad1 (j := j) (by omega) (by assumption))).symm) | (exact (name_end2 (by omega) ha (by omega)).symm) | (exact (name_end1 (by omega) ha (by omega)).symm) | exact name_end3 (by omega) ha (by omega) (by assumption) | exact name_end4 (by omega) ha (by omega) (by assumption)
         exact ⟨(congrArg (Value.bool) e2), (hs4.pick [] rfl (by decide))⟩
       · have h6 : (letC (((splitB (46 : UInt8) l).getD k []).getD j 0)) = true := by simpa using h4
         refine sk ?_
         refine bN ?_
         refine nN ?_
         refine rg ?_
         refine q trivial rfl rfl (mv (v := I ((j : Nat) : Int)) rfl) ?_
         refine q trivial rfl rfl (add (a := ((j : Nat) : Int)) (b := 1) rfl rfl (by first | (exact ⟨by omega, by omega⟩) | (have hsb := splitB_getD 46 l k; have hsl := splitB_len 46 l; have hcl := List.count_le_length (a := (46 : UInt8)) (l := l); exact ⟨by omega, by omega⟩))) ?_
         refine q trivial rfl rfl (asg (v := I (((j : Nat) : Int) + 1)) rfl) ?_
         refine nl ?_
         refine nN ?_
         refine ⟨(j + 1), ⟨⟨rfl, rfl, rfl, rfl, rfl, trivial⟩, (by omega), (all_step (d := 0) (by omega) hb (by assumption)), hs4⟩, ?_⟩
         omega
     · refine ex (tE (tE (bE ?_)))
       refine bN ?_
       refine nN ?_
       refine rg ?_
       refine q trivial rfl rfl (mv (v := I ((k : Nat) : Int)) rfl) ?_
       refine q trivial rfl rfl (add (a := ((k : Nat) : Int)) (b := 1) rfl rfl (by first | (exact ⟨by omega, by omega⟩) | (have hsb := splitB_getD 46 l k; have hsl := splitB_len 46 l; have hcl := List.count_le_length (a := (46 : UInt8)) (l := l); exact ⟨by omega, by omega⟩))) ?_
       refine q trivial rfl rfl (asg (v := I (((k : Nat) : Int) + 1)) rfl) ?_
       refine nl ?_
       refine nN ?_
       refine ⟨(k + 1), ⟨⟨rfl, rfl, rfl, trivial⟩, (by omega), (all_step (d := []) (by omega) ha (part_mk1 (j := j) (by omega) (by omega) hb)), hs3⟩, ?_⟩
       omega
 · refine ex (tE (tE (bE ?_)))
   refine nN ?_
   refine sq ?_
   refine rg ?_
   refine q trivial rfl rfl (mv (v := .slice A1 ((splitB (46 : UInt8) l).length) c1) rfl) ?_
   refine q trivial rfl rfl (mv (v := .slice A1 ((splitB (46 : UInt8) l).length) c1) rfl) ?_
   refine q trivial rfl rfl (lnA (n := (splitB (46 : UInt8) l).length) sl81 rfl) ?_
   refine q trivial rfl rfl (subN (a := (splitB (46 : UInt8) l).length) (b := 1) rfl rfl (by have hsb := splitB_getD 46 l k; have hsl := splitB_len 46 l; have hcl := List.count_le_length (a := (46 : UInt8)) (l := l); have := splitB_pos 46 l; omega) (by have hsb := splitB_getD 46 l k; have hsl := splitB_len 46 l; have hcl := List.count_le_length (a := (46 : UInt8)) (l := l); have := splitB_pos 46 l; omega)) ?_
   refine ixw1 (((splitB (46 : UInt8) l).length) - 1) sl81 rfl rfl (hs2.sl0 0 rfl) (by first | (first | omega | (simp; done) | (simp; omega)) | (have hsb := splitB_getD 46 l k; have hsl := splitB_len 46 l; have hcl := List.count_le_length (a := (46 : UInt8)) (l := l); first | omega | (simp; done) | (simp; omega))) (getm Str [] (by first | (first | omega | (simp; done) | (simp; omega)) | (have hsb := splitB_getD 46 l k; have hsl := splitB_len 46 l; have hcl := List.count_le_length (a := (46 : UInt8)) (l := l); first | omega | (simp; done) | (simp; omega)))) trivial rfl (fun a2 ha2 => ?_)
   refine q trivial rfl rfl (lda (v := Str ((splitB (46 : UInt8) l).getD (((splitB (46 : UInt8) l).length) - 1) [])) (SH.refl w2 []) ha2 (fun _ h => h) rfl rfl one9) ?_
   refine q trivial rfl rfl (asg (v := Str ((splitB (46 : UInt8) l).getD (((splitB (46 : UInt8) l).length) - 1) [])) rfl) ?_
   refine nl ?_
   refine nN ?_
   refine sq ?_
   refine rg ?_
   refine q trivial rfl rfl (mv (v := Str l) rfl) ?_
   refine q trivial rfl rfl (lnS (l := l) st9 rfl) ?_
   refine q trivial rfl rfl (leq (k := .i64) (a := ((l.length : Nat) : Int)) (b := 20) rfl rfl) ?_
   refine q trivial rfl rfl (mv (v := .bool (decide (((l.length : Nat) : Int) ≤ 20))) rfl) ?_
   refine spd (p := ((l.length : Nat) : Int) ≤ 20) 43 rfl (fun h7 => ?_) (fun h7 => ?_)
   · refine q ⟨_, rfl, rfl⟩ rfl rfl (mv (v := Str ((splitB (46 : UInt8) l).getD (((splitB (46 : UInt8) l).length) - 1) [])) rfl) ?_
     refine q ⟨_, rfl, rfl⟩ rfl rfl (ixs (l := (splitB (46 : UInt8) l).getD (((splitB (46 : UInt8) l).length) - 1) []) 0 st9 rfl rfl (by first | omega | exact name_last (by omega) ha (by have := splitB_pos 46 l; omega))) ?_
     refine q ⟨_, rfl, rfl⟩ rfl rfl (geq (k := .u8) (a := (((((splitB (46 : UInt8) l).getD (((splitB (46 : UInt8) l).length) - 1) []).getD 0 0).toNat : Nat) : Int)) (b := 97) rfl rfl) ?_
     refine q trivial rfl rfl (pt (v := .bool (decide ((97 : Int) ≤ (((((splitB (46 : UInt8) l).getD (((splitB (46 : UInt8) l).length) - 1) []).getD 0 0).toNat : Nat) : Int)))) rfl rfl) ?_
     refine q trivial rfl rfl (mv (v := .bool (decide ((97 : Int) ≤ (((((splitB (46 : UInt8) l).getD (((splitB (46 : UInt8) l).length) - 1) []).getD 0 0).toNat : Nat) : Int)))) rfl) ?_
     refine spd (p := (97 : Int) ≤ (((((splitB (46 : UInt8) l).getD (((splitB (46 : UInt8) l).length) - 1) []).getD 0 0).toNat : Nat) : Int)) 48 rfl (fun h8 => ?_) (fun h8 => ?_)
     · refine q ⟨_, rfl, rfl⟩ rfl rfl (mv (v := Str ((splitB (46 : UInt8) l).getD (((splitB (46 : UInt8) l).length) - 1) [])) rfl) ?_
       refine q ⟨_, rfl, rfl⟩ rfl rfl (ixs (l := (splitB (46 : UInt8) l).getD (((splitB (46 : UInt8) l).length) - 1) []) 0 st9 rfl rfl (by first | omega | exact name_last (by omega) ha (by have := splitB_pos 46 l; omega))) ?_
       refine q ⟨_, rfl, rfl⟩ rfl rfl (leq (k := .u8) (a := (((((splitB (46 : UInt8) l).getD (((splitB (46 : UInt8) l).length) - 1) []).getD 0 0).toNat : Nat) : Int)) (b := 122) rfl rfl) ?_
       refine q trivial rfl rfl (pt (v := .bool (decide ((((((splitB (46 : UInt8) l).getD (((splitB (46 : UInt8) l).length) - 1) []).getD 0 0).toNat : Nat) : Int) ≤ 122))) rfl rfl) ?_
       refine q trivial rfl rfl (asg (v := .bool (decide ((((((splitB (46 : UInt8) l).getD (((splitB (46 : UInt8) l).length) - 1) []).getD 0 0).toNat : Nat) : Int) ≤ 122))) rfl) ?_
       refine nl ?_
       refine nN ?_
       refine rt ?_
       refine fret (v := .bool (decide ((((((splitB (46 : UInt8) l).getD (((splitB (46 : UInt8) l).length) - 1) []).getD 0 0).toNat : Nat) : Int) ≤ 122))) (.tmp .nil) rfl ?_
       have e3 : (decide ((((((splitB (46 : UInt8) l).getD (((splitB (46 : UInt8) l).length) - 1) []).getD 0 0).toNat : Nat) : Int) ≤ 122)) = nameOk l := by first | (exact (name_bad (k := k) (by omega) (part_nil (by assumption))).symm) | (exact (name_bad (k := k) (by omega) (part_len0 (by omega))).symm) | (exact (name_bad (k := k) (by omega) (part_bad (by assumption))).symm) | (exact (name_bad (k := k) (by omega) (part_bad1 (j := j) (by omega) (by assumption))).symm) | (exact (name_end2 (by omega) ha (by omega)).symm) | (exact (name_end1 (by omega) ha (by omega)).symm) | exact name_end3 (by omega) ha (by omega) (by assumption) | exact name_end4 (by omega) ha (by omega) (by assumption)
       exact ⟨(congrArg (Value.bool) e3), (hs2.pick [] rfl (by decide))⟩
     · refine gk false rfl rfl rfl rfl rfl ?_
       refine gk false rfl rfl rfl rfl rfl ?_
       refine gk false rfl rfl rfl rfl rfl ?_
       refine q trivial rfl rfl (pf (v := .bool false) rfl rfl) ?_
       refine q trivial rfl rfl (asg (v := .bool false) rfl) ?_
       refine nl ?_
       refine nN ?_
       refine rt ?_
       refine fret (v := .bool false) (.tmp .nil) rfl ?_
       have e4 : false = nameOk l := by first | (exact (name_bad (k := k) (by omega) (part_nil (by assumption))).symm) | (exact (name_bad (k := k) (by omega) (part_len0 (by omega))).symm) | (exact (name_bad (k := k) (by omega) (part_bad (by assumption))).symm) | (exact (name_bad (k := k) (by omega) (part_bad1 (j := j) (by omega) (by assumption))).symm) | (exact (name_end2 (by omega) ha (by omega)).symm) | (exact (name_end1 (by omega) ha (by omega)).symm) | exact name_end3 (by omega) ha (by omega) (by assumption) | exact name_end4 (by omega) ha (by omega) (by assumption)
       exact ⟨(congrArg (Value.bool) e4), (hs2.pick [] rfl (by decide))⟩
   · refine gk false rfl rfl rfl rfl rfl ?_
     refine gk false rfl rfl rfl rfl rfl ?_
     refine gk false rfl rfl rfl rfl rfl ?_
     refine q trivial rfl rfl (pf (v := .bool false) rfl rfl) ?_
     refine q trivial rfl rfl (mv (v := .bool false) rfl) ?_
     refine gk false rfl rfl rfl rfl rfl ?_
     refine gk false rfl rfl rfl rfl rfl ?_
     refine gk false rfl rfl rfl rfl rfl ?_
     refine q trivial rfl rfl (pf (v := .bool false) rfl rfl) ?_
     refine q trivial rfl rfl (asg (v := .bool false) rfl) ?_
     refine nl ?_
     refine nN ?_
     refine rt ?_
     refine fret (v := .bool false) (.tmp .nil) rfl ?_
     have e5 : false = nameOk l := by first | (exact (name_bad (k := k) (by omega) (part_nil (by assumption))).symm) | (exact (name_bad (k := k) (by omega) (part_len0 (by omega))).symm) | (exact (name_bad (k := k) (by omega) (part_bad (by assumption))).symm) | (exact (name_bad (k := k) (by omega) (part_bad1 (j := j) (by omega) (by assumption))).symm) | (exact (name_end2 (by omega) ha (by omega)).symm) | (exact (name_end1 (by omega) ha (by omega)).symm) | exact name_end3 (by omega) ha (by omega) (by assumption) | exact name_end4 (by omega) ha (by omega) (by assumption)
     exact ⟨(congrArg (Value.bool) e5), (hs2.pick [] rfl (by decide))⟩

theorem iQuadValid {Aqs : Option Addr} {cqs : Nat} (qs : List Int) (w : World) (hqs : Sl w [] 1 Aqs qs.length cqs (qs.map I)) : Does Tryz.prog 57 [.slice Aqs qs.length cqs] w (fun v w' => v = .bool (quadOk qs) ∧ SH w w' [] []) := by
 refine fn_enter (N := 10) Tryz.func57 rfl (by kernel_rfl) rfl rfl rfl ?_
 have hs0 : SH w w [] [] := SH.refl w []
 have hqs_m : qs.length ≤ 9223372036854775807 := Nat.le_trans hqs.cap hqs.capMax
 refine sq ?_
 refine rg ?_
 refine q trivial rfl rfl (asg (v := .bool false) rfl) ?_
 refine nl ?_
 refine nN ?_
 refine sq ?_
 refine rg ?_
 refine q trivial rfl rfl (mv (v := .slice Aqs qs.length cqs) rfl) ?_
 refine q trivial rfl rfl (lnA (n := qs.length) sl23 rfl) ?_
 refine q trivial rfl rfl (eqi (k := .i64) (a := ((qs.length : Nat) : Int)) (b := 4) rfl rfl) ?_
 refine q trivial rfl rfl (mv (v := .bool (decide (((qs.length : Nat) : Int) = 4))) rfl) ?_
 refine spd (p := ((qs.length : Nat) : Int) = 4) 6 rfl (fun h1 => ?_) (fun h1 => ?_)
 · refine q ⟨_, rfl, rfl⟩ rfl rfl (mv (v := .slice Aqs qs.length cqs) rfl) ?_
   refine cl ⟨_, rfl, rfl⟩ rfl (iBytesValid (Azs := Aqs) (czs := cqs) (zs := qs) (w := _) (hzs := (hqs.up0 hs0))) ?_
   rintro _ w1 ⟨rfl, hs1'⟩
   have hs1 : SH w w1 [] [] := hs0.call0 hs1'
   clear hs1'
   refine q trivial rfl rfl (pt (v := .bool (isBytes qs)) rfl rfl) ?_
   refine q trivial rfl rfl (asg (v := .bool (isBytes qs)) rfl) ?_
   refine nl ?_
   refine nN ?_
   refine rt ?_
   refine fret (v := .bool (isBytes qs)) (.tmp .nil) rfl ?_
   have e1 : (isBytes qs) = quadOk qs := by simp [quadOk, h1] <;> omega
   exact ⟨(congrArg (Value.bool) e1), hs1⟩
 · refine gk false rfl rfl rfl rfl rfl ?_
   refine gk false rfl rfl rfl rfl rfl ?_
   refine q trivial rfl rfl (pf (v := .bool false) rfl rfl) ?_
   refine q trivial rfl rfl (asg (v := .bool false) rfl) ?_
   refine nl ?_
   refine nN ?_
   refine rt ?_
   refine fret (v := .bool false) (.tmp .nil) rfl ?_
   have e2 : false = quadOk qs := by simp [quadOk, h1] <;> omega
   exact ⟨(congrArg (Value.bool) e2), hs0⟩

theorem sQuadValid {Aqs : Option Addr} {cqs : Nat} (qs : List Int) (w : World) (hqs : Sl w [] 1 Aqs qs.length cqs (qs.map I)) : Does Tryz.prog 49 [.slice Aqs qs.length cqs] w (fun v w' => v = .bool (quadOk qs) ∧ SH w w' [] []) := by
 refine fn_enter (N := 10) Tryz.func49 rfl (by kernel_rfl) rfl rfl rfl ?_
 have hs0 : SH w w [] [] := SH.refl w []
 have hqs_m : qs.length ≤ 9223372036854775807 := Nat.le_trans hqs.cap hqs.capMax
 refine sq ?_
 refine rg ?_
 refine q trivial rfl rfl (asg (v := .bool false) rfl) ?_
 refine nl ?_
 refine nN ?_
 refine sq ?_
 refine rg ?_
 refine q trivial rfl rfl (mv (v := .slice Aqs qs.length cqs) rfl) ?_
 refine cl trivial rfl (sBytesValid (Azs := Aqs) (czs := cqs) (zs := qs) (w := _) (hzs := (hqs.up0 hs0))) ?_
 rintro _ w1 ⟨rfl, hs1'⟩
 have hs1 : SH w w1 [] [] := hs0.call0 hs1'
 clear hs1'
 refine q trivial rfl rfl (mv (v := .bool (isBytes qs)) rfl) ?_
 refine spl (b := isBytes qs) 5 rfl (fun h1 => ?_) (fun h1 => ?_)
 · refine q ⟨_, rfl, rfl⟩ rfl rfl (mv (v := .slice Aqs qs.length cqs) rfl) ?_
   refine q ⟨_, rfl, rfl⟩ rfl rfl (lnA (n := qs.length) sl23 rfl) ?_
   refine q ⟨_, rfl, rfl⟩ rfl rfl (eqi (k := .i64) (a := ((qs.length : Nat) : Int)) (b := 4) rfl rfl) ?_
   refine q trivial rfl rfl (pt (v := .bool (decide (((qs.length : Nat) : Int) = 4))) rfl rfl) ?_
   refine q trivial rfl rfl (asg (v := .bool (decide (((qs.length : Nat) : Int) = 4))) rfl) ?_
   refine nl ?_
   refine nN ?_
   refine rt ?_
   refine fret (v := .bool (decide (((qs.length : Nat) : Int) = 4))) (.tmp .nil) rfl ?_
   have e1 : (decide (((qs.length : Nat) : Int) = 4)) = quadOk qs := by simp [quadOk, h1] <;> omega
   exact ⟨(congrArg (Value.bool) e1), hs1⟩
 · refine gk false rfl rfl rfl rfl rfl ?_
   refine gk false rfl rfl rfl rfl rfl ?_
   refine gk false rfl rfl rfl rfl rfl ?_
   refine q trivial rfl rfl (pf (v := .bool false) rfl rfl) ?_
   refine q trivial rfl rfl (asg (v := .bool false) rfl) ?_
   refine nl ?_
   refine nN ?_
   refine rt ?_
   refine fret (v := .bool false) (.tmp .nil) rfl ?_
   have e2 : false = quadOk qs := by simp [quadOk, h1] <;> omega
   exact ⟨(congrArg (Value.bool) e2), hs1⟩

theorem iAddressValid (ak : Int) {Aaq : Option Addr} {caq : Nat} (aq : List Int) (an : List UInt8) (apt : Int) (w : World) (haq : Sl w [] 1 Aaq aq.length caq (aq.map I)) (han_n : an.length ≤ 1099511627776) : Does Tryz.prog 45 [.agg #[I ak, .slice Aaq aq.length caq, Str an, I apt]] w (fun v w' => v = .bool (addrOk ak aq an apt) ∧ SH w w' [] []) := by
 refine fn_enter (N := 36) Tryz.func45 rfl (by kernel_rfl) rfl rfl rfl ?_
 have hs0 : SH w w [] [] := SH.refl w []
 have haq_m : aq.length ≤ 9223372036854775807 := Nat.le_trans haq.cap haq.capMax
 refine sq ?_
 refine rg ?_
 refine bx (v := .agg #[I ak, .slice Aaq aq.length caq, Str an, I apt]) (cs := [I ak, .slice Aaq aq.length caq, Str an, I apt]) hs0 rfl rfl trivial rfl (fun b1 w1 (hs1 : SH w w1 [] [.blk b1 34 [I ak, .slice Aaq aq.length caq, Str an, I apt]]) => ?_)
 refine q trivial rfl rfl (asg (v := .bool false) rfl) ?_
 refine nl ?_
 refine nN ?_
 refine sq ?_
 refine sq ?_
 refine rg ?_
 refine q trivial rfl rfl (fa 0 fo34_0 rfl) ?_
 refine q trivial rfl rfl (ld (v := I ak) hs1 0 rfl rfl rfl one3) ?_
 refine nl ?_
 refine nN ?_
 refine bl ?_
 refine sq ?_
 refine rg ?_
 refine q trivial rfl rfl (eqi (k := .i64) (a := ak) (b := 1) rfl rfl) ?_
 refine q trivial rfl rfl (asg (v := .bool (decide (ak = 1))) rfl) ?_
 refine nl ?_
 refine nN ?_
 refine cdd (p := ak = 1) rfl (fun h1 => ?_) (fun h1 => ?_)
 · refine sq ?_
   refine rg ?_
   refine q trivial rfl rfl (fa 1 fo34_1 rfl) ?_
   refine q trivial rfl rfl (ld (v := .slice Aaq aq.length caq) hs1 0 rfl rfl rfl one23) ?_
   refine cl trivial rfl (iQuadValid (Aqs := Aaq) (cqs := caq) (qs := aq) (w := _) (hqs := (haq.up0 hs1))) ?_
   rintro _ w2 ⟨rfl, hs2'⟩
   have hs2 : SH w w2 [] [.blk b1 34 [I ak, .slice Aaq aq.length caq, Str an, I apt]] := hs1.call0 hs2'
   clear hs2'
   refine q trivial rfl rfl (mv (v := .bool (quadOk aq)) rfl) ?_
   refine spl (b := quadOk aq) 10 rfl (fun h2 => ?_) (fun h2 => ?_)
   · refine q ⟨_, rfl, rfl⟩ rfl rfl (fa 2 fo34_2 rfl) ?_
     refine q ⟨_, rfl, rfl⟩ rfl rfl (ld (v := Str an) hs2 0 rfl rfl rfl one9) ?_
     refine q ⟨_, rfl, rfl⟩ rfl rfl (eqs (l := an) (m := []) rfl rfl) ?_
     refine q trivial rfl rfl (pt (v := .bool (decide (an = []))) rfl rfl) ?_
     refine q trivial rfl rfl (mv (v := .bool (decide (an = []))) rfl) ?_
     refine spd (p := an = []) 15 rfl (fun h3 => ?_) (fun h3 => ?_)
     · refine q ⟨_, rfl, rfl⟩ rfl rfl (fa 3 fo34_3 rfl) ?_
       refine q ⟨_, rfl, rfl⟩ rfl rfl (ld (v := I apt) hs2 0 rfl rfl rfl one3) ?_
       refine cl ⟨_, rfl, rfl⟩ rfl (isPort (x := apt) (w := _)) ?_
       rintro _ w3 ⟨rfl, hs3'⟩
       have hs3 : SH w w3 [] [.blk b1 34 [I ak, .slice Aaq aq.length caq, Str an, I apt]] := hs2.call0 hs3'
       clear hs3'
       refine q trivial rfl rfl (pt (v := .bool (decide (0 ≤ apt ∧ apt ≤ 65535))) rfl rfl) ?_
       refine q trivial rfl rfl (asg (v := .bool (decide (0 ≤ apt ∧ apt ≤ 65535))) rfl) ?_
       refine nl ?_
       refine nN ?_
       refine rt (bR (tR ?_))
       refine fret (v := .bool (decide (0 ≤ apt ∧ apt ≤ 65535))) (.tmp .nil) rfl ?_
       have e1 : (decide (0 ≤ apt ∧ apt ≤ 65535)) = addrOk ak aq an apt := by first | (rw [addr_is1 (by assumption)]; simp [h1, h2, h3]; done) | (rw [addr_is3 (by assumption)]; simp [h1, h2, h3]; done) | (rw [addr_is3 (by assumption)]; have hq0 : aq = [] := List.eq_nil_of_length_eq_zero (by omega); simp [hq0, h1, h2, h3]; done) | (rw [addr_is3 (by assumption)]; have hq0 : ¬ aq = [] := fun he => absurd (by rw [he]; rfl : ((aq.length : Nat) : Int) = 0) (by assumption); simp [hq0, h1, h2, h3]; done) | (rw [addr_is1 (by assumption)]; have hp0 : 0 ≤ apt ∧ apt ≤ 65535 := Decidable.not_not.1 (by assumption); simp [hp0.1, hp0.2, h1, h2, h3]; done) | (rw [addr_is3 (by assumption)]; have hp0 : 0 ≤ apt ∧ apt ≤ 65535 := Decidable.not_not.1 (by assumption); simp [hp0.1, hp0.2, h1, h2, h3]; done) | exact (addr_port _ _ (by assumption)).symm | exact (addr_no _ _ _ (by assumption) (by assumption)).symm
       exact ⟨(congrArg (Value.bool) e1), (hs3.pick [] rfl (by decide))⟩
     · refine gk false rfl rfl rfl rfl rfl ?_
       refine gk false rfl rfl rfl rfl rfl ?_
       refine gk false rfl rfl rfl rfl rfl ?_
       refine q trivial rfl rfl (pf (v := .bool false) rfl rfl) ?_
       refine q trivial rfl rfl (asg (v := .bool false) rfl) ?_
       refine nl ?_
       refine nN ?_
       refine rt (bR (tR ?_))
       refine fret (v := .bool false) (.tmp .nil) rfl ?_
       have e2 : false = addrOk ak aq an apt := by first | (rw [addr_is1 (by assumption)]; simp [h1, h2, h3]; done) | (rw [addr_is3 (by assumption)]; simp [h1, h2, h3]; done) | (rw [addr_is3 (by assumption)]; have hq0 : aq = [] := List.eq_nil_of_length_eq_zero (by omega); simp [hq0, h1, h2, h3]; done) | (rw [addr_is3 (by assumption)]; have hq0 : ¬ aq = [] := fun he => absurd (by rw [he]; rfl : ((aq.length : Nat) : Int) = 0) (by assumption); simp [hq0, h1, h2, h3]; done) | (rw [addr_is1 (by assumption)]; have hp0 : 0 ≤ apt ∧ apt ≤ 65535 := Decidable.not_not.1 (by assumption); simp [hp0.1, hp0.2, h1, h2, h3]; done) | (rw [addr_is3 (by assumption)]; have hp0 : 0 ≤ apt ∧ apt ≤ 65535 := Decidable.not_not.1 (by assumption); simp [hp0.1, hp0.2, h1, h2, h3]; done) | exact (addr_port _ _ (by assumption)).symm | exact (addr_no _ _ _ (by assumption) (by assumption)).symm
       exact ⟨(congrArg (Value.bool) e2), (hs2.pick [] rfl (by decide))⟩
   · refine gk false rfl rfl rfl rfl rfl ?_
     refine gk false rfl rfl rfl rfl rfl ?_
     refine gk false rfl rfl rfl rfl rfl ?_
     refine q trivial rfl rfl (pf (v := .bool false) rfl rfl) ?_
     refine q trivial rfl rfl (mv (v := .bool false) rfl) ?_
     refine gk false rfl rfl rfl rfl rfl ?_
     refine gk false rfl rfl rfl rfl rfl ?_
     refine gk false rfl rfl rfl rfl rfl ?_
     refine q trivial rfl rfl (pf (v := .bool false) rfl rfl) ?_
     refine q trivial rfl rfl (asg (v := .bool false) rfl) ?_
     refine nl ?_
     refine nN ?_
     refine rt (bR (tR ?_))
     refine fret (v := .bool false) (.tmp .nil) rfl ?_
     have e3 : false = addrOk ak aq an apt := by first | (rw [addr_is1 (by assumption)]; simp [h1, h2]; done) | (rw [addr_is3 (by assumption)]; simp [h1, h2]; done) | (rw [addr_is3 (by assumption)]; have hq0 : aq = [] := List.eq_nil_of_length_eq_zero (by omega); simp [hq0, h1, h2]; done) | (rw [addr_is3 (by assumption)]; have hq0 : ¬ aq = [] := fun he => absurd (by rw [he]; rfl : ((aq.length : Nat) : Int) = 0) (by assumption); simp [hq0, h1, h2]; done) | (rw [addr_is1 (by assumption)]; have hp0 : 0 ≤ apt ∧ apt ≤ 65535 := Decidable.not_not.1 (by assumption); simp [hp0.1, hp0.2, h1, h2]; done) | (rw [addr_is3 (by assumption)]; have hp0 : 0 ≤ apt ∧ apt ≤ 65535 := Decidable.not_not.1 (by assumption); simp [hp0.1, hp0.2, h1, h2]; done) | exact (addr_port _ _ (by assumption)).symm | exact (addr_no _ _ _ (by assumption) (by assumption)).symm
     exact ⟨(congrArg (Value.bool) e3), (hs2.pick [] rfl (by decide))⟩
 · refine sq ?_
   refine rg ?_
   refine q trivial rfl rfl (eqi (k := .i64) (a := ak) (b := 3) rfl rfl) ?_
   refine q trivial rfl rfl (asg (v := .bool (decide (ak = 3))) rfl) ?_
   refine nl ?_
   refine nN ?_
   refine cdd (p := ak = 3) rfl (fun h4 => ?_) (fun h4 => ?_)
   · refine sq ?_
     refine rg ?_
     refine q trivial rfl rfl (fa 2 fo34_2 rfl) ?_
     refine q trivial rfl rfl (ld (v := Str an) hs1 0 rfl rfl rfl one9) ?_
     refine cl trivial rfl (iNameValid (l := an) (w := _) (hl_n := (by first | omega | (simp; done) | (simp; omega)))) ?_
     rintro _ w4 ⟨rfl, hs4'⟩
     have hs4 : SH w w4 [] [.blk b1 34 [I ak, .slice Aaq aq.length caq, Str an, I apt]] := hs1.call0 hs4'
     clear hs4'
     refine q trivial rfl rfl (mv (v := .bool (nameOk an)) rfl) ?_
     refine spl (b := nameOk an) 25 rfl (fun h5 => ?_) (fun h5 => ?_)
     · refine q ⟨_, rfl, rfl⟩ rfl rfl (fa 1 fo34_1 rfl) ?_
       refine q ⟨_, rfl, rfl⟩ rfl rfl (ld (v := .slice Aaq aq.length caq) hs4 0 rfl rfl rfl one23) ?_
       refine q ⟨_, rfl, rfl⟩ rfl rfl (lnA (n := aq.length) sl23 rfl) ?_
       refine q ⟨_, rfl, rfl⟩ rfl rfl (eqi (k := .i64) (a := ((aq.length : Nat) : Int)) (b := 0) rfl rfl) ?_
       refine q trivial rfl rfl (pt (v := .bool (decide (((aq.length : Nat) : Int) = 0))) rfl rfl) ?_
       refine q trivial rfl rfl (mv (v := .bool (decide (((aq.length : Nat) : Int) = 0))) rfl) ?_
       refine spd (p := ((aq.length : Nat) : Int) = 0) 31 rfl (fun h6 => ?_) (fun h6 => ?_)
       · refine q ⟨_, rfl, rfl⟩ rfl rfl (fa 3 fo34_3 rfl) ?_
         refine q ⟨_, rfl, rfl⟩ rfl rfl (ld (v := I apt) hs4 0 rfl rfl rfl one3) ?_
         refine cl ⟨_, rfl, rfl⟩ rfl (isPort (x := apt) (w := _)) ?_
         rintro _ w5 ⟨rfl, hs5'⟩
         have hs5 : SH w w5 [] [.blk b1 34 [I ak, .slice Aaq aq.length caq, Str an, I apt]] := hs4.call0 hs5'
         clear hs5'
         refine q trivial rfl rfl (pt (v := .bool (decide (0 ≤ apt ∧ apt ≤ 65535))) rfl rfl) ?_
         refine q trivial rfl rfl (asg (v := .bool (decide (0 ≤ apt ∧ apt ≤ 65535))) rfl) ?_
         refine nl ?_
         refine nN ?_
         refine rt (bR (tR ?_))
         refine fret (v := .bool (decide (0 ≤ apt ∧ apt ≤ 65535))) (.tmp .nil) rfl ?_
         have e4 : (decide (0 ≤ apt ∧ apt ≤ 65535)) = addrOk ak aq an apt := by first | (rw [addr_is1 (by assumption)]; simp [h1, h4, h5, h6]; done) | (rw [addr_is3 (by assumption)]; simp [h1, h4, h5, h6]; done) | (rw [addr_is3 (by assumption)]; have hq0 : aq = [] := List.eq_nil_of_length_eq_zero (by omega); simp [hq0, h1, h4, h5, h6]; done) | (rw [addr_is3 (by assumption)]; have hq0 : ¬ aq = [] := fun he => absurd (by rw [he]; rfl : ((aq.length : Nat) : Int) = 0) (by assumption); simp [hq0, h1, h4, h5, h6]; done) | (rw [addr_is1 (by assumption)]; have hp0 : 0 ≤ apt ∧ apt ≤ 65535 := Decidable.not_not.1 (by assumption); simp [hp0.1, hp0.2, h1, h4, h5, h6]; done) | (rw [addr_is3 (by assumption)]; have hp0 : 0 ≤ apt ∧ apt ≤ 65535 := Decidable.not_not.1 (by assumption); simp [hp0.1, hp0.2, h1, h4, h5, h6]; done) | exact (addr_port _ _ (by assumption)).symm | exact (addr_no _ _ _ (by assumption) (by assumption)).symm
         exact ⟨(congrArg (Value.bool) e4), (hs5.pick [] rfl (by decide))⟩
       · refine gk false rfl rfl rfl rfl rfl ?_
         refine gk false rfl rfl rfl rfl rfl ?_
         refine gk false rfl rfl rfl rfl rfl ?_
         refine q trivial rfl rfl (pf (v := .bool false) rfl rfl) ?_
         refine q trivial rfl rfl (asg (v := .bool false) rfl) ?_
         refine nl ?_
         refine nN ?_
         refine rt (bR (tR ?_))
         refine fret (v := .bool false) (.tmp .nil) rfl ?_
         have e5 : false = addrOk ak aq an apt := by first | (rw [addr_is1 (by assumption)]; simp [h1, h4, h5, h6]; done) | (rw [addr_is3 (by assumption)]; simp [h1, h4, h5, h6]; done) | (rw [addr_is3 (by assumption)]; have hq0 : aq = [] := List.eq_nil_of_length_eq_zero (by omega); simp [hq0, h1, h4, h5, h6]; done) | (rw [addr_is3 (by assumption)]; have hq0 : ¬ aq = [] := fun he => absurd (by rw [he]; rfl : ((aq.length : Nat) : Int) = 0) (by assumption); simp [hq0, h1, h4, h5, h6]; done) | (rw [addr_is1 (by assumption)]; have hp0 : 0 ≤ apt ∧ apt ≤ 65535 := Decidable.not_not.1 (by assumption); simp [hp0.1, hp0.2, h1, h4, h5, h6]; done) | (rw [addr_is3 (by assumption)]; have hp0 : 0 ≤ apt ∧ apt ≤ 65535 := Decidable.not_not.1 (by assumption); simp [hp0.1, hp0.2, h1, h4, h5, h6]; done) | exact (addr_port _ _ (by assumption)).symm | exact (addr_no _ _ _ (by assumption) (by assumption)).symm
         exact ⟨(congrArg (Value.bool) e5), (hs4.pick [] rfl (by decide))⟩
     · refine gk false rfl rfl rfl rfl rfl ?_
       refine gk false rfl rfl rfl rfl rfl ?_
       refine gk false rfl rfl rfl rfl rfl ?_
       refine gk false rfl rfl rfl rfl rfl ?_
       refine q trivial rfl rfl (pf (v := .bool false) rfl rfl) ?_
       refine q trivial rfl rfl (mv (v := .bool false) rfl) ?_
       refine gk false rfl rfl rfl rfl rfl ?_
       refine gk false rfl rfl rfl rfl rfl ?_
       refine gk false rfl rfl rfl rfl rfl ?_
       refine q trivial rfl rfl (pf (v := .bool false) rfl rfl) ?_
       refine q trivial rfl rfl (asg (v := .bool false) rfl) ?_
       refine nl ?_
       refine nN ?_
       refine rt (bR (tR ?_))
       refine fret (v := .bool false) (.tmp .nil) rfl ?_
       have e6 : false = addrOk ak aq an apt := by first | (rw [addr_is1 (by assumption)]; simp [h1, h4, h5]; done) | (rw [addr_is3 (by assumption)]; simp [h1, h4, h5]; done) | (rw [addr_is3 (by assumption)]; have hq0 : aq = [] := List.eq_nil_of_length_eq_zero (by omega); simp [hq0, h1, h4, h5]; done) | (rw [addr_is3 (by assumption)]; have hq0 : ¬ aq = [] := fun he => absurd (by rw [he]; rfl : ((aq.length : Nat) : Int) = 0) (by assumption); simp [hq0, h1, h4, h5]; done) | (rw [addr_is1 (by assumption)]; have hp0 : 0 ≤ apt ∧ apt ≤ 65535 := Decidable.not_not.1 (by assumption); simp [hp0.1, hp0.2, h1, h4, h5]; done) | (rw [addr_is3 (by assumption)]; have hp0 : 0 ≤ apt ∧ apt ≤ 65535 := Decidable.not_not.1 (by assumption); simp [hp0.1, hp0.2, h1, h4, h5]; done) | exact (addr_port _ _ (by assumption)).symm | exact (addr_no _ _ _ (by assumption) (by assumption)).symm
       exact ⟨(congrArg (Value.bool) e6), (hs4.pick [] rfl (by decide))⟩
   · refine sk ?_
     refine bN ?_
     refine nN ?_
     refine sq ?_
     refine rg ?_
     refine q trivial rfl rfl (asg (v := .bool false) rfl) ?_
     refine nl ?_
     refine nN ?_
     refine rt ?_
     refine fret (v := .bool false) (.tmp .nil) rfl ?_
     have e7 : false = addrOk ak aq an apt := by first | (rw [addr_is1 (by assumption)]; simp [h1, h4]; done) | (rw [addr_is3 (by assumption)]; simp [h1, h4]; done) | (rw [addr_is3 (by assumption)]; have hq0 : aq = [] := List.eq_nil_of_length_eq_zero (by omega); simp [hq0, h1, h4]; done) | (rw [addr_is3 (by assumption)]; have hq0 : ¬ aq = [] := fun he => absurd (by rw [he]; rfl : ((aq.length : Nat) : Int) = 0) (by assumption); simp [hq0, h1, h4]; done) | (rw [addr_is1 (by assumption)]; have hp0 : 0 ≤ apt ∧ apt ≤ 65535 := Decidable.not_not.1 (by assumption); simp [hp0.1, hp0.2, h1, h4]; done) | (rw [addr_is3 (by assumption)]; have hp0 : 0 ≤ apt ∧ apt ≤ 65535 := Decidable.not_not.1 (by assumption); simp [hp0.1, hp0.2, h1, h4]; done) | exact (addr_port _ _ (by assumption)).symm | exact (addr_no _ _ _ (by assumption) (by assumption)).symm
     exact ⟨(congrArg (Value.bool) e7), (hs1.pick [] rfl (by decide))⟩

theorem sAddressValid (ak : Int) {Aaq : Option Addr} {caq : Nat} (aq : List Int) (an : List UInt8) (apt : Int) (w : World) (haq : Sl w [] 1 Aaq aq.length caq (aq.map I)) (han_n : an.length ≤ 1099511627776) : Does Tryz.prog 35 [.agg #[I ak, .slice Aaq aq.length caq, Str an, I apt]] w (fun v w' => v = .bool (addrOk ak aq an apt) ∧ SH w w' [] []) := by
 refine fn_enter (N := 30) Tryz.func35 rfl (by kernel_rfl) rfl rfl rfl ?_
 have hs0 : SH w w [] [] := SH.refl w []
 have haq_m : aq.length ≤ 9223372036854775807 := Nat.le_trans haq.cap haq.capMax
 refine sq ?_
 refine rg ?_
 refine bx (v := .agg #[I ak, .slice Aaq aq.length caq, Str an, I apt]) (cs := [I ak, .slice Aaq aq.length caq, Str an, I apt]) hs0 rfl rfl trivial rfl (fun b1 w1 (hs1 : SH w w1 [] [.blk b1 34 [I ak, .slice Aaq aq.length caq, Str an, I apt]]) => ?_)
 refine q trivial rfl rfl (asg (v := .bool false) rfl) ?_
 refine nl ?_
 refine nN ?_
 refine sq ?_
 refine sq ?_
 refine rg ?_
 refine q trivial rfl rfl (fa 3 fo34_3 rfl) ?_
 refine q trivial rfl rfl (ld (v := I apt) hs1 0 rfl rfl rfl one3) ?_
 refine cl trivial rfl (sIn (x := apt) (lo := 0) (hi := 65535) (w := _)) ?_
 rintro _ w2 ⟨rfl, hs2'⟩
 have hs2 : SH w w2 [] [.blk b1 34 [I ak, .slice Aaq aq.length caq, Str an, I apt]] := hs1.call0 hs2'
 clear hs2'
 refine q trivial rfl rfl (nd (p := 0 ≤ apt ∧ apt ≤ 65535) rfl) ?_
 refine nl ?_
 refine nN ?_
 refine cdd (p := ¬ (0 ≤ apt ∧ apt ≤ 65535)) rfl (fun h1 => ?_) (fun h1 => ?_)
 · refine sq ?_
   refine rg ?_
   refine q trivial rfl rfl (asg (v := .bool false) rfl) ?_
   refine nl ?_
   refine nN ?_
   refine rt (tR ?_)
   refine fret (v := .bool false) (.tmp .nil) rfl ?_
   have e1 : false = addrOk ak aq an apt := by first | (rw [addr_is1 (by assumption)]; simp [h1]; done) | (rw [addr_is3 (by assumption)]; simp [h1]; done) | (rw [addr_is3 (by assumption)]; have hq0 : aq = [] := List.eq_nil_of_length_eq_zero (by omega); simp [hq0, h1]; done) | (rw [addr_is3 (by assumption)]; have hq0 : ¬ aq = [] := fun he => absurd (by rw [he]; rfl : ((aq.length : Nat) : Int) = 0) (by assumption); simp [hq0, h1]; done) | (rw [addr_is1 (by assumption)]; have hp0 : 0 ≤ apt ∧ apt ≤ 65535 := Decidable.not_not.1 (by assumption); simp [hp0.1, hp0.2, h1]; done) | (rw [addr_is3 (by assumption)]; have hp0 : 0 ≤ apt ∧ apt ≤ 65535 := Decidable.not_not.1 (by assumption); simp [hp0.1, hp0.2, h1]; done) | exact (addr_port _ _ (by assumption)).symm | exact (addr_no _ _ _ (by assumption) (by assumption)).symm
   exact ⟨(congrArg (Value.bool) e1), (hs2.pick [] rfl (by decide))⟩
 · refine sk ?_
   refine nN ?_
   refine sq ?_
   refine sq ?_
   refine rg ?_
   refine q trivial rfl rfl (fa 0 fo34_0 rfl) ?_
   refine q trivial rfl rfl (ld (v := I ak) hs2 0 rfl rfl rfl one3) ?_
   refine nl ?_
   refine nN ?_
   refine bl ?_
   refine sq ?_
   refine rg ?_
   refine q trivial rfl rfl (eqi (k := .i64) (a := ak) (b := 1) rfl rfl) ?_
   refine q trivial rfl rfl (asg (v := .bool (decide (ak = 1))) rfl) ?_
   refine nl ?_
   refine nN ?_
   refine cdd (p := ak = 1) rfl (fun h2 => ?_) (fun h2 => ?_)
   · refine sq ?_
     refine rg ?_
     refine q trivial rfl rfl (fa 1 fo34_1 rfl) ?_
     refine q trivial rfl rfl (ld (v := .slice Aaq aq.length caq) hs2 0 rfl rfl rfl one23) ?_
     refine cl trivial rfl (sQuadValid (Aqs := Aaq) (cqs := caq) (qs := aq) (w := _) (hqs := (haq.up0 hs2))) ?_
     rintro _ w3 ⟨rfl, hs3'⟩
     have hs3 : SH w w3 [] [.blk b1 34 [I ak, .slice Aaq aq.length caq, Str an, I apt]] := hs2.call0 hs3'
     clear hs3'
     refine q trivial rfl rfl (mv (v := .bool (quadOk aq)) rfl) ?_
     refine spl (b := quadOk aq) 14 rfl (fun h3 => ?_) (fun h3 => ?_)
     · refine q ⟨_, rfl, rfl⟩ rfl rfl (fa 2 fo34_2 rfl) ?_
       refine q ⟨_, rfl, rfl⟩ rfl rfl (ld (v := Str an) hs3 0 rfl rfl rfl one9) ?_
       refine q ⟨_, rfl, rfl⟩ rfl rfl (eqs (l := an) (m := []) rfl rfl) ?_
       refine q trivial rfl rfl (pt (v := .bool (decide (an = []))) rfl rfl) ?_
       refine q trivial rfl rfl (asg (v := .bool (decide (an = []))) rfl) ?_
       refine nl ?_
       refine nN ?_
       refine rt (bR (tR ?_))
       refine fret (v := .bool (decide (an = []))) (.tmp .nil) rfl ?_
       have e2 : (decide (an = [])) = addrOk ak aq an apt := by first | (rw [addr_is1 (by assumption)]; simp [h1, h2, h3]; done) | (rw [addr_is3 (by assumption)]; simp [h1, h2, h3]; done) | (rw [addr_is3 (by assumption)]; have hq0 : aq = [] := List.eq_nil_of_length_eq_zero (by omega); simp [hq0, h1, h2, h3]; done) | (rw [addr_is3 (by assumption)]; have hq0 : ¬ aq = [] := fun he => absurd (by rw [he]; rfl : ((aq.length : Nat) : Int) = 0) (by assumption); simp [hq0, h1, h2, h3]; done) | (rw [addr_is1 (by assumption)]; have hp0 : 0 ≤ apt ∧ apt ≤ 65535 := Decidable.not_not.1 (by assumption); simp [hp0.1, hp0.2, h1, h2, h3]; done) | (rw [addr_is3 (by assumption)]; have hp0 : 0 ≤ apt ∧ apt ≤ 65535 := Decidable.not_not.1 (by assumption); simp [hp0.1, hp0.2, h1, h2, h3]; done) | exact (addr_port _ _ (by assumption)).symm | exact (addr_no _ _ _ (by assumption) (by assumption)).symm
       exact ⟨(congrArg (Value.bool) e2), (hs3.pick [] rfl (by decide))⟩
     · refine gk false rfl rfl rfl rfl rfl ?_
       refine gk false rfl rfl rfl rfl rfl ?_
       refine gk false rfl rfl rfl rfl rfl ?_
       refine q trivial rfl rfl (pf (v := .bool false) rfl rfl) ?_
       refine q trivial rfl rfl (asg (v := .bool false) rfl) ?_
       refine nl ?_
       refine nN ?_
       refine rt (bR (tR ?_))
       refine fret (v := .bool false) (.tmp .nil) rfl ?_
       have e3 : false = addrOk ak aq an apt := by first | (rw [addr_is1 (by assumption)]; simp [h1, h2, h3]; done) | (rw [addr_is3 (by assumption)]; simp [h1, h2, h3]; done) | (rw [addr_is3 (by assumption)]; have hq0 : aq = [] := List.eq_nil_of_length_eq_zero (by omega); simp [hq0, h1, h2, h3]; done) | (rw [addr_is3 (by assumption)]; have hq0 : ¬ aq = [] := fun he => absurd (by rw [he]; rfl : ((aq.length : Nat) : Int) = 0) (by assumption); simp [hq0, h1, h2, h3]; done) | (rw [addr_is1 (by assumption)]; have hp0 : 0 ≤ apt ∧ apt ≤ 65535 := Decidable.not_not.1 (by assumption); simp [hp0.1, hp0.2, h1, h2, h3]; done) | (rw [addr_is3 (by assumption)]; have hp0 : 0 ≤ apt ∧ apt ≤ 65535 := Decidable.not_not.1 (by assumption); simp [hp0.1, hp0.2, h1, h2, h3]; done) | exact (addr_port _ _ (by assumption)).symm | exact (addr_no _ _ _ (by assumption) (by assumption)).symm
       exact ⟨(congrArg (Value.bool) e3), (hs3.pick [] rfl (by decide))⟩
   · refine sq ?_
     refine rg ?_
     refine q trivial rfl rfl (eqi (k := .i64) (a := ak) (b := 3) rfl rfl) ?_
     refine q trivial rfl rfl (asg (v := .bool (decide (ak = 3))) rfl) ?_
     refine nl ?_
     refine nN ?_
     refine cdd (p := ak = 3) rfl (fun h4 => ?_) (fun h4 => ?_)
     · refine sq ?_
       refine rg ?_
       refine q trivial rfl rfl (fa 2 fo34_2 rfl) ?_
       refine q trivial rfl rfl (ld (v := Str an) hs2 0 rfl rfl rfl one9) ?_
       refine cl trivial rfl (sNameValid (l := an) (w := _) (hl_n := (by first | omega | (simp; done) | (simp; omega)))) ?_
       rintro _ w4 ⟨rfl, hs4'⟩
       have hs4 : SH w w4 [] [.blk b1 34 [I ak, .slice Aaq aq.length caq, Str an, I apt]] := hs2.call0 hs4'
       clear hs4'
       refine q trivial rfl rfl (mv (v := .bool (nameOk an)) rfl) ?_
       refine spl (b := nameOk an) 24 rfl (fun h5 => ?_) (fun h5 => ?_)
       · refine q ⟨_, rfl, rfl⟩ rfl rfl (fa 1 fo34_1 rfl) ?_
         refine q ⟨_, rfl, rfl⟩ rfl rfl (ld (v := .slice Aaq aq.length caq) hs4 0 rfl rfl rfl one23) ?_
         refine q ⟨_, rfl, rfl⟩ rfl rfl (lnA (n := aq.length) sl23 rfl) ?_
         refine q ⟨_, rfl, rfl⟩ rfl rfl (eqi (k := .i64) (a := ((aq.length : Nat) : Int)) (b := 0) rfl rfl) ?_
         refine q trivial rfl rfl (pt (v := .bool (decide (((aq.length : Nat) : Int) = 0))) rfl rfl) ?_
         refine q trivial rfl rfl (asg (v := .bool (decide (((aq.length : Nat) : Int) = 0))) rfl) ?_
         refine nl ?_
         refine nN ?_
         refine rt (bR (tR ?_))
         refine fret (v := .bool (decide (((aq.length : Nat) : Int) = 0))) (.tmp .nil) rfl ?_
         have e4 : (decide (((aq.length : Nat) : Int) = 0)) = addrOk ak aq an apt := by first | (rw [addr_is1 (by assumption)]; simp [h1, h2, h4, h5]; done) | (rw [addr_is3 (by assumption)]; simp [h1, h2, h4, h5]; done) | (rw [addr_is3 (by assumption)]; have hq0 : aq = [] := List.eq_nil_of_length_eq_zero (by omega); simp [hq0, h1, h2, h4, h5]; done) | (rw [addr_is3 (by assumption)]; have hq0 : ¬ aq = [] := fun he => absurd (by rw [he]; rfl : ((aq.length : Nat) : Int) = 0) (by assumption); simp [hq0, h1, h2, h4, h5]; done) | (rw [addr_is1 (by assumption)]; have hp0 : 0 ≤ apt ∧ apt ≤ 65535 := Decidable.not_not.1 (by assumption); simp [hp0.1, hp0.2, h1, h2, h4, h5]; done) | (rw [addr_is3 (by assumption)]; have hp0 : 0 ≤ apt ∧ apt ≤ 65535 := Decidable.not_not.1 (by assumption); simp [hp0.1, hp0.2, h1, h2, h4, h5]; done) | exact (addr_port _ _ (by assumption)).symm | exact (addr_no _ _ _ (by assumption) (by assumption)).symm
         exact ⟨(congrArg (Value.bool) e4), (hs4.pick [] rfl (by decide))⟩
       · refine gk false rfl rfl rfl rfl rfl ?_
         refine gk false rfl rfl rfl rfl rfl ?_
         refine gk false rfl rfl rfl rfl rfl ?_
         refine gk false rfl rfl rfl rfl rfl ?_
         refine q trivial rfl rfl (pf (v := .bool false) rfl rfl) ?_
         refine q trivial rfl rfl (asg (v := .bool false) rfl) ?_
         refine nl ?_
         refine nN ?_
         refine rt (bR (tR ?_))
         refine fret (v := .bool false) (.tmp .nil) rfl ?_
         have e5 : false = addrOk ak aq an apt := by first | (rw [addr_is1 (by assumption)]; simp [h1, h2, h4, h5]; done) | (rw [addr_is3 (by assumption)]; simp [h1, h2, h4, h5]; done) | (rw [addr_is3 (by assumption)]; have hq0 : aq = [] := List.eq_nil_of_length_eq_zero (by omega); simp [hq0, h1, h2, h4, h5]; done) | (rw [addr_is3 (by assumption)]; have hq0 : ¬ aq = [] := fun he => absurd (by rw [he]; rfl : ((aq.length : Nat) : Int) = 0) (by assumption); simp [hq0, h1, h2, h4, h5]; done) | (rw [addr_is1 (by assumption)]; have hp0 : 0 ≤ apt ∧ apt ≤ 65535 := Decidable.not_not.1 (by assumption); simp [hp0.1, hp0.2, h1, h2, h4, h5]; done) | (rw [addr_is3 (by assumption)]; have hp0 : 0 ≤ apt ∧ apt ≤ 65535 := Decidable.not_not.1 (by assumption); simp [hp0.1, hp0.2, h1, h2, h4, h5]; done) | exact (addr_port _ _ (by assumption)).symm | exact (addr_no _ _ _ (by assumption) (by assumption)).symm
         exact ⟨(congrArg (Value.bool) e5), (hs4.pick [] rfl (by decide))⟩
     · refine sk ?_
       refine bN ?_
       refine nN ?_
       refine sq ?_
       refine rg ?_
       refine q trivial rfl rfl (asg (v := .bool false) rfl) ?_
       refine nl ?_
       refine nN ?_
       refine rt ?_
       refine fret (v := .bool false) (.tmp .nil) rfl ?_
       have e6 : false = addrOk ak aq an apt := by first | (rw [addr_is1 (by assumption)]; simp [h1, h2, h4]; done) | (rw [addr_is3 (by assumption)]; simp [h1, h2, h4]; done) | (rw [addr_is3 (by assumption)]; have hq0 : aq = [] := List.eq_nil_of_length_eq_zero (by omega); simp [hq0, h1, h2, h4]; done) | (rw [addr_is3 (by assumption)]; have hq0 : ¬ aq = [] := fun he => absurd (by rw [he]; rfl : ((aq.length : Nat) : Int) = 0) (by assumption); simp [hq0, h1, h2, h4]; done) | (rw [addr_is1 (by assumption)]; have hp0 : 0 ≤ apt ∧ apt ≤ 65535 := Decidable.not_not.1 (by assumption); simp [hp0.1, hp0.2, h1, h2, h4]; done) | (rw [addr_is3 (by assumption)]; have hp0 : 0 ≤ apt ∧ apt ≤ 65535 := Decidable.not_not.1 (by assumption); simp [hp0.1, hp0.2, h1, h2, h4]; done) | exact (addr_port _ _ (by assumption)).symm | exact (addr_no _ _ _ (by assumption) (by assumption)).symm
       exact ⟨(congrArg (Value.bool) e6), (hs2.pick [] rfl (by decide))⟩

theorem szAddress (ak : Int) {Aaq : Option Addr} {caq : Nat} (aq : List Int) (an : List UInt8) (apt : Int) (z : Int) (w : World) (haq : Sl w [] 1 Aaq aq.length caq (aq.map I)) (han_n : an.length ≤ 9223372036854775807) (hz : 0 ≤ z ∧ z ≤ 1099511627776) : Does Tryz.prog 18 [.agg #[I ak, .slice Aaq aq.length caq, Str an, I apt], I z] w (fun v w' => ∃ r : Int, v = .int .i64 r ∧ (-1 ≤ r ∧ r ≤ z) ∧ (r < 0 ∨ ((aq.length : Int) ≤ z ∧ (an.length : Int) ≤ z)) ∧ SH w w' [] []) := by
 refine fn_enter (N := 19) Tryz.func18 rfl (by kernel_rfl) rfl rfl rfl ?_
 have hs0 : SH w w [] [] := SH.refl w []
 have haq_m : aq.length ≤ 9223372036854775807 := Nat.le_trans haq.cap haq.capMax
 refine sq ?_
 refine rg ?_
 refine bx (v := .agg #[I ak, .slice Aaq aq.length caq, Str an, I apt]) (cs := [I ak, .slice Aaq aq.length caq, Str an, I apt]) hs0 rfl rfl trivial rfl (fun b1 w1 (hs1 : SH w w1 [] [.blk b1 25 [I ak, .slice Aaq aq.length caq, Str an, I apt]]) => ?_)
 refine q trivial rfl rfl (asg (v := I 0) rfl) ?_
 refine nl ?_
 refine nN ?_
 refine sq ?_
 refine rg ?_
 refine q trivial rfl rfl (fa 1 fo25_1 rfl) ?_
 refine q trivial rfl rfl (ld (v := .slice Aaq aq.length caq) hs1 0 rfl rfl rfl one23) ?_
 refine q trivial rfl rfl (mv (v := I z) rfl) ?_
 refine cl trivial rfl (szIntS (Axs := Aaq) (cxs := caq) (xs := aq) (z := z) (w := _) (hxs := (haq.up0 hs1)) (hz := (by first | (first | omega | assumption | (simp; done) | (simp; omega)) | (have hsz1 := szI_bd (n := aq.length) (z := z) (by omega); have hsz2 := szI_nn (n := aq.length) (z := z) (by omega); first | omega | assumption | (simp; done) | (simp; omega))))) ?_
 rintro _ w2 ⟨rfl, hs2'⟩
 have hs2 : SH w w2 [] [.blk b1 25 [I ak, .slice Aaq aq.length caq, Str an, I apt]] := hs1.call0 hs2'
 clear hs2'
 refine q trivial rfl rfl (asg (v := I (szI aq.length z)) rfl) ?_
 refine nl ?_
 refine nN ?_
 refine sq ?_
 refine sq ?_
 refine rg ?_
 refine q trivial rfl rfl (mv (v := I (szI aq.length z)) rfl) ?_
 refine q trivial rfl rfl (lss (k := .i64) (a := szI aq.length z) (b := 0) rfl rfl) ?_
 refine nl ?_
 refine nN ?_
 refine cdd (p := (szI aq.length z) < 0) rfl (fun h1 => ?_) (fun h1 => ?_)
 · refine sq ?_
   refine rg ?_
   refine q trivial rfl rfl (asg (v := I (-1)) rfl) ?_
   refine nl ?_
   refine nN ?_
   refine rt (tR ?_)
   refine fret (v := I (-1)) (.tmp .nil) rfl ?_
   exact ⟨(-1), rfl, (by have hsz1 := szI_bd (n := aq.length) (z := z) (by omega); omega), (by have hsz1 := szI_bd (n := aq.length) (z := z) (by omega); first | omega | (have hsz2 := szI_nn (n := aq.length) (z := z) (by omega); omega)), (hs2.pick [] rfl (by decide))⟩
 · refine sk ?_
   refine nN ?_
   refine sq ?_
   refine rg ?_
   refine q trivial rfl rfl (mv (v := I (szI aq.length z)) rfl) ?_
   refine q trivial rfl rfl (fa 2 fo25_2 rfl) ?_
   refine q trivial rfl rfl (ld (v := Str an) hs2 0 rfl rfl rfl one9) ?_
   refine q trivial rfl rfl (lnS (l := an) st9 rfl) ?_
   refine q trivial rfl rfl (sub (a := szI aq.length z) (b := ((an.length : Nat) : Int)) rfl rfl (by first | (exact ⟨by omega, by omega⟩) | (have hsz1 := szI_bd (n := aq.length) (z := z) (by omega); have hsz2 := szI_nn (n := aq.length) (z := z) (by omega); exact ⟨by omega, by omega⟩))) ?_
   refine q trivial rfl rfl (asg (v := I ((szI aq.length z) - ((an.length : Nat) : Int))) rfl) ?_
   refine nl ?_
   refine nN ?_
   refine sq ?_
   refine sq ?_
   refine rg ?_
   refine q trivial rfl rfl (mv (v := I ((szI aq.length z) - ((an.length : Nat) : Int))) rfl) ?_
   refine q trivial rfl rfl (lss (k := .i64) (a := (szI aq.length z) - ((an.length : Nat) : Int)) (b := 0) rfl rfl) ?_
   refine nl ?_
   refine nN ?_
   refine cdd (p := ((szI aq.length z) - ((an.length : Nat) : Int)) < 0) rfl (fun h2 => ?_) (fun h2 => ?_)
   · refine sq ?_
     refine rg ?_
     refine q trivial rfl rfl (asg (v := I (-1)) rfl) ?_
     refine nl ?_
     refine nN ?_
     refine rt (tR ?_)
     refine fret (v := I (-1)) (.tmp .nil) rfl ?_
     exact ⟨(-1), rfl, (by have hsz1 := szI_bd (n := aq.length) (z := z) (by omega); omega), (by have hsz1 := szI_bd (n := aq.length) (z := z) (by omega); first | omega | (have hsz2 := szI_nn (n := aq.length) (z := z) (by omega); omega)), (hs2.pick [] rfl (by decide))⟩
   · refine sk ?_
     refine nN ?_
     refine sq ?_
     refine rg ?_
     refine q trivial rfl rfl (mv (v := I ((szI aq.length z) - ((an.length : Nat) : Int))) rfl) ?_
     refine q trivial rfl rfl (asg (v := I ((szI aq.length z) - ((an.length : Nat) : Int))) rfl) ?_
     refine nl ?_
     refine nN ?_
     refine rt ?_
     refine fret (v := I ((szI aq.length z) - ((an.length : Nat) : Int))) (.tmp .nil) rfl ?_
     exact ⟨(szI aq.length z) - ((an.length : Nat) : Int), rfl, (by have hsz1 := szI_bd (n := aq.length) (z := z) (by omega); omega), (by have hsz1 := szI_bd (n := aq.length) (z := z) (by omega); first | omega | (have hsz2 := szI_nn (n := aq.length) (z := z) (by omega); omega)), (hs2.pick [] rfl (by decide))⟩

theorem toAddress (ak : Int) {Aaq : Option Addr} {caq : Nat} (aq : List Int) (an : List UInt8) (apt : Int) (w : World) (haq : Sl w [] 1 Aaq aq.length caq (aq.map I)) (haq_n : aq.length ≤ 1099511627776) : Does Tryz.prog 24 [.agg #[I ak, .slice Aaq aq.length caq, Str an, I apt]] w (fun v w' => ∃ Aqr : Option Addr, ∃ cqr : Nat, v = .agg #[.int .i64 ak, .slice Aqr aq.length cqr, Str an, .int .i64 apt] ∧ SH w w' [] [.own Aqr aq.length cqr 3 1 (aq.map I)]) := by
 refine fn_enter (N := 18) Tryz.func24 rfl (by kernel_rfl) rfl rfl rfl ?_
 have hs0 : SH w w [] [] := SH.refl w []
 have haq_m : aq.length ≤ 9223372036854775807 := Nat.le_trans haq.cap haq.capMax
 refine sq ?_
 refine rg ?_
 refine bx (v := .agg #[I ak, .slice Aaq aq.length caq, Str an, I apt]) (cs := [I ak, .slice Aaq aq.length caq, Str an, I apt]) hs0 rfl rfl trivial rfl (fun b1 w1 (hs1 : SH w w1 [] [.blk b1 25 [I ak, .slice Aaq aq.length caq, Str an, I apt]]) => ?_)
 refine al (v := .agg #[I 0, ns, Str [], I 0]) (cs := [I 0, ns, Str [], I 0]) hs1 tz34 rfl trivial rfl (fun b2 w2 (hs2 : SH w w2 [] [.blk b1 25 [I ak, .slice Aaq aq.length caq, Str an, I apt], .blk b2 34 [I 0, ns, Str [], I 0]]) => ?_)
 refine nl ?_
 refine nN ?_
 refine sq ?_
 refine rg ?_
 refine al (v := .agg #[I 0, ns, Str [], I 0]) (cs := [I 0, ns, Str [], I 0]) hs2 tz34 rfl trivial rfl (fun b3 w3 (hs3 : SH w w3 [] [.blk b1 25 [I ak, .slice Aaq aq.length caq, Str an, I apt], .blk b2 34 [I 0, ns, Str [], I 0], .blk b3 34 [I 0, ns, Str [], I 0]]) => ?_)
 refine nl ?_
 refine nN ?_
 refine sq ?_
 refine rg ?_
 refine q trivial rfl rfl (fa 0 fo25_0 rfl) ?_
 refine q trivial rfl rfl (ld (v := I ak) hs3 0 rfl rfl rfl one3) ?_
 refine q trivial rfl rfl (fa 0 fo34_0 rfl) ?_
 refine st (v := I ak) hs3 2 rfl rfl rfl rfl rfl one3 trivial (fun w4 (hs4 : SH w w4 [] [.blk b1 25 [I ak, .slice Aaq aq.length caq, Str an, I apt], .blk b2 34 [I 0, ns, Str [], I 0], .blk b3 34 [I ak, ns, Str [], I 0]]) => ?_)
 refine nl ?_
 refine nN ?_
 refine sq ?_
 refine rg ?_
 refine q trivial rfl rfl (fa 1 fo25_1 rfl) ?_
 refine q trivial rfl rfl (ld (v := .slice Aaq aq.length caq) hs4 0 rfl rfl rfl one23) ?_
 refine cl trivial rfl (toIntS (Axs := Aaq) (cxs := caq) (xs := aq) (w := _) (hxs := (haq.up0 hs4)) (hxs_n := (by first | omega | (simp; done) | (simp; omega)))) ?_
 rintro _ w5 ⟨A1, c1, rfl, hs5'⟩
 have hs5 : SH w w5 [] [.blk b1 25 [I ak, .slice Aaq aq.length caq, Str an, I apt], .blk b2 34 [I 0, ns, Str [], I 0], .blk b3 34 [I ak, ns, Str [], I 0], .own A1 aq.length c1 3 1 (aq.map I)] := hs4.call0 hs5'
 clear hs5'
 refine q trivial rfl rfl (fa 1 fo34_1 rfl) ?_
 refine st (v := .slice A1 aq.length c1) hs5 2 rfl rfl rfl rfl rfl one23 trivial (fun w6 (hs6 : SH w w6 [] [.blk b1 25 [I ak, .slice Aaq aq.length caq, Str an, I apt], .blk b2 34 [I 0, ns, Str [], I 0], .own A1 aq.length c1 3 1 (aq.map I), .blk b3 34 [I ak, .slice A1 aq.length c1, Str [], I 0]]) => ?_)
 refine nl ?_
 refine nN ?_
 refine sq ?_
 refine rg ?_
 refine q trivial rfl rfl (fa 2 fo25_2 rfl) ?_
 refine q trivial rfl rfl (ld (v := Str an) hs6 0 rfl rfl rfl one9) ?_
 refine q trivial rfl rfl (fa 2 fo34_2 rfl) ?_
 refine st (v := Str an) hs6 3 rfl rfl rfl rfl rfl one9 trivial (fun w7 (hs7 : SH w w7 [] [.blk b1 25 [I ak, .slice Aaq aq.length caq, Str an, I apt], .blk b2 34 [I 0, ns, Str [], I 0], .own A1 aq.length c1 3 1 (aq.map I), .blk b3 34 [I ak, .slice A1 aq.length c1, Str an, I 0]]) => ?_)
 refine nl ?_
 refine nN ?_
 refine sq ?_
 refine rg ?_
 refine q trivial rfl rfl (fa 3 fo25_3 rfl) ?_
 refine q trivial rfl rfl (ld (v := I apt) hs7 0 rfl rfl rfl one3) ?_
 refine q trivial rfl rfl (fa 3 fo34_3 rfl) ?_
 refine st (v := I apt) hs7 3 rfl rfl rfl rfl rfl one3 trivial (fun w8 (hs8 : SH w w8 [] [.blk b1 25 [I ak, .slice Aaq aq.length caq, Str an, I apt], .blk b2 34 [I 0, ns, Str [], I 0], .own A1 aq.length c1 3 1 (aq.map I), .blk b3 34 [I ak, .slice A1 aq.length c1, Str an, I apt]]) => ?_)
 refine nl ?_
 refine nN ?_
 refine sq ?_
 refine rg ?_
 refine q trivial rfl rfl (ldg (vs := [I ak, .slice A1 aq.length c1, Str an, I apt]) hs8 3 rfl rfl rfl rfl ag34) ?_
 refine stg (vs := [I ak, .slice A1 aq.length c1, Str an, I apt]) hs8 1 rfl rfl rfl rfl rfl rfl rfl ag34 trivial (fun w9 (hs9 : SH w w9 [] [.blk b1 25 [I ak, .slice Aaq aq.length caq, Str an, I apt], .own A1 aq.length c1 3 1 (aq.map I), .blk b3 34 [I ak, .slice A1 aq.length c1, Str an, I apt], .blk b2 34 [I ak, .slice A1 aq.length c1, Str an, I apt]]) => ?_)
 refine nl ?_
 refine nN ?_
 have hs10 : SH w w9 [] [.own A1 aq.length c1 3 1 (aq.map I), .blk b2 34 [I ak, .slice A1 aq.length c1, Str an, I apt]] := hs9.pick [1, 3] rfl (by decide)
 refine rt ?_
 refine fret (v := .agg #[I ak, .slice A1 aq.length c1, Str an, I apt]) (resC hs10 1 rfl rfl ag34 rfl .nil) rfl ?_
 exact ⟨A1, c1, rfl, (hs10.pick [0] rfl (by decide))⟩

theorem eqAddress (ka : Int) {Aqa : Option Addr} {cqa : Nat} (qa : List Int) (na : List UInt8) (pa : Int) (kb : Int) {Aqb : Option Addr} {cqb : Nat} (qb : List Int) (nb : List UInt8) (pb : Int) (w : World) (hqa : Sl w [] 1 Aqa qa.length cqa (qa.map I)) (hqb : Sl w [] 1 Aqb qb.length cqb (qb.map I)) : Does Tryz.prog 30 [.agg #[I ka, .slice Aqa qa.length cqa, Str na, I pa], .agg #[I kb, .slice Aqb qb.length cqb, Str nb, I pb]] w (fun v w' => v = .bool (decide (ka = kb ∧ qa = qb ∧ na = nb ∧ pa = pb)) ∧ SH w w' [] []) := by
 refine fn_enter (N := 26) Tryz.func30 rfl (by kernel_rfl) rfl rfl rfl ?_
 have hs0 : SH w w [] [] := SH.refl w []
 have hqa_m : qa.length ≤ 9223372036854775807 := Nat.le_trans hqa.cap hqa.capMax
 have hqb_m : qb.length ≤ 9223372036854775807 := Nat.le_trans hqb.cap hqb.capMax
 refine sq ?_
 refine rg ?_
 refine bx (v := .agg #[I ka, .slice Aqa qa.length cqa, Str na, I pa]) (cs := [I ka, .slice Aqa qa.length cqa, Str na, I pa]) hs0 rfl rfl trivial rfl (fun b1 w1 (hs1 : SH w w1 [] [.blk b1 34 [I ka, .slice Aqa qa.length cqa, Str na, I pa]]) => ?_)
 refine bx (v := .agg #[I kb, .slice Aqb qb.length cqb, Str nb, I pb]) (cs := [I kb, .slice Aqb qb.length cqb, Str nb, I pb]) hs1 rfl rfl trivial rfl (fun b2 w2 (hs2 : SH w w2 [] [.blk b1 34 [I ka, .slice Aqa qa.length cqa, Str na, I pa], .blk b2 34 [I kb, .slice Aqb qb.length cqb, Str nb, I pb]]) => ?_)
 refine q trivial rfl rfl (asg (v := .bool false) rfl) ?_
 refine nl ?_
 refine nN ?_
 refine sq ?_
 refine sq ?_
 refine rg ?_
 refine q trivial rfl rfl (fa 0 fo34_0 rfl) ?_
 refine q trivial rfl rfl (ld (v := I ka) hs2 0 rfl rfl rfl one3) ?_
 refine q trivial rfl rfl (fa 0 fo34_0 rfl) ?_
 refine q trivial rfl rfl (ld (v := I kb) hs2 1 rfl rfl rfl one3) ?_
 refine q trivial rfl rfl (nei (k := .i64) (a := ka) (b := kb) rfl rfl) ?_
 refine nl ?_
 refine nN ?_
 refine cdd (p := ka ≠ kb) rfl (fun h1 => ?_) (fun h1 => ?_)
 · refine sq ?_
   refine rg ?_
   refine q trivial rfl rfl (asg (v := .bool false) rfl) ?_
   refine nl ?_
   refine nN ?_
   refine rt (tR ?_)
   refine fret (v := .bool false) (.tmp .nil) rfl ?_
   have e1 : false = (decide (ka = kb ∧ qa = qb ∧ na = nb ∧ pa = pb)) := by simp [h1] <;> simp_all
   exact ⟨(congrArg (Value.bool) e1), (hs2.pick [] rfl (by decide))⟩
 · refine sk ?_
   refine nN ?_
   refine sq ?_
   refine sq ?_
   refine rg ?_
   refine q trivial rfl rfl (fa 1 fo34_1 rfl) ?_
   refine q trivial rfl rfl (ld (v := .slice Aqa qa.length cqa) hs2 0 rfl rfl rfl one23) ?_
   refine q trivial rfl rfl (fa 1 fo34_1 rfl) ?_
   refine q trivial rfl rfl (ld (v := .slice Aqb qb.length cqb) hs2 1 rfl rfl rfl one23) ?_
   refine cl trivial rfl (eqIntS (Axs := Aqa) (cxs := cqa) (xs := qa) (Abs := Aqb) (cbs := cqb) (bs := qb) (w := _) (hxs := (hqa.up0 hs2)) (hbs := (hqb.up0 hs2))) ?_
   rintro _ w3 ⟨rfl, hs3'⟩
   have hs3 : SH w w3 [] [.blk b1 34 [I ka, .slice Aqa qa.length cqa, Str na, I pa], .blk b2 34 [I kb, .slice Aqb qb.length cqb, Str nb, I pb]] := hs2.call0 hs3'
   clear hs3'
   refine q trivial rfl rfl (nd (p := qa = qb) rfl) ?_
   refine nl ?_
   refine nN ?_
   refine cdd (p := ¬ (qa = qb)) rfl (fun h2 => ?_) (fun h2 => ?_)
   · refine sq ?_
     refine rg ?_
     refine q trivial rfl rfl (asg (v := .bool false) rfl) ?_
     refine nl ?_
     refine nN ?_
     refine rt (tR ?_)
     refine fret (v := .bool false) (.tmp .nil) rfl ?_
     have e2 : false = (decide (ka = kb ∧ qa = qb ∧ na = nb ∧ pa = pb)) := by simp [h1, h2] <;> simp_all
     exact ⟨(congrArg (Value.bool) e2), (hs3.pick [] rfl (by decide))⟩
   · refine sk ?_
     refine nN ?_
     refine sq ?_
     refine sq ?_
     refine rg ?_
     refine q trivial rfl rfl (fa 2 fo34_2 rfl) ?_
     refine q trivial rfl rfl (ld (v := Str na) hs3 0 rfl rfl rfl one9) ?_
     refine q trivial rfl rfl (fa 2 fo34_2 rfl) ?_
     refine q trivial rfl rfl (ld (v := Str nb) hs3 1 rfl rfl rfl one9) ?_
     refine q trivial rfl rfl (nes (l := na) (m := nb) rfl rfl) ?_
     refine nl ?_
     refine nN ?_
     refine cdd (p := na ≠ nb) rfl (fun h3 => ?_) (fun h3 => ?_)
     · refine sq ?_
       refine rg ?_
       refine q trivial rfl rfl (asg (v := .bool false) rfl) ?_
       refine nl ?_
       refine nN ?_
       refine rt (tR ?_)
       refine fret (v := .bool false) (.tmp .nil) rfl ?_
       have e3 : false = (decide (ka = kb ∧ qa = qb ∧ na = nb ∧ pa = pb)) := by simp [h1, h2, h3] <;> simp_all
       exact ⟨(congrArg (Value.bool) e3), (hs3.pick [] rfl (by decide))⟩
     · refine sk ?_
       refine nN ?_
       refine sq ?_
       refine sq ?_
       refine rg ?_
       refine q trivial rfl rfl (fa 3 fo34_3 rfl) ?_
       refine q trivial rfl rfl (ld (v := I pa) hs3 0 rfl rfl rfl one3) ?_
       refine q trivial rfl rfl (fa 3 fo34_3 rfl) ?_
       refine q trivial rfl rfl (ld (v := I pb) hs3 1 rfl rfl rfl one3) ?_
       refine q trivial rfl rfl (nei (k := .i64) (a := pa) (b := pb) rfl rfl) ?_
       refine nl ?_
       refine nN ?_
       refine cdd (p := pa ≠ pb) rfl (fun h4 => ?_) (fun h4 => ?_)
       · refine sq ?_
         refine rg ?_
         refine q trivial rfl rfl (asg (v := .bool false) rfl) ?_
         refine nl ?_
         refine nN ?_
         refine rt (tR ?_)
         refine fret (v := .bool false) (.tmp .nil) rfl ?_
         have e4 : false = (decide (ka = kb ∧ qa = qb ∧ na = nb ∧ pa = pb)) := by simp [h1, h2, h3, h4] <;> simp_all
         exact ⟨(congrArg (Value.bool) e4), (hs3.pick [] rfl (by decide))⟩
       · refine sk ?_
         refine nN ?_
         refine sq ?_
         refine rg ?_
         refine q trivial rfl rfl (asg (v := .bool true) rfl) ?_
         refine nl ?_
         refine nN ?_
         refine rt ?_
         refine fret (v := .bool true) (.tmp .nil) rfl ?_
         have e5 : true = (decide (ka = kb ∧ qa = qb ∧ na = nb ∧ pa = pb)) := by simp [h1, h2, h3, h4] <;> simp_all
         exact ⟨(congrArg (Value.bool) e5), (hs3.pick [] rfl (by decide))⟩

theorem iTextBytes (s : List UInt8) (w : World) (hs_n : s.length ≤ 2147483648) : Does Tryz.prog 61 [Str s] w (fun v w' => ∃ Ar : Option Addr, ∃ cr : Nat, v = .slice Ar (textI s).length cr ∧ SH w w' [] [.own Ar ((textI s).length) cr 3 1 ((textI s).map I)]) := by
 refine fn_enter (N := 22) Tryz.func61 rfl (by kernel_rfl) rfl rfl rfl ?_
 have hs0 : SH w w [] [] := SH.refl w []
 refine sq ?_
 refine rg ?_
 refine q trivial rfl rfl (asg (v := ns) rfl) ?_
 refine nl ?_
 refine nN ?_
 refine sq ?_
 refine rg ?_
 refine q trivial rfl rfl (mv (v := Str s) rfl) ?_
 refine q trivial rfl rfl (lnS (l := s) st9 rfl) ?_
 refine mkm (g := I) (z := 0) (n := s.length) hs0 sl23 rfl rfl rfl (by omega) (by unfold maxLen; omega) trivial rfl (fun b1 w1 (hs1 : SH w w1 [] [oI b1 (List.replicate s.length (0 : Int)) s.length 3]) => ?_)
 refine q trivial rfl rfl (asg (v := sb b1 ((List.replicate s.length (0 : Int)).length) s.length) rfl) ?_
 refine nl ?_
 refine nN ?_
 refine sq ?_
 refine sq ?_
 refine rg ?_
 refine q trivial rfl rfl (mv (v := sb b1 ((List.replicate s.length (0 : Int)).length) s.length) rfl) ?_
 refine q trivial rfl rfl (lnA (n := (List.replicate s.length (0 : Int)).length) sl23 rfl) ?_
 refine q trivial rfl rfl (mv (v := I 0) rfl) ?_
 refine nl ?_
 refine nN ?_
 refine bl ?_
 have e1 : List.replicate s.length (0 : Int) = (textI s).take 0 ++ List.replicate (s.length - 0) (0 : Int) := by simp
 have e2 : (List.replicate s.length (0 : Int)).length = s.length := by first | rfl | (simp; done) | (simp; omega) | omega
 refine lp (σ := (Option Addr) × Nat × Nat) (fun ⟨Ag3, cg3, k⟩ f w' => Has f [(0, Str s), (3, .slice Ag3 s.length cg3), (9, I (((List.replicate s.length (0 : Int)).length : Nat) : Int)), (10, I ((k : Nat) : Int))] ∧ (k ≤ s.length) ∧ SH w w' [] [.own Ag3 s.length cg3 3 1 (((textI s).take k ++ List.replicate (s.length - k) (0 : Int)).map I)]) (fun ⟨Ag3, cg3, k⟩ => s.length - k) ((some ⟨b1, 0, none⟩), s.length, 0) ⟨⟨rfl, (show (.slice (some ⟨b1, 0, none⟩) ((List.replicate s.length (0 : Int)).length) s.length : Value) = .slice (some ⟨b1, 0, none⟩) s.length s.length from slv rfl e2 rfl), rfl, rfl, trivial⟩, (by simp), (hs1.cast (lc (own_eq (g := I) rfl e2 rfl e1) rfl))⟩ ?_
 rintro ⟨Ag3, cg3, k⟩ f w2 ⟨hf, hk, hs2⟩
 obtain ⟨g1, rfl⟩ := has_upd hf
 clear hf
 refine sq ?_
 refine rg ?_
 refine q trivial rfl rfl (lss (k := .i64) (a := ((k : Nat) : Int)) (b := (((List.replicate s.length (0 : Int)).length : Nat) : Int)) rfl rfl) ?_
 refine nl ?_
 refine nN ?_
 refine sq ?_
 refine cdd (p := ((k : Nat) : Int) < (((List.replicate s.length (0 : Int)).length : Nat) : Int)) rfl (fun h1 => ?_) (fun h1 => ?_)
 · refine sk ?_
   refine nN ?_
   refine sq ?_
   refine bl ?_
   refine sq ?_
   refine rg ?_
   refine q trivial rfl rfl (mv (v := I ((k : Nat) : Int)) rfl) ?_
   refine q trivial rfl rfl (asg (v := I ((k : Nat) : Int)) rfl) ?_
   refine nl ?_
   refine nN ?_
   refine rg ?_
   refine q trivial rfl rfl (mv (v := .slice Ag3 s.length cg3) rfl) ?_
   refine q trivial rfl rfl (mv (v := I ((k : Nat) : Int)) rfl) ?_
   refine q trivial rfl rfl (mv (v := Str s) rfl) ?_
   refine q trivial rfl rfl (mv (v := I ((k : Nat) : Int)) rfl) ?_
   refine q trivial rfl rfl (ixs (l := s) k st9 rfl rfl (by first | omega | (simp; done) | (simp; omega))) ?_
   refine q trivial rfl rfl (cvI (a := (((s.getD k 0).toNat : Nat) : Int)) (s := .u8) ti5 ti3 rfl (by have := u8_bd ((s.getD k 0)); exact ⟨by omega, by omega⟩)) ?_
   obtain ⟨b2, rfl⟩ := own_form hs2 0 rfl (by first | omega | (simp; done) | (simp; omega))
   refine q trivial rfl rfl (ixo k sl23 rfl rfl (by first | omega | (simp; done) | (simp; omega))) ?_
   refine stomn (g := I) (ys := (textI s).take k ++ List.replicate (s.length - k) (0 : Int)) (o := k) (u := (((s.getD k 0).toNat : Nat) : Int)) hs2 0 rfl rfl rfl rfl (by first | omega | (simp; done) | (simp; omega)) rfl one3 trivial (fun w3 (hs3 : SH w w3 [] [.own (some ⟨b2, 0, none⟩) s.length cg3 3 1 ((((textI s).take k ++ List.replicate (s.length - k) (0 : Int)).set k (((s.getD k 0).toNat : Nat) : Int)).map I)]) => ?_)
   refine nl ?_
   refine bN ?_
   refine nN ?_
   refine rg ?_
   refine q trivial rfl rfl (add (a := ((k : Nat) : Int)) (b := 1) rfl rfl (by exact ⟨by omega, by omega⟩)) ?_
   refine q trivial rfl rfl (mv (v := I (((k : Nat) : Int) + 1)) rfl) ?_
   refine nl ?_
   refine nN ?_
   have e3 : ((textI s).take k ++ List.replicate (s.length - k) (0 : Int)).set k (((s.getD k 0).toNat : Nat) : Int) = (textI s).take (k + 1) ++ List.replicate (s.length - (k + 1)) (0 : Int) := by exact textI_set (by omega)
   refine ⟨((some ⟨b2, 0, none⟩), cg3, k + 1), ⟨⟨rfl, rfl, rfl, rfl, trivial⟩, (by omega), (hs3.cast (lc (own_eq (g := I) rfl rfl rfl e3) rfl))⟩, ?_⟩
   show s.length - (k + 1) < s.length - k
   omega
 · refine ex (tE (tE (bE ?_)))
   refine nN ?_
   refine sq ?_
   refine rg ?_
   refine q trivial rfl rfl (mv (v := .slice Ag3 s.length cg3) rfl) ?_
   refine q trivial rfl rfl (asg (v := .slice Ag3 s.length cg3) rfl) ?_
   refine nl ?_
   refine nN ?_
   refine rt ?_
   refine fret (v := .slice Ag3 s.length cg3) (.tmp .nil) rfl ?_
   have e4 : (textI s).take k ++ List.replicate (s.length - k) (0 : Int) = textI s := by have : k = s.length := (by omega); subst this; rw [textI_all (Nat.le_refl _)]; simp
   have e5 : s.length = (textI s).length := by exact (show s.length = ((textI s).take k ++ List.replicate (s.length - k) (0 : Int)).length by (simp [textI_len]; omega)).trans (congrArg List.length e4)
   exact ⟨Ag3, cg3, (slv rfl e5 rfl), (hs2.cast (lc (own_eq (g := I) rfl e5 rfl e4) rfl))⟩


end Go.Proofs.YtcgdccfofinheaaGreatDoor
