/-
  Part of the proofs over this seat: what each function of the program computes, function by function (the text is written by a program of this hand-in's own).
  Conditions: each theorem states its own.
-/
import Derived.Test.YtpddahloogjghaaDoorProg
import Derived.KernelRfl
import Derived.Test.YtpddahloogjghaaDoorPfModel
namespace Go.Proofs.YtpddahloogjghaaDoor
open Go.PF
set_option maxRecDepth 100000
set_option linter.unusedSimpArgs false
set_option linter.unusedVariables false
theorem ag25 : aggOk Tryd.prog 25 2 = true := by kernel_rfl
theorem ag27 : aggOk Tryd.prog 27 4 = true := by kernel_rfl
theorem ag29 : aggOk Tryd.prog 29 7 = true := by kernel_rfl
theorem ag33 : aggOk Tryd.prog 33 2 = true := by kernel_rfl
theorem ag34 : aggOk Tryd.prog 34 4 = true := by kernel_rfl
theorem ag36 : aggOk Tryd.prog 36 7 = true := by kernel_rfl
theorem ag50 : aggOk Tryd.prog 50 5 = true := by kernel_rfl
theorem fo25_0 : fieldOk Tryd.prog 25 0 0 = true := by kernel_rfl
theorem fo25_1 : fieldOk Tryd.prog 25 1 1 = true := by kernel_rfl
theorem fo27_0 : fieldOk Tryd.prog 27 0 0 = true := by kernel_rfl
theorem fo27_1 : fieldOk Tryd.prog 27 1 1 = true := by kernel_rfl
theorem fo27_2 : fieldOk Tryd.prog 27 2 2 = true := by kernel_rfl
theorem fo27_3 : fieldOk Tryd.prog 27 3 3 = true := by kernel_rfl
theorem fo29_0 : fieldOk Tryd.prog 29 0 0 = true := by kernel_rfl
theorem fo29_1 : fieldOk Tryd.prog 29 1 1 = true := by kernel_rfl
theorem fo29_2 : fieldOk Tryd.prog 29 2 3 = true := by kernel_rfl
theorem fo33_0 : fieldOk Tryd.prog 33 0 0 = true := by kernel_rfl
theorem fo33_1 : fieldOk Tryd.prog 33 1 1 = true := by kernel_rfl
theorem fo34_0 : fieldOk Tryd.prog 34 0 0 = true := by kernel_rfl
theorem fo34_1 : fieldOk Tryd.prog 34 1 1 = true := by kernel_rfl
theorem fo34_2 : fieldOk Tryd.prog 34 2 2 = true := by kernel_rfl
theorem fo34_3 : fieldOk Tryd.prog 34 3 3 = true := by kernel_rfl
theorem fo36_0 : fieldOk Tryd.prog 36 0 0 = true := by kernel_rfl
theorem fo36_1 : fieldOk Tryd.prog 36 1 1 = true := by kernel_rfl
theorem fo36_2 : fieldOk Tryd.prog 36 2 3 = true := by kernel_rfl
theorem fo50_0 : fieldOk Tryd.prog 50 0 0 = true := by kernel_rfl
theorem fo50_1 : fieldOk Tryd.prog 50 1 1 = true := by kernel_rfl
theorem fo78_0 : fieldOk Tryd.prog 78 0 0 = true := by kernel_rfl
theorem fo78_1 : fieldOk Tryd.prog 78 1 1 = true := by kernel_rfl
theorem mixed : Tryd.prog.follows .mixedOrders = true := by kernel_rfl
theorem one22 : oneOk Tryd.prog 22 = true := by kernel_rfl
theorem one23 : oneOk Tryd.prog 23 = true := by kernel_rfl
theorem one3 : oneOk Tryd.prog 3 = true := by kernel_rfl
theorem one5 : oneOk Tryd.prog 5 = true := by kernel_rfl
theorem one9 : oneOk Tryd.prog 9 = true := by kernel_rfl
theorem s2_25 : str2Ok Tryd.prog 25 = true := by kernel_rfl
theorem sl22 : SlT Tryd.prog 22 5 1 1 (.int .u8 0) := SlT.mk' (by kernel_rfl) (by kernel_rfl)
theorem sl23 : SlT Tryd.prog 23 3 1 8 (.int .i64 0) := SlT.mk' (by kernel_rfl) (by kernel_rfl)
theorem sl74 : SlT Tryd.prog 74 23 1 24 (.slice none 0 0) := SlT.mk' (by kernel_rfl) (by kernel_rfl)
theorem sl76 : SlT Tryd.prog 76 25 2 32 (.agg #[Str [], Str []]) := SlT.mk' (by kernel_rfl) (by kernel_rfl)
theorem sl88 : SlT Tryd.prog 88 9 1 16 (Str []) := SlT.mk' (by kernel_rfl) (by kernel_rfl)
theorem st9 : Tryd.prog.underlying 9 = some .string := by kernel_rfl
theorem tb4 : Tryd.prog.underlying 4 = some .bool := by kernel_rfl
theorem ti3 : Tryd.prog.underlying 3 = some (.int .i64) := by kernel_rfl
theorem ti5 : Tryd.prog.underlying 5 = some (.int .u8) := by kernel_rfl
theorem tz25 : (Tryd.prog.info? 25).bind (·.zero) = some (.agg #[Str [], Str []]) := by kernel_rfl
theorem tz27 : (Tryd.prog.info? 27).bind (·.zero) = some (.agg #[.int .i64 0, .slice none 0 0, Str [], .int .i64 0]) := by kernel_rfl
theorem tz29 : (Tryd.prog.info? 29).bind (·.zero) = some (.agg #[.slice none 0 0, Str [], Str [], .int .i64 0, .slice none 0 0, Str [], .int .i64 0]) := by kernel_rfl
theorem sIn (x : Int) (lo : Int) (hi : Int) (w : World)  : Does Tryd.prog 59 [I x, I lo, I hi] w (fun v w' => v = .bool (decide (lo ≤ x ∧ x ≤ hi)) ∧ SH w w' [] []) := by
 refine fn_enter (N := 15) Tryd.func59 rfl (by kernel_rfl) rfl rfl rfl ?_
 have hs0 : SH w w [] [] := SH.refl w []
 refine sq ?_
 refine rg ?_
 refine q trivial rfl rfl (asg (v := .bool false) rfl) ?_
 refine nl ?_
 refine nN ?_
 refine sq ?_
 refine rg ?_
 refine q trivial rfl rfl (mv (v := I x) rfl) ?_
 refine q trivial rfl rfl (mv (v := I lo) rfl) ?_
 refine q trivial rfl rfl (geq (k := .i64) (a := x) (b := lo) rfl rfl) ?_
 refine q trivial rfl rfl (mv (v := .bool (decide (lo ≤ x))) rfl) ?_
 refine spd (p := lo ≤ x) 10 rfl (fun h1 => ?_) (fun h1 => ?_)
 · refine q ⟨_, rfl, rfl⟩ rfl rfl (mv (v := I x) rfl) ?_
   refine q ⟨_, rfl, rfl⟩ rfl rfl (mv (v := I hi) rfl) ?_
   refine q ⟨_, rfl, rfl⟩ rfl rfl (leq (k := .i64) (a := x) (b := hi) rfl rfl) ?_
   refine q trivial rfl rfl (pt (v := .bool (decide (x ≤ hi))) rfl rfl) ?_
   refine q trivial rfl rfl (asg (v := .bool (decide (x ≤ hi))) rfl) ?_
   refine nl ?_
   refine nN ?_
   refine rt ?_
   refine fret (v := .bool (decide (x ≤ hi))) (.tmp .nil) rfl ?_
   have e1 : (decide (x ≤ hi)) = (decide (lo ≤ x ∧ x ≤ hi)) := by simp [*]
   exact ⟨(congrArg (Value.bool) e1), hs0⟩
 · refine gk false rfl rfl rfl rfl rfl ?_
   refine gk false rfl rfl rfl rfl rfl ?_
   refine gk false rfl rfl rfl rfl rfl ?_
   refine q trivial rfl rfl (pf (v := .bool false) rfl rfl) ?_
   refine q trivial rfl rfl (asg (v := .bool false) rfl) ?_
   refine nl ?_
   refine nN ?_
   refine rt ?_
   refine fret (v := .bool false) (.tmp .nil) rfl ?_
   have e2 : false = (decide (lo ≤ x ∧ x ≤ hi)) := by simp [*]
   exact ⟨(congrArg (Value.bool) e2), hs0⟩

theorem iWithin (x : Int) (lo : Int) (hi : Int) (w : World)  : Does Tryd.prog 53 [I x, I lo, I hi] w (fun v w' => v = .bool (decide (lo ≤ x ∧ x ≤ hi)) ∧ SH w w' [] []) := by
 refine fn_enter (N := 15) Tryd.func53 rfl (by kernel_rfl) rfl rfl rfl ?_
 have hs0 : SH w w [] [] := SH.refl w []
 refine sq ?_
 refine rg ?_
 refine q trivial rfl rfl (asg (v := .bool false) rfl) ?_
 refine nl ?_
 refine nN ?_
 refine sq ?_
 refine rg ?_
 refine q trivial rfl rfl (mv (v := I x) rfl) ?_
 refine q trivial rfl rfl (mv (v := I lo) rfl) ?_
 refine q trivial rfl rfl (geq (k := .i64) (a := x) (b := lo) rfl rfl) ?_
 refine q trivial rfl rfl (mv (v := .bool (decide (lo ≤ x))) rfl) ?_
 refine spd (p := lo ≤ x) 10 rfl (fun h1 => ?_) (fun h1 => ?_)
 · refine q ⟨_, rfl, rfl⟩ rfl rfl (mv (v := I x) rfl) ?_
   refine q ⟨_, rfl, rfl⟩ rfl rfl (mv (v := I hi) rfl) ?_
   refine q ⟨_, rfl, rfl⟩ rfl rfl (leq (k := .i64) (a := x) (b := hi) rfl rfl) ?_
   refine q trivial rfl rfl (pt (v := .bool (decide (x ≤ hi))) rfl rfl) ?_
   refine q trivial rfl rfl (asg (v := .bool (decide (x ≤ hi))) rfl) ?_
   refine nl ?_
   refine nN ?_
   refine rt ?_
   refine fret (v := .bool (decide (x ≤ hi))) (.tmp .nil) rfl ?_
   have e1 : (decide (x ≤ hi)) = (decide (lo ≤ x ∧ x ≤ hi)) := by simp [*]
   exact ⟨(congrArg (Value.bool) e1), hs0⟩
 · refine gk false rfl rfl rfl rfl rfl ?_
   refine gk false rfl rfl rfl rfl rfl ?_
   refine gk false rfl rfl rfl rfl rfl ?_
   refine q trivial rfl rfl (pf (v := .bool false) rfl rfl) ?_
   refine q trivial rfl rfl (asg (v := .bool false) rfl) ?_
   refine nl ?_
   refine nN ?_
   refine rt ?_
   refine fret (v := .bool false) (.tmp .nil) rfl ?_
   have e2 : false = (decide (lo ≤ x ∧ x ≤ hi)) := by simp [*]
   exact ⟨(congrArg (Value.bool) e2), hs0⟩

theorem iBV1 (x : Int) (w : World)  : Does Tryd.prog 80 [I x] w (fun v w' => v = .bool (decide (¬ (0 ≤ x ∧ x ≤ 255))) ∧ SH w w' [] []) := by
 refine fn_enter (N := 6) Tryd.func80 rfl (by kernel_rfl) rfl rfl rfl ?_
 have hs0 : SH w w [] [] := SH.refl w []
 refine sq ?_
 refine rg ?_
 refine q trivial rfl rfl (asg (v := .bool false) rfl) ?_
 refine nl ?_
 refine nN ?_
 refine sq ?_
 refine rg ?_
 refine q trivial rfl rfl (mv (v := I x) rfl) ?_
 refine cl trivial rfl (iWithin (x := x) (lo := 0) (hi := 255) (w := _)) ?_
 rintro _ w1 ⟨rfl, hs1'⟩
 have hs1 : SH w w1 [] [] := hs0.call0 hs1'
 clear hs1'
 refine q trivial rfl rfl (nd (p := 0 ≤ x ∧ x ≤ 255) rfl) ?_
 refine q trivial rfl rfl (asg (v := .bool (decide (¬ (0 ≤ x ∧ x ≤ 255)))) rfl) ?_
 refine nl ?_
 refine nN ?_
 refine rt ?_
 refine fret (v := .bool (decide (¬ (0 ≤ x ∧ x ≤ 255)))) (.tmp .nil) rfl ?_
 exact ⟨rfl, hs1⟩

theorem sBytesValid {Azs : Option Addr} {czs : Nat} (zs : List Int) (w : World) (hzs : Sl w [] 1 Azs zs.length czs (zs.map I)) : Does Tryd.prog 74 [.slice Azs zs.length czs] w (fun v w' => v = .bool (isBytes zs) ∧ SH w w' [] []) := by
 refine fn_enter (N := 19) Tryd.func74 rfl (by kernel_rfl) rfl rfl rfl ?_
 have hs0 : SH w w [] [] := SH.refl w []
 have hzs_m : zs.length ≤ 9223372036854775807 := Nat.le_trans hzs.cap hzs.capMax
 refine sq ?_
 refine rg ?_
 refine q trivial rfl rfl (asg (v := .bool false) rfl) ?_
 refine nl ?_
 refine nN ?_
 refine sq ?_
 refine sq ?_
 refine rg ?_
 refine q trivial rfl rfl (asg (v := I 0) rfl) ?_
 refine nl ?_
 refine nN ?_
 refine bl ?_
 refine lp (σ := Nat) (fun (k : Nat) f w' => Has f [(0, .slice Azs zs.length czs), (3, I ((k : Nat) : Int))] ∧ (k ≤ zs.length) ∧ (allB (zs.take k) = true) ∧ SH w w' [] []) (fun k => zs.length - k) 0 ⟨⟨rfl, rfl, trivial⟩, (by simp), (by simp [allB]), hs0⟩ ?_
 rintro k f w1 ⟨hf, hk, ha, hs1⟩
 obtain ⟨g1, rfl⟩ := has_upd hf
 clear hf
 refine sq ?_
 refine sq ?_
 refine rg ?_
 refine q trivial rfl rfl (mv (v := I ((k : Nat) : Int)) rfl) ?_
 refine q trivial rfl rfl (mv (v := .slice Azs zs.length czs) rfl) ?_
 refine q trivial rfl rfl (lnA (n := zs.length) sl23 rfl) ?_
 refine q trivial rfl rfl (lss (k := .i64) (a := ((k : Nat) : Int)) (b := ((zs.length : Nat) : Int)) rfl rfl) ?_
 refine nl ?_
 refine nN ?_
 refine cdd (p := ((k : Nat) : Int) < ((zs.length : Nat) : Int)) rfl (fun h1 => ?_) (fun h1 => ?_)
 · refine sk ?_
   refine nN ?_
   refine sq ?_
   refine bl ?_
   refine sq ?_
   refine rg ?_
   refine q trivial rfl rfl (mv (v := .slice Azs zs.length czs) rfl) ?_
   refine q trivial rfl rfl (mv (v := I ((k : Nat) : Int)) rfl) ?_
   refine ixw1 k sl23 rfl rfl hzs (by first | omega | (simp; done) | (simp; omega)) (getm I 0 (by first | omega | (simp; done) | (simp; omega))) trivial rfl (fun a1 ha1 => ?_)
   refine q trivial rfl rfl (lda (v := I (zs.getD k 0)) hs1 ha1 (fun _ h => h) rfl rfl one3) ?_
   refine cl trivial rfl (sIn (x := zs.getD k 0) (lo := 0) (hi := 255) (w := _)) ?_
   rintro _ w2 ⟨rfl, hs2'⟩
   have hs2 : SH w w2 [] [] := hs1.call0 hs2'
   clear hs2'
   refine q trivial rfl rfl (nd (p := 0 ≤ (zs.getD k 0) ∧ (zs.getD k 0) ≤ 255) rfl) ?_
   refine nl ?_
   refine nN ?_
   refine cdd (p := ¬ (0 ≤ (zs.getD k 0) ∧ (zs.getD k 0) ≤ 255)) rfl (fun h2 => ?_) (fun h2 => ?_)
   · refine sq ?_
     refine rg ?_
     refine q trivial rfl rfl (asg (v := .bool false) rfl) ?_
     refine nl ?_
     refine nN ?_
     refine rt (bR (tR (tR (bR (tR ?_)))))
     refine fret (v := .bool false) (.tmp .nil) rfl ?_
     have e1 : false = isBytes zs := by exact bytes_no1 (k := k) (by omega) (by simpa using h2)
     exact ⟨(congrArg (Value.bool) e1), hs2⟩
   · refine sk ?_
     refine bN ?_
     refine nN ?_
     refine rg ?_
     refine q trivial rfl rfl (mv (v := I ((k : Nat) : Int)) rfl) ?_
     refine q trivial rfl rfl (add (a := ((k : Nat) : Int)) (b := 1) rfl rfl (by exact ⟨by omega, by omega⟩)) ?_
     refine q trivial rfl rfl (asg (v := I (((k : Nat) : Int) + 1)) rfl) ?_
     refine nl ?_
     refine nN ?_
     refine ⟨(k + 1), ⟨⟨rfl, rfl, trivial⟩, (by omega), (allB_step (by omega) ha (by simpa using h2)), hs2⟩, ?_⟩
     omega
 · refine ex (tE (tE (bE ?_)))
   refine nN ?_
   refine sq ?_
   refine rg ?_
   refine q trivial rfl rfl (mv (v := .slice Azs zs.length czs) rfl) ?_
   refine q trivial rfl rfl (lnA (n := zs.length) sl23 rfl) ?_
   refine q trivial rfl rfl (leq (k := .i64) (a := ((zs.length : Nat) : Int)) (b := 120) rfl rfl) ?_
   refine q trivial rfl rfl (asg (v := .bool (decide (((zs.length : Nat) : Int) ≤ 120))) rfl) ?_
   refine nl ?_
   refine nN ?_
   refine rt ?_
   refine fret (v := .bool (decide (((zs.length : Nat) : Int) ≤ 120))) (.tmp .nil) rfl ?_
   have e2 : (decide (((zs.length : Nat) : Int) ≤ 120)) = isBytes zs := by exact bytes_yes (k := k) (by omega) ha
   exact ⟨(congrArg (Value.bool) e2), hs1⟩

theorem slIndexFunc (p : Int → Bool) {Azs : Option Addr} {czs : Nat} (zs : List Int) (kf : FuncId) (w : World) (hzs : Sl w [] 1 Azs zs.length czs (zs.map I)) (hf : ∀ (x : Int) (w : World), Does Tryd.prog kf [.int .i64 x] w (fun v w' => v = .bool (p x) ∧ SH w w' [] [])) : Does Tryd.prog 85 [.slice Azs zs.length czs, .func (.func kf) #[] #[]] w (fun v w' => v = .int .i64 (idxF p zs) ∧ SH w w' [] []) := by
 refine fn_enter (N := 19) Tryd.func85 rfl (by kernel_rfl) rfl rfl rfl ?_
 have hs0 : SH w w [] [] := SH.refl w []
 have hzs_m : zs.length ≤ 9223372036854775807 := Nat.le_trans hzs.cap hzs.capMax
 refine sq ?_
 refine rg ?_
 refine q trivial rfl rfl (asg (v := I 0) rfl) ?_
 refine nl ?_
 refine nN ?_
 refine sq ?_
 refine sq ?_
 refine rg ?_
 refine q trivial rfl rfl (mv (v := .slice Azs zs.length czs) rfl) ?_
 refine q trivial rfl rfl (lnA (n := zs.length) sl23 rfl) ?_
 refine q trivial rfl rfl (mv (v := I 0) rfl) ?_
 refine nl ?_
 refine nN ?_
 refine bl ?_
 refine lp (σ := Nat) (fun (k : Nat) f w' => Has f [(0, .slice Azs zs.length czs), (1, .func (.func kf) #[] #[]), (7, I ((zs.length : Nat) : Int)), (8, I ((k : Nat) : Int))] ∧ (k ≤ zs.length) ∧ (∀ j, j < k → p (zs.getD j 0) = false) ∧ SH w w' [] []) (fun k => zs.length - k) 0 ⟨⟨rfl, rfl, rfl, rfl, trivial⟩, (by simp), (by intro j hj; omega), hs0⟩ ?_
 rintro k f w1 ⟨hf, hk, hn, hs1⟩
 obtain ⟨g1, rfl⟩ := has_upd hf
 clear hf
 refine sq ?_
 refine rg ?_
 refine q trivial rfl rfl (lss (k := .i64) (a := ((k : Nat) : Int)) (b := ((zs.length : Nat) : Int)) rfl rfl) ?_
 refine nl ?_
 refine nN ?_
 refine sq ?_
 refine cdd (p := ((k : Nat) : Int) < ((zs.length : Nat) : Int)) rfl (fun h1 => ?_) (fun h1 => ?_)
 · refine sk ?_
   refine nN ?_
   refine sq ?_
   refine bl ?_
   refine sq ?_
   refine rg ?_
   refine q trivial rfl rfl (mv (v := I ((k : Nat) : Int)) rfl) ?_
   refine q trivial rfl rfl (asg (v := I ((k : Nat) : Int)) rfl) ?_
   refine nl ?_
   refine nN ?_
   refine sq ?_
   refine rg ?_
   refine q trivial rfl rfl (mv (v := .func (.func kf) #[] #[]) rfl) ?_
   refine q trivial rfl rfl (mv (v := .slice Azs zs.length czs) rfl) ?_
   refine q trivial rfl rfl (mv (v := I ((k : Nat) : Int)) rfl) ?_
   refine ixw1 k sl23 rfl rfl hzs (by first | omega | (simp; done) | (simp; omega)) (getm I 0 (by first | omega | (simp; done) | (simp; omega))) trivial rfl (fun a1 ha1 => ?_)
   refine q trivial rfl rfl (lda (v := I (zs.getD k 0)) hs1 ha1 (fun _ h => h) rfl rfl one3) ?_
   refine clv (k := kf) trivial rfl rfl (hf (zs.getD k 0) _) ?_
   rintro _ w2 ⟨rfl, hs2'⟩
   have hs2 : SH w w2 [] [] := hs1.call0 hs2'
   clear hs2'
   refine nl ?_
   refine nN ?_
   refine cd (b := p (zs.getD k 0)) rfl (fun h2 => ?_) (fun h2 => ?_)
   · refine sq ?_
     refine rg ?_
     refine q trivial rfl rfl (mv (v := I ((k : Nat) : Int)) rfl) ?_
     refine q trivial rfl rfl (asg (v := I ((k : Nat) : Int)) rfl) ?_
     refine nl ?_
     refine nN ?_
     refine rt (bR (tR (tR (bR (tR ?_)))))
     refine fret (v := I ((k : Nat) : Int)) (.tmp .nil) rfl ?_
     have e1 : ((k : Nat) : Int) = idxF p zs := by exact idxF_eq (by omega) hn h2
     exact ⟨(congrArg (Value.int .i64) e1), hs2⟩
   · refine sk ?_
     refine bN ?_
     refine nN ?_
     refine rg ?_
     refine q trivial rfl rfl (add (a := ((k : Nat) : Int)) (b := 1) rfl rfl (by exact ⟨by omega, by omega⟩)) ?_
     refine q trivial rfl rfl (mv (v := I (((k : Nat) : Int) + 1)) rfl) ?_
     refine nl ?_
     refine nN ?_
     refine ⟨(k + 1), ⟨⟨rfl, rfl, rfl, rfl, trivial⟩, (by omega), (by intro j hj; rcases Nat.lt_succ_iff_lt_or_eq.1 hj with h | h; exact hn j h; subst h; exact h2), hs2⟩, ?_⟩
     omega
 · refine ex (tE (tE (bE ?_)))
   refine nN ?_
   refine sq ?_
   refine rg ?_
   refine q trivial rfl rfl (asg (v := I (-1)) rfl) ?_
   refine nl ?_
   refine nN ?_
   refine rt ?_
   refine fret (v := I (-1)) (.tmp .nil) rfl ?_
   have e2 : (-1) = idxF p zs := by exact idxF_none (fun j hj => hn j (by omega))
   exact ⟨(congrArg (Value.int .i64) e2), hs1⟩

theorem slContainsFunc (p : Int → Bool) {Azs : Option Addr} {czs : Nat} (zs : List Int) (kf : FuncId) (w : World) (hzs : Sl w [] 1 Azs zs.length czs (zs.map I)) (hf : ∀ (x : Int) (w : World), Does Tryd.prog kf [.int .i64 x] w (fun v w' => v = .bool (p x) ∧ SH w w' [] [])) : Does Tryd.prog 79 [.slice Azs zs.length czs, .func (.func kf) #[] #[]] w (fun v w' => v = .bool (zs.any p) ∧ SH w w' [] []) := by
 refine fn_enter (N := 9) Tryd.func79 rfl (by kernel_rfl) rfl rfl rfl ?_
 have hs0 : SH w w [] [] := SH.refl w []
 have hzs_m : zs.length ≤ 9223372036854775807 := Nat.le_trans hzs.cap hzs.capMax
 refine sq ?_
 refine rg ?_
 refine q trivial rfl rfl (asg (v := .bool false) rfl) ?_
 refine nl ?_
 refine nN ?_
 refine sq ?_
 refine rg ?_
 refine q trivial rfl rfl (mv (v := .slice Azs zs.length czs) rfl) ?_
 refine q trivial rfl rfl (mv (v := .func (.func kf) #[] #[]) rfl) ?_
 refine cl trivial rfl (slIndexFunc (p := p) (Azs := Azs) (czs := czs) (zs := zs) (kf := kf) (w := _) (hzs := (hzs.up0 hs0)) (hf := hf)) ?_
 rintro _ w1 ⟨rfl, hs1'⟩
 have hs1 : SH w w1 [] [] := hs0.call0 hs1'
 clear hs1'
 refine q trivial rfl rfl (geq (k := .i64) (a := idxF p zs) (b := 0) rfl rfl) ?_
 refine q trivial rfl rfl (asg (v := .bool (decide ((0 : Int) ≤ (idxF p zs)))) rfl) ?_
 refine nl ?_
 refine nN ?_
 refine rt ?_
 refine fret (v := .bool (decide ((0 : Int) ≤ (idxF p zs)))) (.tmp .nil) rfl ?_
 have e1 : (decide ((0 : Int) ≤ (idxF p zs))) = zs.any p := by exact idxF_any p zs
 exact ⟨(congrArg (Value.bool) e1), hs1⟩

theorem iBytesValid {Azs : Option Addr} {czs : Nat} (zs : List Int) (w : World) (hzs : Sl w [] 1 Azs zs.length czs (zs.map I)) : Does Tryd.prog 70 [.slice Azs zs.length czs] w (fun v w' => v = .bool (isBytes zs) ∧ SH w w' [] []) := by
 refine fn_enter (N := 11) Tryd.func70 rfl (by kernel_rfl) rfl rfl rfl ?_
 have hs0 : SH w w [] [] := SH.refl w []
 have hzs_m : zs.length ≤ 9223372036854775807 := Nat.le_trans hzs.cap hzs.capMax
 refine sq ?_
 refine rg ?_
 refine q trivial rfl rfl (asg (v := .bool false) rfl) ?_
 refine nl ?_
 refine nN ?_
 refine sq ?_
 refine rg ?_
 refine q trivial rfl rfl (mv (v := .slice Azs zs.length czs) rfl) ?_
 refine q trivial rfl rfl (lnA (n := zs.length) sl23 rfl) ?_
 refine q trivial rfl rfl (leq (k := .i64) (a := ((zs.length : Nat) : Int)) (b := 120) rfl rfl) ?_
 refine q trivial rfl rfl (mv (v := .bool (decide (((zs.length : Nat) : Int) ≤ 120))) rfl) ?_
 refine spd (p := ((zs.length : Nat) : Int) ≤ 120) 6 rfl (fun h1 => ?_) (fun h1 => ?_)
 · refine q ⟨_, rfl, rfl⟩ rfl rfl (mv (v := .slice Azs zs.length czs) rfl) ?_
   refine cl ⟨_, rfl, rfl⟩ rfl (slContainsFunc (p := (fun x => (decide (¬ (0 ≤ x ∧ x ≤ 255))))) (Azs := Azs) (czs := czs) (zs := zs) (kf := 80) (w := _) (hzs := (hzs.up0 hs0)) (hf := (fun x w => iBV1 x w))) ?_
   rintro _ w1 ⟨rfl, hs1'⟩
   have hs1 : SH w w1 [] [] := hs0.call0 hs1'
   clear hs1'
   refine q ⟨_, rfl, rfl⟩ rfl rfl (nt (b := zs.any (fun x => (decide (¬ (0 ≤ x ∧ x ≤ 255))))) rfl) ?_
   refine q trivial rfl rfl (pt (v := .bool (!(zs.any (fun x => (decide (¬ (0 ≤ x ∧ x ≤ 255))))))) rfl rfl) ?_
   refine q trivial rfl rfl (asg (v := .bool (!(zs.any (fun x => (decide (¬ (0 ≤ x ∧ x ≤ 255))))))) rfl) ?_
   refine nl ?_
   refine nN ?_
   refine rt ?_
   refine fret (v := .bool (!(zs.any (fun x => (decide (¬ (0 ≤ x ∧ x ≤ 255))))))) (.tmp .nil) rfl ?_
   have e1 : (!(zs.any (fun x => (decide (¬ (0 ≤ x ∧ x ≤ 255)))))) = isBytes zs := by rw [← isBytes_not]; simp [*]
   exact ⟨(congrArg (Value.bool) e1), hs1⟩
 · refine gk false rfl rfl rfl rfl rfl ?_
   refine gk false rfl rfl rfl rfl rfl ?_
   refine gk false rfl rfl rfl rfl rfl ?_
   refine q trivial rfl rfl (pf (v := .bool false) rfl rfl) ?_
   refine q trivial rfl rfl (asg (v := .bool false) rfl) ?_
   refine nl ?_
   refine nN ?_
   refine rt ?_
   refine fret (v := .bool false) (.tmp .nil) rfl ?_
   have e2 : false = isBytes zs := by rw [← isBytes_not]; simp [*]
   exact ⟨(congrArg (Value.bool) e2), hs0⟩

theorem eqIntS {Axs : Option Addr} {cxs : Nat} (xs : List Int) {Abs : Option Addr} {cbs : Nat} (bs : List Int) (w : World) (hxs : Sl w [] 1 Axs xs.length cxs (xs.map I)) (hbs : Sl w [] 1 Abs bs.length cbs (bs.map I)) : Does Tryd.prog 21 [.slice Axs xs.length cxs, .slice Abs bs.length cbs] w (fun v w' => v = .bool (decide (xs = bs)) ∧ SH w w' [] []) := by
 refine fn_enter (N := 26) Tryd.func21 rfl (by kernel_rfl) rfl rfl rfl ?_
 have hs0 : SH w w [] [] := SH.refl w []
 have hxs_m : xs.length ≤ 9223372036854775807 := Nat.le_trans hxs.cap hxs.capMax
 have hbs_m : bs.length ≤ 9223372036854775807 := Nat.le_trans hbs.cap hbs.capMax
 refine sq ?_
 refine rg ?_
 refine q trivial rfl rfl (asg (v := .bool false) rfl) ?_
 refine nl ?_
 refine nN ?_
 refine sq ?_
 refine sq ?_
 refine rg ?_
 refine q trivial rfl rfl (mv (v := .slice Axs xs.length cxs) rfl) ?_
 refine q trivial rfl rfl (lnA (n := xs.length) sl23 rfl) ?_
 refine q trivial rfl rfl (mv (v := .slice Abs bs.length cbs) rfl) ?_
 refine q trivial rfl rfl (lnA (n := bs.length) sl23 rfl) ?_
 refine q trivial rfl rfl (nei (k := .i64) (a := ((xs.length : Nat) : Int)) (b := ((bs.length : Nat) : Int)) rfl rfl) ?_
 refine nl ?_
 refine nN ?_
 refine cdd (p := ((xs.length : Nat) : Int) ≠ ((bs.length : Nat) : Int)) rfl (fun h1 => ?_) (fun h1 => ?_)
 · refine sq ?_
   refine rg ?_
   refine q trivial rfl rfl (asg (v := .bool false) rfl) ?_
   refine nl ?_
   refine nN ?_
   refine rt (tR ?_)
   refine fret (v := .bool false) (.tmp .nil) rfl ?_
   have e1 : false = (decide (xs = bs)) := by simp; intro h; subst h; exact h1 rfl
   exact ⟨(congrArg (Value.bool) e1), hs0⟩
 · refine sk ?_
   refine nN ?_
   refine sq ?_
   refine sq ?_
   refine rg ?_
   refine q trivial rfl rfl (asg (v := I 0) rfl) ?_
   refine nl ?_
   refine nN ?_
   refine bl ?_
   refine lp (σ := Nat) (fun (k : Nat) f w' => Has f [(0, .slice Axs xs.length cxs), (1, .slice Abs bs.length cbs), (5, I ((k : Nat) : Int))] ∧ (xs.length = bs.length) ∧ (k ≤ xs.length) ∧ (xs.take k = bs.take k) ∧ SH w w' [] []) (fun k => xs.length - k) 0 ⟨⟨rfl, rfl, rfl, trivial⟩, (by omega), (by simp), (by simp), hs0⟩ ?_
   rintro k f w1 ⟨hf, hl, hk, ha, hs1⟩
   obtain ⟨g1, rfl⟩ := has_upd hf
   clear hf
   refine sq ?_
   refine sq ?_
   refine rg ?_
   refine q trivial rfl rfl (mv (v := I ((k : Nat) : Int)) rfl) ?_
   refine q trivial rfl rfl (mv (v := .slice Axs xs.length cxs) rfl) ?_
   refine q trivial rfl rfl (lnA (n := xs.length) sl23 rfl) ?_
   refine q trivial rfl rfl (lss (k := .i64) (a := ((k : Nat) : Int)) (b := ((xs.length : Nat) : Int)) rfl rfl) ?_
   refine nl ?_
   refine nN ?_
   refine cdd (p := ((k : Nat) : Int) < ((xs.length : Nat) : Int)) rfl (fun h2 => ?_) (fun h2 => ?_)
   · refine sk ?_
     refine nN ?_
     refine sq ?_
     refine bl ?_
     refine sq ?_
     refine rq (fun w' => SH w w' [] []) mixed (by kernel_rfl) hs1.drew ?_
     refine qq trivial rfl rfl (fun wq hsq => mv (v := .slice Axs xs.length cxs) rfl) ?_
     refine qq trivial rfl rfl (fun wq hsq => mv (v := I ((k : Nat) : Int)) rfl) ?_
     refine ixq1 k sl23 rfl rfl hxs (by first | omega | (simp; done) | (simp; omega)) (getm I 0 (by first | omega | (simp; done) | (simp; omega))) trivial rfl (fun a1 ha1 => ?_)
     refine qq trivial rfl rfl (fun wq hsq => lda (v := I (xs.getD k 0)) hsq ha1 (fun _ h => h) rfl rfl one3) ?_
     refine qq trivial rfl rfl (fun wq hsq => mv (v := .slice Abs bs.length cbs) rfl) ?_
     refine qq trivial rfl rfl (fun wq hsq => mv (v := I ((k : Nat) : Int)) rfl) ?_
     refine ixq1 k sl23 rfl rfl hbs (by first | omega | (simp; done) | (simp; omega)) (getm I 0 (by first | omega | (simp; done) | (simp; omega))) trivial rfl (fun a2 ha2 => ?_)
     refine qq trivial rfl rfl (fun wq hsq => lda (v := I (bs.getD k 0)) hsq ha2 (fun _ h => h) rfl rfl one3) ?_
     refine qq trivial rfl rfl (fun wq hsq => nei (k := .i64) (a := xs.getD k 0) (b := bs.getD k 0) rfl rfl) ?_
     refine qn (fun w2 hs2 => ?_)
     refine nN ?_
     refine cdd (p := (xs.getD k 0) ≠ (bs.getD k 0)) rfl (fun h3 => ?_) (fun h3 => ?_)
     · refine sq ?_
       refine rg ?_
       refine q trivial rfl rfl (asg (v := .bool false) rfl) ?_
       refine nl ?_
       refine nN ?_
       refine rt (bR (tR (tR (bR (tR ?_)))))
       refine fret (v := .bool false) (.tmp .nil) rfl ?_
       have e2 : false = (decide (xs = bs)) := by simp; intro h; subst h; exact h3 rfl
       exact ⟨(congrArg (Value.bool) e2), hs2⟩
     · refine sk ?_
       refine bN ?_
       refine nN ?_
       refine rg ?_
       refine q trivial rfl rfl (mv (v := I ((k : Nat) : Int)) rfl) ?_
       refine q trivial rfl rfl (add (a := ((k : Nat) : Int)) (b := 1) rfl rfl (by exact ⟨by omega, by omega⟩)) ?_
       refine q trivial rfl rfl (asg (v := I (((k : Nat) : Int) + 1)) rfl) ?_
       refine nl ?_
       refine nN ?_
       refine ⟨(k + 1), ⟨⟨rfl, rfl, rfl, trivial⟩, (hl), (by omega), (take_succ_eq (by omega) (by omega) ha (by simpa using h3)), hs2⟩, ?_⟩
       omega
   · refine ex (tE (tE (bE ?_)))
     refine nN ?_
     refine sq ?_
     refine rg ?_
     refine q trivial rfl rfl (asg (v := .bool true) rfl) ?_
     refine nl ?_
     refine nN ?_
     refine rt ?_
     refine fret (v := .bool true) (.tmp .nil) rfl ?_
     have e3 : true = (decide (xs = bs)) := by simp; exact take_all_eq hl (by omega) ha
     exact ⟨(congrArg (Value.bool) e3), hs1⟩

theorem sameBytes {Axs : Option Addr} {cxs : Nat} (xs : List Int) {Abs : Option Addr} {cbs : Nat} (bs : List Int) (w : World) (hxs : Sl w [] 1 Axs xs.length cxs (xs.map I)) (hbs : Sl w [] 1 Abs bs.length cbs (bs.map I)) : Does Tryd.prog 17 [.slice Axs xs.length cxs, .slice Abs bs.length cbs] w (fun v w' => v = .bool (decide (xs = bs)) ∧ SH w w' [] []) := by
 refine fn_enter (N := 26) Tryd.func17 rfl (by kernel_rfl) rfl rfl rfl ?_
 have hs0 : SH w w [] [] := SH.refl w []
 have hxs_m : xs.length ≤ 9223372036854775807 := Nat.le_trans hxs.cap hxs.capMax
 have hbs_m : bs.length ≤ 9223372036854775807 := Nat.le_trans hbs.cap hbs.capMax
 refine sq ?_
 refine rg ?_
 refine q trivial rfl rfl (asg (v := .bool false) rfl) ?_
 refine nl ?_
 refine nN ?_
 refine sq ?_
 refine sq ?_
 refine rg ?_
 refine q trivial rfl rfl (mv (v := .slice Axs xs.length cxs) rfl) ?_
 refine q trivial rfl rfl (lnA (n := xs.length) sl23 rfl) ?_
 refine q trivial rfl rfl (mv (v := .slice Abs bs.length cbs) rfl) ?_
 refine q trivial rfl rfl (lnA (n := bs.length) sl23 rfl) ?_
 refine q trivial rfl rfl (nei (k := .i64) (a := ((xs.length : Nat) : Int)) (b := ((bs.length : Nat) : Int)) rfl rfl) ?_
 refine nl ?_
 refine nN ?_
 refine cdd (p := ((xs.length : Nat) : Int) ≠ ((bs.length : Nat) : Int)) rfl (fun h1 => ?_) (fun h1 => ?_)
 · refine sq ?_
   refine rg ?_
   refine q trivial rfl rfl (asg (v := .bool false) rfl) ?_
   refine nl ?_
   refine nN ?_
   refine rt (tR ?_)
   refine fret (v := .bool false) (.tmp .nil) rfl ?_
   have e1 : false = (decide (xs = bs)) := by simp; intro h; subst h; exact h1 rfl
   exact ⟨(congrArg (Value.bool) e1), hs0⟩
 · refine sk ?_
   refine nN ?_
   refine sq ?_
   refine sq ?_
   refine rg ?_
   refine q trivial rfl rfl (asg (v := I 0) rfl) ?_
   refine nl ?_
   refine nN ?_
   refine bl ?_
   refine lp (σ := Nat) (fun (k : Nat) f w' => Has f [(0, .slice Axs xs.length cxs), (1, .slice Abs bs.length cbs), (5, I ((k : Nat) : Int))] ∧ (xs.length = bs.length) ∧ (k ≤ xs.length) ∧ (xs.take k = bs.take k) ∧ SH w w' [] []) (fun k => xs.length - k) 0 ⟨⟨rfl, rfl, rfl, trivial⟩, (by omega), (by simp), (by simp), hs0⟩ ?_
   rintro k f w1 ⟨hf, hl, hk, ha, hs1⟩
   obtain ⟨g1, rfl⟩ := has_upd hf
   clear hf
   refine sq ?_
   refine sq ?_
   refine rg ?_
   refine q trivial rfl rfl (mv (v := I ((k : Nat) : Int)) rfl) ?_
   refine q trivial rfl rfl (mv (v := .slice Axs xs.length cxs) rfl) ?_
   refine q trivial rfl rfl (lnA (n := xs.length) sl23 rfl) ?_
   refine q trivial rfl rfl (lss (k := .i64) (a := ((k : Nat) : Int)) (b := ((xs.length : Nat) : Int)) rfl rfl) ?_
   refine nl ?_
   refine nN ?_
   refine cdd (p := ((k : Nat) : Int) < ((xs.length : Nat) : Int)) rfl (fun h2 => ?_) (fun h2 => ?_)
   · refine sk ?_
     refine nN ?_
     refine sq ?_
     refine bl ?_
     refine sq ?_
     refine rq (fun w' => SH w w' [] []) mixed (by kernel_rfl) hs1.drew ?_
     refine qq trivial rfl rfl (fun wq hsq => mv (v := .slice Axs xs.length cxs) rfl) ?_
     refine qq trivial rfl rfl (fun wq hsq => mv (v := I ((k : Nat) : Int)) rfl) ?_
     refine ixq1 k sl23 rfl rfl hxs (by first | omega | (simp; done) | (simp; omega)) (getm I 0 (by first | omega | (simp; done) | (simp; omega))) trivial rfl (fun a1 ha1 => ?_)
     refine qq trivial rfl rfl (fun wq hsq => lda (v := I (xs.getD k 0)) hsq ha1 (fun _ h => h) rfl rfl one3) ?_
     refine qq trivial rfl rfl (fun wq hsq => mv (v := .slice Abs bs.length cbs) rfl) ?_
     refine qq trivial rfl rfl (fun wq hsq => mv (v := I ((k : Nat) : Int)) rfl) ?_
     refine ixq1 k sl23 rfl rfl hbs (by first | omega | (simp; done) | (simp; omega)) (getm I 0 (by first | omega | (simp; done) | (simp; omega))) trivial rfl (fun a2 ha2 => ?_)
     refine qq trivial rfl rfl (fun wq hsq => lda (v := I (bs.getD k 0)) hsq ha2 (fun _ h => h) rfl rfl one3) ?_
     refine qq trivial rfl rfl (fun wq hsq => nei (k := .i64) (a := xs.getD k 0) (b := bs.getD k 0) rfl rfl) ?_
     refine qn (fun w2 hs2 => ?_)
     refine nN ?_
     refine cdd (p := (xs.getD k 0) ≠ (bs.getD k 0)) rfl (fun h3 => ?_) (fun h3 => ?_)
     · refine sq ?_
       refine rg ?_
       refine q trivial rfl rfl (asg (v := .bool false) rfl) ?_
       refine nl ?_
       refine nN ?_
       refine rt (bR (tR (tR (bR (tR ?_)))))
       refine fret (v := .bool false) (.tmp .nil) rfl ?_
       have e2 : false = (decide (xs = bs)) := by simp; intro h; subst h; exact h3 rfl
       exact ⟨(congrArg (Value.bool) e2), hs2⟩
     · refine sk ?_
       refine bN ?_
       refine nN ?_
       refine rg ?_
       refine q trivial rfl rfl (mv (v := I ((k : Nat) : Int)) rfl) ?_
       refine q trivial rfl rfl (add (a := ((k : Nat) : Int)) (b := 1) rfl rfl (by exact ⟨by omega, by omega⟩)) ?_
       refine q trivial rfl rfl (asg (v := I (((k : Nat) : Int) + 1)) rfl) ?_
       refine nl ?_
       refine nN ?_
       refine ⟨(k + 1), ⟨⟨rfl, rfl, rfl, trivial⟩, (hl), (by omega), (take_succ_eq (by omega) (by omega) ha (by simpa using h3)), hs2⟩, ?_⟩
       omega
   · refine ex (tE (tE (bE ?_)))
     refine nN ?_
     refine sq ?_
     refine rg ?_
     refine q trivial rfl rfl (asg (v := .bool true) rfl) ?_
     refine nl ?_
     refine nN ?_
     refine rt ?_
     refine fret (v := .bool true) (.tmp .nil) rfl ?_
     have e3 : true = (decide (xs = bs)) := by simp; exact take_all_eq hl (by omega) ha
     exact ⟨(congrArg (Value.bool) e3), hs1⟩

theorem heldIntS {Axs : Option Addr} {cxs : Nat} (xs : List Int) (k0 : Int) (w : World) (hxs : Sl w [] 1 Axs xs.length cxs (xs.map I)) (hxs_n : xs.length ≤ 1099511627776) (hk0 : 0 ≤ k0 ∧ k0 ≤ 4294967296) : Does Tryd.prog 24 [.slice Axs xs.length cxs, I k0] w (fun v w' => v = .int .i64 (heldI xs k0) ∧ SH w w' [] []) := by
 refine fn_enter (N := 21) Tryd.func24 rfl (by kernel_rfl) rfl rfl rfl ?_
 have hs0 : SH w w [] [] := SH.refl w []
 have hxs_m : xs.length ≤ 9223372036854775807 := Nat.le_trans hxs.cap hxs.capMax
 refine sq ?_
 refine rg ?_
 refine q trivial rfl rfl (asg (v := I 0) rfl) ?_
 refine nl ?_
 refine nN ?_
 refine sq ?_
 refine sq ?_
 refine rg ?_
 refine q trivial rfl rfl (asg (v := I 0) rfl) ?_
 refine nl ?_
 refine nN ?_
 refine bl ?_
 refine lp (σ := Nat) (fun (k : Nat) f w' => Has f [(0, .slice Axs xs.length cxs), (1, I (k0 + (k : Nat))), (5, I ((k : Nat) : Int))] ∧ (k ≤ xs.length) ∧ (xs.take k = marks k0 k) ∧ SH w w' [] []) (fun k => xs.length - k) 0 ⟨⟨rfl, (show (I k0 : Value) = I (k0 + (0 : Nat)) from congrArg (Value.int .i64) (by simp)), rfl, trivial⟩, (by simp), (by simp [marks]), hs0⟩ ?_
 rintro k f w1 ⟨hf, hk, hm, hs1⟩
 obtain ⟨g1, rfl⟩ := has_upd hf
 clear hf
 refine sq ?_
 refine sq ?_
 refine rg ?_
 refine q trivial rfl rfl (mv (v := I ((k : Nat) : Int)) rfl) ?_
 refine q trivial rfl rfl (mv (v := .slice Axs xs.length cxs) rfl) ?_
 refine q trivial rfl rfl (lnA (n := xs.length) sl23 rfl) ?_
 refine q trivial rfl rfl (lss (k := .i64) (a := ((k : Nat) : Int)) (b := ((xs.length : Nat) : Int)) rfl rfl) ?_
 refine nl ?_
 refine nN ?_
 refine cdd (p := ((k : Nat) : Int) < ((xs.length : Nat) : Int)) rfl (fun h1 => ?_) (fun h1 => ?_)
 · refine sk ?_
   refine nN ?_
   refine sq ?_
   refine bl ?_
   refine sq ?_
   refine sq ?_
   refine rg ?_
   refine q trivial rfl rfl (mv (v := .slice Axs xs.length cxs) rfl) ?_
   refine q trivial rfl rfl (mv (v := I ((k : Nat) : Int)) rfl) ?_
   refine ixw1 k sl23 rfl rfl hxs (by first | omega | (simp; done) | (simp; omega)) (getm I 0 (by first | omega | (simp; done) | (simp; omega))) trivial rfl (fun a1 ha1 => ?_)
   refine q trivial rfl rfl (lda (v := I (xs.getD k 0)) hs1 ha1 (fun _ h => h) rfl rfl one3) ?_
   refine q trivial rfl rfl (mv (v := I (k0 + (k : Nat))) rfl) ?_
   refine q trivial rfl rfl (nei (k := .i64) (a := xs.getD k 0) (b := k0 + (k : Nat)) rfl rfl) ?_
   refine nl ?_
   refine nN ?_
   refine cdd (p := (xs.getD k 0) ≠ (k0 + (k : Nat))) rfl (fun h2 => ?_) (fun h2 => ?_)
   · refine sq ?_
     refine rg ?_
     refine q trivial rfl rfl (asg (v := I (-1)) rfl) ?_
     refine nl ?_
     refine nN ?_
     refine rt (tR (bR (tR (tR (bR (tR ?_))))))
     refine fret (v := I (-1)) (.tmp .nil) rfl ?_
     have e1 : (-1) = heldI xs k0 := by exact held_no (by omega) hm (by omega)
     exact ⟨(congrArg (Value.int .i64) e1), hs1⟩
   · refine sk ?_
     refine nN ?_
     refine rg ?_
     refine q trivial rfl rfl (mv (v := I (k0 + (k : Nat))) rfl) ?_
     refine q trivial rfl rfl (add (a := k0 + (k : Nat)) (b := 1) rfl rfl (by exact ⟨by omega, by omega⟩)) ?_
     refine q trivial rfl rfl (asg (v := I ((k0 + (k : Nat)) + 1)) rfl) ?_
     refine nl ?_
     refine bN ?_
     refine nN ?_
     refine rg ?_
     refine q trivial rfl rfl (mv (v := I ((k : Nat) : Int)) rfl) ?_
     refine q trivial rfl rfl (add (a := ((k : Nat) : Int)) (b := 1) rfl rfl (by exact ⟨by omega, by omega⟩)) ?_
     refine q trivial rfl rfl (asg (v := I (((k : Nat) : Int) + 1)) rfl) ?_
     refine nl ?_
     refine nN ?_
     refine ⟨(k + 1), ⟨⟨rfl, (show (I ((k0 + (k : Nat)) + 1) : Value) = I (k0 + ((k + 1) : Nat)) from congrArg (Value.int .i64) (by omega)), rfl, trivial⟩, (by omega), (marks_take (by omega) hm (by omega)), hs1⟩, ?_⟩
     omega
 · refine ex (tE (tE (bE ?_)))
   refine nN ?_
   refine sq ?_
   refine rg ?_
   refine q trivial rfl rfl (mv (v := I (k0 + (k : Nat))) rfl) ?_
   refine q trivial rfl rfl (asg (v := I (k0 + (k : Nat))) rfl) ?_
   refine nl ?_
   refine nN ?_
   refine rt ?_
   refine fret (v := I (k0 + (k : Nat))) (.tmp .nil) rfl ?_
   have e2 : k0 + (k : Nat) = heldI xs k0 := by have : k = xs.length := (by omega); subst this; exact held_yes (by simpa using hm)
   exact ⟨(congrArg (Value.int .i64) e2), hs1⟩

theorem slIndexByte (l : List UInt8) (c : UInt8) (w : World)  : Does Tryd.prog 89 [Str l, .int .u8 ((c.toNat : Nat) : Int)] w (fun v w' => v = .int .i64 (idxB l c) ∧ SH w w' [] []) := by
 refine fn_enter (N := 8) Tryd.func89 rfl (by kernel_rfl) rfl rfl rfl ?_
 have hs0 : SH w w [] [] := SH.refl w []
 refine sq ?_
 refine rg ?_
 refine q trivial rfl rfl (asg (v := I 0) rfl) ?_
 refine nl ?_
 refine nN ?_
 refine sq ?_
 refine rg ?_
 refine q trivial rfl rfl (mv (v := Str l) rfl) ?_
 refine q trivial rfl rfl (mv (v := .int .u8 ((c.toNat : Nat) : Int)) rfl) ?_
 refine q trivial rfl rfl (ibs (l := l) (c := c) Tryd.func94 (by kernel_rfl) rfl (by kernel_rfl) (by kernel_rfl) rfl rfl) ?_
 refine q trivial rfl rfl (asg (v := I (idxB l c)) rfl) ?_
 refine nl ?_
 refine nN ?_
 refine rt ?_
 refine fret (v := I (idxB l c)) (.tmp .nil) rfl ?_
 exact ⟨rfl, hs0⟩

theorem stIndexByte (l : List UInt8) (c : UInt8) (w : World)  : Does Tryd.prog 83 [Str l, .int .u8 ((c.toNat : Nat) : Int)] w (fun v w' => v = .int .i64 (idxB l c) ∧ SH w w' [] []) := by
 refine fn_enter (N := 8) Tryd.func83 rfl (by kernel_rfl) rfl rfl rfl ?_
 have hs0 : SH w w [] [] := SH.refl w []
 refine sq ?_
 refine rg ?_
 refine q trivial rfl rfl (asg (v := I 0) rfl) ?_
 refine nl ?_
 refine nN ?_
 refine sq ?_
 refine rg ?_
 refine q trivial rfl rfl (mv (v := Str l) rfl) ?_
 refine q trivial rfl rfl (mv (v := .int .u8 ((c.toNat : Nat) : Int)) rfl) ?_
 refine cl trivial rfl (slIndexByte (l := l) (c := c) (w := _)) ?_
 rintro _ w1 ⟨rfl, hs1'⟩
 have hs1 : SH w w1 [] [] := hs0.call0 hs1'
 clear hs1'
 refine q trivial rfl rfl (asg (v := I (idxB l c)) rfl) ?_
 refine nl ?_
 refine nN ?_
 refine rt ?_
 refine fret (v := I (idxB l c)) (.tmp .nil) rfl ?_
 exact ⟨rfl, hs1⟩

theorem markIntS {Axs : Option Addr} {cxs : Nat} (xs : List Int) (k0 : Int) (w : World) (hxs : OwnR w Axs xs.length cxs 3 1 (xs.map I)) (hxs_n : xs.length ≤ 1099511627776) (hk0 : 0 ≤ k0 ∧ k0 ≤ 4294967296) : Does Tryd.prog 23 [.slice Axs xs.length cxs, I k0] w (fun v w' => v = .int .i64 (k0 + ((xs.length : Nat) : Int)) ∧ SH w w' (ownM Axs cxs ++ []) [.own Axs xs.length cxs 3 1 ((marks k0 xs.length).map I)]) := by
 refine fn_enter (N := 19) Tryd.func23 rfl (by kernel_rfl) rfl rfl rfl ?_
 have hs0 : SH w w (ownM Axs cxs ++ []) [.own Axs xs.length cxs 3 1 (xs.map I)] := entry1o hxs
 have hxs_m : xs.length ≤ 9223372036854775807 := Nat.le_trans hxs.2.1 hxs.2.2.1
 refine sq ?_
 refine rg ?_
 refine q trivial rfl rfl (asg (v := I 0) rfl) ?_
 refine nl ?_
 refine nN ?_
 refine sq ?_
 refine sq ?_
 refine rg ?_
 refine q trivial rfl rfl (asg (v := I 0) rfl) ?_
 refine nl ?_
 refine nN ?_
 refine bl ?_
 have e1 : xs = marks k0 0 ++ xs.drop 0 := by simp [marks]
 refine lp (σ := (Option Addr) × Nat × Nat) (fun ⟨Ag0, cg0, k⟩ f w' => Has f [(0, .slice Ag0 xs.length cg0), (1, I (k0 + (k : Nat))), (5, I ((k : Nat) : Int))] ∧ (k ≤ xs.length) ∧ (Ag0 = Axs) ∧ (cg0 = cxs) ∧ SH w w' (ownM Axs cxs ++ []) [.own Ag0 xs.length cg0 3 1 ((marks k0 k ++ xs.drop k).map I)]) (fun ⟨Ag0, cg0, k⟩ => xs.length - k) (Axs, cxs, 0) ⟨⟨rfl, (show (I k0 : Value) = I (k0 + (0 : Nat)) from congrArg (Value.int .i64) (by simp)), rfl, trivial⟩, (by simp), (rfl), (rfl), (hs0.cast (lc (own_eq (g := I) rfl rfl rfl e1) rfl))⟩ ?_
 rintro ⟨Ag0, cg0, k⟩ f w1 ⟨hf, hk, hA, hC, hs1⟩
 obtain ⟨g1, rfl⟩ := has_upd hf
 clear hf
 refine sq ?_
 refine sq ?_
 refine rg ?_
 refine q trivial rfl rfl (mv (v := I ((k : Nat) : Int)) rfl) ?_
 refine q trivial rfl rfl (mv (v := .slice Ag0 xs.length cg0) rfl) ?_
 refine q trivial rfl rfl (lnA (n := xs.length) sl23 rfl) ?_
 refine q trivial rfl rfl (lss (k := .i64) (a := ((k : Nat) : Int)) (b := ((xs.length : Nat) : Int)) rfl rfl) ?_
 refine nl ?_
 refine nN ?_
 refine cdd (p := ((k : Nat) : Int) < ((xs.length : Nat) : Int)) rfl (fun h1 => ?_) (fun h1 => ?_)
 · refine sk ?_
   refine nN ?_
   refine sq ?_
   refine bl ?_
   refine sq ?_
   refine rg ?_
   refine q trivial rfl rfl (mv (v := .slice Ag0 xs.length cg0) rfl) ?_
   refine q trivial rfl rfl (mv (v := I ((k : Nat) : Int)) rfl) ?_
   refine q trivial rfl rfl (mv (v := I (k0 + (k : Nat))) rfl) ?_
   obtain ⟨b1, rfl⟩ := own_form hs1 0 rfl (by first | omega | (simp; done) | (simp; omega))
   refine q trivial rfl rfl (ixo k sl23 rfl rfl (by first | omega | (simp; done) | (simp; omega))) ?_
   refine stomn (g := I) (ys := marks k0 k ++ xs.drop k) (o := k) (u := k0 + (k : Nat)) hs1 0 rfl rfl rfl rfl (by omega) rfl one3 trivial (fun w2 (hs2 : SH w w2 (ownM Axs cxs ++ []) [.own (some ⟨b1, 0, none⟩) xs.length cg0 3 1 (((marks k0 k ++ xs.drop k).set k (k0 + (k : Nat))).map I)]) => ?_)
   refine nl ?_
   refine nN ?_
   refine rg ?_
   refine q trivial rfl rfl (mv (v := I (k0 + (k : Nat))) rfl) ?_
   refine q trivial rfl rfl (add (a := k0 + (k : Nat)) (b := 1) rfl rfl (by exact ⟨by omega, by omega⟩)) ?_
   refine q trivial rfl rfl (asg (v := I ((k0 + (k : Nat)) + 1)) rfl) ?_
   refine nl ?_
   refine bN ?_
   refine nN ?_
   refine rg ?_
   refine q trivial rfl rfl (mv (v := I ((k : Nat) : Int)) rfl) ?_
   refine q trivial rfl rfl (add (a := ((k : Nat) : Int)) (b := 1) rfl rfl (by exact ⟨by omega, by omega⟩)) ?_
   refine q trivial rfl rfl (asg (v := I (((k : Nat) : Int) + 1)) rfl) ?_
   refine nl ?_
   refine nN ?_
   have e2 : (marks k0 k ++ xs.drop k).set k (k0 + (k : Nat)) = marks k0 (k + 1) ++ xs.drop (k + 1) := by exact marks_set (by omega)
   refine ⟨((some ⟨b1, 0, none⟩), cg0, k + 1), ⟨⟨rfl, (show (I ((k0 + (k : Nat)) + 1) : Value) = I (k0 + ((k + 1) : Nat)) from congrArg (Value.int .i64) (by omega)), rfl, trivial⟩, (by omega), (hA), (hC), (hs2.cast (lc (own_eq (g := I) rfl rfl rfl e2) rfl))⟩, ?_⟩
   show xs.length - (k + 1) < xs.length - k
   omega
 · refine ex (tE (tE (bE ?_)))
   refine nN ?_
   refine sq ?_
   refine rg ?_
   refine q trivial rfl rfl (mv (v := I (k0 + (k : Nat))) rfl) ?_
   refine q trivial rfl rfl (asg (v := I (k0 + (k : Nat))) rfl) ?_
   refine nl ?_
   refine nN ?_
   refine rt ?_
   refine fret (v := I (k0 + (k : Nat))) (.tmp .nil) rfl ?_
   have e3 : k0 + (k : Nat) = k0 + ((xs.length : Nat) : Int) := by have : k = xs.length := (by omega); subst this; rfl
   have e4 : Ag0 = Axs := by assumption
   have e5 : cg0 = cxs := by assumption
   have e6 : marks k0 k ++ xs.drop k = marks k0 xs.length := by have : k = xs.length := (by omega); subst this; simp
   exact ⟨(congrArg (Value.int .i64) e3), (hs1.cast (lc (own_eq (g := I) e4 rfl e5 e6) rfl))⟩

theorem toIntS {Axs : Option Addr} {cxs : Nat} (xs : List Int) (w : World) (hxs : Sl w [] 1 Axs xs.length cxs (xs.map I)) (hxs_n : xs.length ≤ 1099511627776) : Does Tryd.prog 38 [.slice Axs xs.length cxs] w (fun v w' => ∃ Ar : Option Addr, ∃ cr : Nat, v = .slice Ar xs.length cr ∧ SH w w' [] [.own Ar xs.length cr 3 1 (xs.map I)]) := by
 refine fn_enter (N := 22) Tryd.func38 rfl (by kernel_rfl) rfl rfl rfl ?_
 have hs0 : SH w w [] [] := SH.refl w []
 have hxs_m : xs.length ≤ 9223372036854775807 := Nat.le_trans hxs.cap hxs.capMax
 refine sq ?_
 refine rg ?_
 refine q trivial rfl rfl (asg (v := ns) rfl) ?_
 refine nl ?_
 refine nN ?_
 refine sq ?_
 refine rg ?_
 refine q trivial rfl rfl (mv (v := .slice Axs xs.length cxs) rfl) ?_
 refine q trivial rfl rfl (lnA (n := xs.length) sl23 rfl) ?_
 refine mkm (g := I) (z := 0) (n := xs.length) hs0 sl23 rfl rfl rfl (by omega) (by unfold maxLen; omega) trivial rfl (fun b1 w1 (hs1 : SH w w1 [] [oI b1 (List.replicate xs.length (0 : Int)) xs.length 3]) => ?_)
 refine q trivial rfl rfl (asg (v := sb b1 ((List.replicate xs.length (0 : Int)).length) xs.length) rfl) ?_
 refine nl ?_
 refine nN ?_
 refine sq ?_
 refine sq ?_
 refine rg ?_
 refine q trivial rfl rfl (asg (v := I 0) rfl) ?_
 refine nl ?_
 refine nN ?_
 refine bl ?_
 have e1 : List.replicate xs.length (0 : Int) = xs.take 0 ++ List.replicate (xs.length - 0) (0 : Int) := by simp
 have e2 : (List.replicate xs.length (0 : Int)).length = xs.length := by first | rfl | (simp; done) | (simp; omega) | omega
 refine lp (σ := (Option Addr) × Nat × Nat) (fun ⟨Ag3, cg3, k⟩ f w' => Has f [(0, .slice Axs xs.length cxs), (3, .slice Ag3 xs.length cg3), (4, I ((k : Nat) : Int))] ∧ (k ≤ xs.length) ∧ SH w w' [] [.own Ag3 xs.length cg3 3 1 ((xs.take k ++ List.replicate (xs.length - k) (0 : Int)).map I)]) (fun ⟨Ag3, cg3, k⟩ => xs.length - k) ((some ⟨b1, 0, none⟩), xs.length, 0) ⟨⟨rfl, (show (.slice (some ⟨b1, 0, none⟩) ((List.replicate xs.length (0 : Int)).length) xs.length : Value) = .slice (some ⟨b1, 0, none⟩) xs.length xs.length from slv rfl e2 rfl), rfl, trivial⟩, (by simp), (hs1.cast (lc (own_eq (g := I) rfl e2 rfl e1) rfl))⟩ ?_
 rintro ⟨Ag3, cg3, k⟩ f w2 ⟨hf, hk, hs2⟩
 obtain ⟨g1, rfl⟩ := has_upd hf
 clear hf
 refine sq ?_
 refine sq ?_
 refine rg ?_
 refine q trivial rfl rfl (mv (v := I ((k : Nat) : Int)) rfl) ?_
 refine q trivial rfl rfl (mv (v := .slice Axs xs.length cxs) rfl) ?_
 refine q trivial rfl rfl (lnA (n := xs.length) sl23 rfl) ?_
 refine q trivial rfl rfl (lss (k := .i64) (a := ((k : Nat) : Int)) (b := ((xs.length : Nat) : Int)) rfl rfl) ?_
 refine nl ?_
 refine nN ?_
 refine cdd (p := ((k : Nat) : Int) < ((xs.length : Nat) : Int)) rfl (fun h1 => ?_) (fun h1 => ?_)
 · refine sk ?_
   refine nN ?_
   refine sq ?_
   refine bl ?_
   refine rg ?_
   refine q trivial rfl rfl (mv (v := .slice Ag3 xs.length cg3) rfl) ?_
   refine q trivial rfl rfl (mv (v := I ((k : Nat) : Int)) rfl) ?_
   refine q trivial rfl rfl (mv (v := .slice Axs xs.length cxs) rfl) ?_
   refine q trivial rfl rfl (mv (v := I ((k : Nat) : Int)) rfl) ?_
   refine ixw1 k sl23 rfl rfl hxs (by first | omega | (simp; done) | (simp; omega)) (getm I 0 (by first | omega | (simp; done) | (simp; omega))) trivial rfl (fun a1 ha1 => ?_)
   refine q trivial rfl rfl (lda (v := I (xs.getD k 0)) hs2 ha1 (fun _ h => h) rfl rfl one3) ?_
   obtain ⟨b2, rfl⟩ := own_form hs2 0 rfl (by first | omega | (simp; done) | (simp; omega))
   refine q trivial rfl rfl (ixo k sl23 rfl rfl (by first | omega | (simp; done) | (simp; omega))) ?_
   refine stomn (g := I) (ys := xs.take k ++ List.replicate (xs.length - k) (0 : Int)) (o := k) (u := xs.getD k 0) hs2 0 rfl rfl rfl rfl (by first | omega | (simp; done) | (simp; omega)) rfl one3 trivial (fun w3 (hs3 : SH w w3 [] [.own (some ⟨b2, 0, none⟩) xs.length cg3 3 1 (((xs.take k ++ List.replicate (xs.length - k) (0 : Int)).set k (xs.getD k 0)).map I)]) => ?_)
   refine nl ?_
   refine bN ?_
   refine nN ?_
   refine rg ?_
   refine q trivial rfl rfl (mv (v := I ((k : Nat) : Int)) rfl) ?_
   refine q trivial rfl rfl (add (a := ((k : Nat) : Int)) (b := 1) rfl rfl (by exact ⟨by omega, by omega⟩)) ?_
   refine q trivial rfl rfl (asg (v := I (((k : Nat) : Int) + 1)) rfl) ?_
   refine nl ?_
   refine nN ?_
   have e3 : (xs.take k ++ List.replicate (xs.length - k) (0 : Int)).set k (xs.getD k 0) = xs.take (k + 1) ++ List.replicate (xs.length - (k + 1)) (0 : Int) := by exact copy_set (by omega)
   refine ⟨((some ⟨b2, 0, none⟩), cg3, k + 1), ⟨⟨rfl, rfl, rfl, trivial⟩, (by omega), (hs3.cast (lc (own_eq (g := I) rfl rfl rfl e3) rfl))⟩, ?_⟩
   show xs.length - (k + 1) < xs.length - k
   omega
 · refine ex (tE (tE (bE ?_)))
   refine nN ?_
   refine sq ?_
   refine rg ?_
   refine q trivial rfl rfl (mv (v := .slice Ag3 xs.length cg3) rfl) ?_
   refine q trivial rfl rfl (asg (v := .slice Ag3 xs.length cg3) rfl) ?_
   refine nl ?_
   refine nN ?_
   refine rt ?_
   refine fret (v := .slice Ag3 xs.length cg3) (.tmp .nil) rfl ?_
   have e4 : xs.take k ++ List.replicate (xs.length - k) (0 : Int) = xs := by have : k = xs.length := (by omega); subst this; simp
   exact ⟨Ag3, cg3, rfl, (hs2.cast (lc (own_eq (g := I) rfl rfl rfl e4) rfl))⟩

theorem pick {rb : Nat} {Ab : Option Addr} {cb : Nat} {bs : List UInt8} {p : Nat} (n : Int) (w : World) (hr : w.heap[rb]? = some (.cells [.slice Ab bs.length cb, .int .i64 ((p : Nat) : Int)].toArray 78 (0, 0))) (hb : Sl w [rb] 1 Ab bs.length cb (bs.map U)) (hbn : bs.length ≤ 2000) (hp : p ≤ 1099511627776) : Does Tryd.prog 43 [pb rb, I n] w (fun v w' => ∃ r : Int, ∃ q : Nat, v = .int .i64 r ∧ (0 ≤ r ∧ (r < n ∨ r = 0)) ∧ (q ≤ p + 1) ∧ SH w w' [rb] [.blk rb 78 [.slice Ab bs.length cb, I ((q : Nat) : Int)]]) := by
 refine fn_enter (N := 99) Tryd.func43 rfl (by kernel_rfl) rfl rfl rfl ?_
 have hs0 : SH w w [rb] [.blk rb 78 [.slice Ab bs.length cb, I ((p : Nat) : Int)]] := SH.entry1 hr
 refine sq ?_
 refine rg ?_
 refine q trivial rfl rfl (asg (v := I 0) rfl) ?_
 refine nl ?_
 refine nN ?_
 refine sq ?_
 refine rg ?_
 refine q trivial rfl rfl (mv (v := pb rb) rfl) ?_
 refine q trivial rfl rfl (mv (v := pb rb) rfl) ?_
 refine q trivial rfl rfl (nc rfl) ?_
 refine q trivial rfl rfl (fa 1 fo78_1 rfl) ?_
 refine q trivial rfl rfl (ld (v := I ((p : Nat) : Int)) hs0 0 rfl rfl rfl one3) ?_
 refine q trivial rfl rfl (add (a := ((p : Nat) : Int)) (b := 1) rfl rfl (by have h1_ := u8_bd (bs.getD ((p + 1 - 1) % bs.length) 0); have h2_ := u8_bd (bs.getD (((p + 1 - 1) * 7 + 3) % bs.length) 0); have h3_ := div_bd (p + 1 - 1) bs.length; exact ⟨by omega, by omega⟩)) ?_
 refine q trivial rfl rfl (nc rfl) ?_
 refine q trivial rfl rfl (fa 1 fo78_1 rfl) ?_
 refine st (v := I (((p : Nat) : Int) + 1)) hs0 0 rfl rfl rfl rfl rfl one3 trivial (fun w1 (hs1 : SH w w1 [rb] [.blk rb 78 [.slice Ab bs.length cb, I (((p : Nat) : Int) + 1)]]) => ?_)
 refine nl ?_
 refine nN ?_
 refine sq ?_
 refine sq ?_
 refine rg ?_
 refine q trivial rfl rfl (mv (v := I n) rfl) ?_
 refine q trivial rfl rfl (lss (k := .i64) (a := n) (b := 1) rfl rfl) ?_
 refine q trivial rfl rfl (mv (v := .bool (decide (n < 1))) rfl) ?_
 refine spd (p := n < 1) 17 rfl (fun h1 => ?_) (fun h1 => ?_)
 · refine gk true rfl rfl rfl rfl rfl ?_
   refine gk true rfl rfl rfl rfl rfl ?_
   refine gk true rfl rfl rfl rfl rfl ?_
   refine gk true rfl rfl rfl rfl rfl ?_
   refine gk true rfl rfl rfl rfl rfl ?_
   refine gk true rfl rfl rfl rfl rfl ?_
   refine q trivial rfl rfl (pt (v := .bool true) rfl rfl) ?_
   refine nl ?_
   refine nN ?_
   refine cdt rfl ?_
   refine sq ?_
   refine rg ?_
   refine q trivial rfl rfl (asg (v := I 0) rfl) ?_
   refine nl ?_
   refine nN ?_
   refine rt (tR ?_)
   refine fret (v := I 0) (.tmp .nil) rfl ?_
   exact ⟨0, p + 1, rfl, (by simp), (by omega), hs1⟩
 · refine q ⟨_, rfl, rfl⟩ rfl rfl (mv (v := pb rb) rfl) ?_
   refine q ⟨_, rfl, rfl⟩ rfl rfl (nc rfl) ?_
   refine q ⟨_, rfl, rfl⟩ rfl rfl (fa 0 fo78_0 rfl) ?_
   refine q ⟨_, rfl, rfl⟩ rfl rfl (ld (v := .slice Ab bs.length cb) hs1 0 rfl rfl rfl one22) ?_
   refine q ⟨_, rfl, rfl⟩ rfl rfl (lnA (n := bs.length) sl22 rfl) ?_
   refine q ⟨_, rfl, rfl⟩ rfl rfl (eqi (k := .i64) (a := ((bs.length : Nat) : Int)) (b := 0) rfl rfl) ?_
   refine q trivial rfl rfl (pf (v := .bool (decide (((bs.length : Nat) : Int) = 0))) rfl rfl) ?_
   refine nl ?_
   refine nN ?_
   refine cdd (p := ((bs.length : Nat) : Int) = 0) rfl (fun h2 => ?_) (fun h2 => ?_)
   · refine sq ?_
     refine rg ?_
     refine q trivial rfl rfl (asg (v := I 0) rfl) ?_
     refine nl ?_
     refine nN ?_
     refine rt (tR ?_)
     refine fret (v := I 0) (.tmp .nil) rfl ?_
     exact ⟨0, p + 1, rfl, (by simp), (by omega), hs1⟩
   · refine sk ?_
     refine nN ?_
     refine sq ?_
     refine rg ?_
     refine q trivial rfl rfl (mv (v := pb rb) rfl) ?_
     refine q trivial rfl rfl (nc rfl) ?_
     refine q trivial rfl rfl (fa 1 fo78_1 rfl) ?_
     refine q trivial rfl rfl (ld (v := I (((p : Nat) : Int) + 1)) hs1 0 rfl rfl rfl one3) ?_
     refine q trivial rfl rfl (subN (a := p + 1) (b := 1) rfl rfl (by omega) (by omega)) ?_
     refine q trivial rfl rfl (asg (v := I (((p + 1) - 1 : Nat) : Int)) rfl) ?_
     refine nl ?_
     refine nN ?_
     refine sq ?_
     refine sq ?_
     refine rg ?_
     refine q trivial rfl rfl (mv (v := I (((p + 1) - 1 : Nat) : Int)) rfl) ?_
     refine q trivial rfl rfl (mv (v := pb rb) rfl) ?_
     refine q trivial rfl rfl (nc rfl) ?_
     refine q trivial rfl rfl (fa 0 fo78_0 rfl) ?_
     refine q trivial rfl rfl (ld (v := .slice Ab bs.length cb) hs1 0 rfl rfl rfl one22) ?_
     refine q trivial rfl rfl (lnA (n := bs.length) sl22 rfl) ?_
     refine q trivial rfl rfl (lss (k := .i64) (a := (((p + 1) - 1 : Nat) : Int)) (b := ((bs.length : Nat) : Int)) rfl rfl) ?_
     refine nl ?_
     refine nN ?_
     refine cdd (p := (((p + 1) - 1 : Nat) : Int) < ((bs.length : Nat) : Int)) rfl (fun h3 => ?_) (fun h3 => ?_)
     · refine sq ?_
       refine rg ?_
       refine q trivial rfl rfl (mv (v := pb rb) rfl) ?_
       refine q trivial rfl rfl (nc rfl) ?_
       refine q trivial rfl rfl (fa 0 fo78_0 rfl) ?_
       refine q trivial rfl rfl (ld (v := .slice Ab bs.length cb) hs1 0 rfl rfl rfl one22) ?_
       refine q trivial rfl rfl (mv (v := I (((p + 1) - 1 : Nat) : Int)) rfl) ?_
       refine ixw1 ((p + 1) - 1) sl22 rfl rfl hb (by first | omega | exact Nat.mod_lt _ (by omega)) (getm U 0 (by first | omega | exact Nat.mod_lt _ (by omega))) trivial rfl (fun a1 ha1 => ?_)
       refine q trivial rfl rfl (lda (v := .int .u8 (((bs.getD ((p + 1) - 1) 0).toNat : Nat) : Int)) hs1 ha1 (fun _ h => h) rfl rfl one5) ?_
       refine q trivial rfl rfl (cvI (a := (((bs.getD ((p + 1) - 1) 0).toNat : Nat) : Int)) (s := .u8) ti5 ti3 rfl (by have := u8_bd ((bs.getD ((p + 1) - 1) 0)); exact ⟨by omega, by omega⟩)) ?_
       refine q trivial rfl rfl (mv (v := I n) rfl) ?_
       refine q trivial rfl rfl (rem (a := (((bs.getD ((p + 1) - 1) 0).toNat : Nat) : Int)) (b := n) rfl rfl (by have h1_ := u8_bd (bs.getD ((p + 1 - 1) % bs.length) 0); have h2_ := u8_bd (bs.getD (((p + 1 - 1) * 7 + 3) % bs.length) 0); have h3_ := div_bd (p + 1 - 1) bs.length; omega) (by omega)) ?_
       refine q trivial rfl rfl (asg (v := I ((((bs.getD ((p + 1) - 1) 0).toNat : Nat) : Int) % n)) rfl) ?_
       refine nl ?_
       refine nN ?_
       refine rt (tR ?_)
       refine fret (v := I ((((bs.getD ((p + 1) - 1) 0).toNat : Nat) : Int) % n)) (.tmp .nil) rfl ?_
       exact ⟨(((bs.getD ((p + 1) - 1) 0).toNat : Nat) : Int) % n, p + 1, rfl, (mod_pos (by omega)), (by omega), hs1⟩
     · refine sk ?_
       refine nN ?_
       refine sq ?_
       refine rq (fun w' => SH w w' [rb] [.blk rb 78 [.slice Ab bs.length cb, I (((p : Nat) : Int) + 1)]]) mixed (by kernel_rfl) hs1.drew ?_
       refine qq trivial rfl rfl (fun wq hsq => mv (v := pb rb) rfl) ?_
       refine qq trivial rfl rfl (fun wq hsq => nc rfl) ?_
       refine qq trivial rfl rfl (fun wq hsq => fa 0 fo78_0 rfl) ?_
       refine qq trivial rfl rfl (fun wq hsq => ld (v := .slice Ab bs.length cb) hsq 0 rfl rfl rfl one22) ?_
       refine qq trivial rfl rfl (fun wq hsq => mv (v := I (((p + 1) - 1 : Nat) : Int)) rfl) ?_
       refine qq trivial rfl rfl (fun wq hsq => mv (v := pb rb) rfl) ?_
       refine qq trivial rfl rfl (fun wq hsq => nc rfl) ?_
       refine qq trivial rfl rfl (fun wq hsq => fa 0 fo78_0 rfl) ?_
       refine qq trivial rfl rfl (fun wq hsq => ld (v := .slice Ab bs.length cb) hsq 0 rfl rfl rfl one22) ?_
       refine qq trivial rfl rfl (fun wq hsq => lnA (n := bs.length) sl22 rfl) ?_
       refine qq trivial rfl rfl (fun wq hsq => rem (a := (((p + 1) - 1 : Nat) : Int)) (b := ((bs.length : Nat) : Int)) rfl rfl (by have h1_ := u8_bd (bs.getD ((p + 1 - 1) % bs.length) 0); have h2_ := u8_bd (bs.getD (((p + 1 - 1) * 7 + 3) % bs.length) 0); have h3_ := div_bd (p + 1 - 1) bs.length; omega) (by omega)) ?_
       refine ixq1 (((p + 1) - 1) % bs.length) sl22 rfl rfl hb (by first | omega | exact Nat.mod_lt _ (by omega)) (getm U 0 (by first | omega | exact Nat.mod_lt _ (by omega))) trivial rfl (fun a2 ha2 => ?_)
       refine qq trivial rfl rfl (fun wq hsq => lda (v := .int .u8 (((bs.getD (((p + 1) - 1) % bs.length) 0).toNat : Nat) : Int)) hsq ha2 (fun _ h => h) rfl rfl one5) ?_
       refine qq trivial rfl rfl (fun wq hsq => cvI (a := (((bs.getD (((p + 1) - 1) % bs.length) 0).toNat : Nat) : Int)) (s := .u8) ti5 ti3 rfl (by have := u8_bd ((bs.getD (((p + 1) - 1) % bs.length) 0)); exact ⟨by omega, by omega⟩)) ?_
       refine qq trivial rfl rfl (fun wq hsq => mul (a := (((bs.getD (((p + 1) - 1) % bs.length) 0).toNat : Nat) : Int)) (b := 131) rfl rfl (by have h1_ := u8_bd (bs.getD ((p + 1 - 1) % bs.length) 0); have h2_ := u8_bd (bs.getD (((p + 1 - 1) * 7 + 3) % bs.length) 0); have h3_ := div_bd (p + 1 - 1) bs.length; exact ⟨by omega, by omega⟩)) ?_
       refine qq trivial rfl rfl (fun wq hsq => mv (v := pb rb) rfl) ?_
       refine qq trivial rfl rfl (fun wq hsq => nc rfl) ?_
       refine qq trivial rfl rfl (fun wq hsq => fa 0 fo78_0 rfl) ?_
       refine qq trivial rfl rfl (fun wq hsq => ld (v := .slice Ab bs.length cb) hsq 0 rfl rfl rfl one22) ?_
       refine qq trivial rfl rfl (fun wq hsq => mv (v := I (((p + 1) - 1 : Nat) : Int)) rfl) ?_
       refine qq trivial rfl rfl (fun wq hsq => mul (a := (((p + 1) - 1 : Nat) : Int)) (b := 7) rfl rfl (by have h1_ := u8_bd (bs.getD ((p + 1 - 1) % bs.length) 0); have h2_ := u8_bd (bs.getD (((p + 1 - 1) * 7 + 3) % bs.length) 0); have h3_ := div_bd (p + 1 - 1) bs.length; exact ⟨by omega, by omega⟩)) ?_
       refine qq trivial rfl rfl (fun wq hsq => add (a := (((p + 1) - 1 : Nat) : Int) * 7) (b := 3) rfl rfl (by have h1_ := u8_bd (bs.getD ((p + 1 - 1) % bs.length) 0); have h2_ := u8_bd (bs.getD (((p + 1 - 1) * 7 + 3) % bs.length) 0); have h3_ := div_bd (p + 1 - 1) bs.length; exact ⟨by omega, by omega⟩)) ?_
       refine qq trivial rfl rfl (fun wq hsq => mv (v := pb rb) rfl) ?_
       refine qq trivial rfl rfl (fun wq hsq => nc rfl) ?_
       refine qq trivial rfl rfl (fun wq hsq => fa 0 fo78_0 rfl) ?_
       refine qq trivial rfl rfl (fun wq hsq => ld (v := .slice Ab bs.length cb) hsq 0 rfl rfl rfl one22) ?_
       refine qq trivial rfl rfl (fun wq hsq => lnA (n := bs.length) sl22 rfl) ?_
       refine qq trivial rfl rfl (fun wq hsq => rem (a := ((((p + 1) - 1 : Nat) : Int) * 7) + 3) (b := ((bs.length : Nat) : Int)) rfl rfl (by have h1_ := u8_bd (bs.getD ((p + 1 - 1) % bs.length) 0); have h2_ := u8_bd (bs.getD (((p + 1 - 1) * 7 + 3) % bs.length) 0); have h3_ := div_bd (p + 1 - 1) bs.length; omega) (by omega)) ?_
       refine ixq1 (((((p + 1) - 1) * 7) + 3) % bs.length) sl22 rfl rfl hb (by first | omega | exact Nat.mod_lt _ (by omega)) (getm U 0 (by first | omega | exact Nat.mod_lt _ (by omega))) trivial rfl (fun a3 ha3 => ?_)
       refine qq trivial rfl rfl (fun wq hsq => lda (v := .int .u8 (((bs.getD (((((p + 1) - 1) * 7) + 3) % bs.length) 0).toNat : Nat) : Int)) hsq ha3 (fun _ h => h) rfl rfl one5) ?_
       refine qq trivial rfl rfl (fun wq hsq => cvI (a := (((bs.getD (((((p + 1) - 1) * 7) + 3) % bs.length) 0).toNat : Nat) : Int)) (s := .u8) ti5 ti3 rfl (by have := u8_bd ((bs.getD (((((p + 1) - 1) * 7) + 3) % bs.length) 0)); exact ⟨by omega, by omega⟩)) ?_
       refine qq trivial rfl rfl (fun wq hsq => mul (a := (((bs.getD (((((p + 1) - 1) * 7) + 3) % bs.length) 0).toNat : Nat) : Int)) (b := 1117) rfl rfl (by have h1_ := u8_bd (bs.getD ((p + 1 - 1) % bs.length) 0); have h2_ := u8_bd (bs.getD (((p + 1 - 1) * 7 + 3) % bs.length) 0); have h3_ := div_bd (p + 1 - 1) bs.length; exact ⟨by omega, by omega⟩)) ?_
       refine qq trivial rfl rfl (fun wq hsq => add (a := (((bs.getD (((p + 1) - 1) % bs.length) 0).toNat : Nat) : Int) * 131) (b := (((bs.getD (((((p + 1) - 1) * 7) + 3) % bs.length) 0).toNat : Nat) : Int) * 1117) rfl rfl (by have h1_ := u8_bd (bs.getD ((p + 1 - 1) % bs.length) 0); have h2_ := u8_bd (bs.getD (((p + 1 - 1) * 7 + 3) % bs.length) 0); have h3_ := div_bd (p + 1 - 1) bs.length; exact ⟨by omega, by omega⟩)) ?_
       refine qq trivial rfl rfl (fun wq hsq => mv (v := I (((p + 1) - 1 : Nat) : Int)) rfl) ?_
       refine qq trivial rfl rfl (fun wq hsq => mul (a := (((p + 1) - 1 : Nat) : Int)) (b := 29) rfl rfl (by have h1_ := u8_bd (bs.getD ((p + 1 - 1) % bs.length) 0); have h2_ := u8_bd (bs.getD (((p + 1 - 1) * 7 + 3) % bs.length) 0); have h3_ := div_bd (p + 1 - 1) bs.length; exact ⟨by omega, by omega⟩)) ?_
       refine qq trivial rfl rfl (fun wq hsq => add (a := ((((bs.getD (((p + 1) - 1) % bs.length) 0).toNat : Nat) : Int) * 131) + ((((bs.getD (((((p + 1) - 1) * 7) + 3) % bs.length) 0).toNat : Nat) : Int) * 1117)) (b := (((p + 1) - 1 : Nat) : Int) * 29) rfl rfl (by have h1_ := u8_bd (bs.getD ((p + 1 - 1) % bs.length) 0); have h2_ := u8_bd (bs.getD (((p + 1 - 1) * 7 + 3) % bs.length) 0); have h3_ := div_bd (p + 1 - 1) bs.length; exact ⟨by omega, by omega⟩)) ?_
       refine qq trivial rfl rfl (fun wq hsq => mv (v := I (((p + 1) - 1 : Nat) : Int)) rfl) ?_
       refine qq trivial rfl rfl (fun wq hsq => mv (v := pb rb) rfl) ?_
       refine qq trivial rfl rfl (fun wq hsq => nc rfl) ?_
       refine qq trivial rfl rfl (fun wq hsq => fa 0 fo78_0 rfl) ?_
       refine qq trivial rfl rfl (fun wq hsq => ld (v := .slice Ab bs.length cb) hsq 0 rfl rfl rfl one22) ?_
       refine qq trivial rfl rfl (fun wq hsq => lnA (n := bs.length) sl22 rfl) ?_
       refine qq trivial rfl rfl (fun wq hsq => quo (a := (((p + 1) - 1 : Nat) : Int)) (b := ((bs.length : Nat) : Int)) rfl rfl (by have h1_ := u8_bd (bs.getD ((p + 1 - 1) % bs.length) 0); have h2_ := u8_bd (bs.getD (((p + 1 - 1) * 7 + 3) % bs.length) 0); have h3_ := div_bd (p + 1 - 1) bs.length; omega) (by have h1_ := u8_bd (bs.getD ((p + 1 - 1) % bs.length) 0); have h2_ := u8_bd (bs.getD (((p + 1 - 1) * 7 + 3) % bs.length) 0); have h3_ := div_bd (p + 1 - 1) bs.length; omega) (by have h1_ := u8_bd (bs.getD ((p + 1 - 1) % bs.length) 0); have h2_ := u8_bd (bs.getD (((p + 1 - 1) * 7 + 3) % bs.length) 0); have h3_ := div_bd (p + 1 - 1) bs.length; omega)) ?_
       refine qq trivial rfl rfl (fun wq hsq => mul (a := (((p + 1) - 1 : Nat) : Int) / ((bs.length : Nat) : Int)) (b := 53) rfl rfl (by have h1_ := u8_bd (bs.getD ((p + 1 - 1) % bs.length) 0); have h2_ := u8_bd (bs.getD (((p + 1 - 1) * 7 + 3) % bs.length) 0); have h3_ := div_bd (p + 1 - 1) bs.length; exact ⟨by omega, by omega⟩)) ?_
       refine qq trivial rfl rfl (fun wq hsq => add (a := (((((bs.getD (((p + 1) - 1) % bs.length) 0).toNat : Nat) : Int) * 131) + ((((bs.getD (((((p + 1) - 1) * 7) + 3) % bs.length) 0).toNat : Nat) : Int) * 1117)) + ((((p + 1) - 1 : Nat) : Int) * 29)) (b := ((((p + 1) - 1 : Nat) : Int) / ((bs.length : Nat) : Int)) * 53) rfl rfl (by have h1_ := u8_bd (bs.getD ((p + 1 - 1) % bs.length) 0); have h2_ := u8_bd (bs.getD (((p + 1 - 1) * 7 + 3) % bs.length) 0); have h3_ := div_bd (p + 1 - 1) bs.length; exact ⟨by omega, by omega⟩)) ?_
       refine qq trivial rfl rfl (fun wq hsq => asg (v := I (((((((bs.getD (((p + 1) - 1) % bs.length) 0).toNat : Nat) : Int) * 131) + ((((bs.getD (((((p + 1) - 1) * 7) + 3) % bs.length) 0).toNat : Nat) : Int) * 1117)) + ((((p + 1) - 1 : Nat) : Int) * 29)) + (((((p + 1) - 1 : Nat) : Int) / ((bs.length : Nat) : Int)) * 53))) rfl) ?_
       refine qn (fun w2 hs2 => ?_)
       refine nN ?_
       refine sq ?_
       refine rg ?_
       refine q trivial rfl rfl (mv (v := I (((((((bs.getD (((p + 1) - 1) % bs.length) 0).toNat : Nat) : Int) * 131) + ((((bs.getD (((((p + 1) - 1) * 7) + 3) % bs.length) 0).toNat : Nat) : Int) * 1117)) + ((((p + 1) - 1 : Nat) : Int) * 29)) + (((((p + 1) - 1 : Nat) : Int) / ((bs.length : Nat) : Int)) * 53))) rfl) ?_
       refine q trivial rfl rfl (mv (v := I (((((((bs.getD (((p + 1) - 1) % bs.length) 0).toNat : Nat) : Int) * 131) + ((((bs.getD (((((p + 1) - 1) * 7) + 3) % bs.length) 0).toNat : Nat) : Int) * 1117)) + ((((p + 1) - 1 : Nat) : Int) * 29)) + (((((p + 1) - 1 : Nat) : Int) / ((bs.length : Nat) : Int)) * 53))) rfl) ?_
       refine q trivial rfl rfl (quo (a := ((((((bs.getD (((p + 1) - 1) % bs.length) 0).toNat : Nat) : Int) * 131) + ((((bs.getD (((((p + 1) - 1) * 7) + 3) % bs.length) 0).toNat : Nat) : Int) * 1117)) + ((((p + 1) - 1 : Nat) : Int) * 29)) + (((((p + 1) - 1 : Nat) : Int) / ((bs.length : Nat) : Int)) * 53)) (b := 64) rfl rfl (by have h1_ := u8_bd (bs.getD ((p + 1 - 1) % bs.length) 0); have h2_ := u8_bd (bs.getD (((p + 1 - 1) * 7 + 3) % bs.length) 0); have h3_ := div_bd (p + 1 - 1) bs.length; omega) (by have h1_ := u8_bd (bs.getD ((p + 1 - 1) % bs.length) 0); have h2_ := u8_bd (bs.getD (((p + 1 - 1) * 7 + 3) % bs.length) 0); have h3_ := div_bd (p + 1 - 1) bs.length; omega) (by have h1_ := u8_bd (bs.getD ((p + 1 - 1) % bs.length) 0); have h2_ := u8_bd (bs.getD (((p + 1 - 1) * 7 + 3) % bs.length) 0); have h3_ := div_bd (p + 1 - 1) bs.length; omega)) ?_
       refine q trivial rfl rfl (xr (a := (((((bs.getD (((p + 1) - 1) % bs.length) 0).toNat) * 131) + (((bs.getD (((((p + 1) - 1) * 7) + 3) % bs.length) 0).toNat) * 1117)) + (((p + 1) - 1) * 29)) + ((((p + 1) - 1) / bs.length) * 53)) (b := ((((((bs.getD (((p + 1) - 1) % bs.length) 0).toNat) * 131) + (((bs.getD (((((p + 1) - 1) * 7) + 3) % bs.length) 0).toNat) * 1117)) + (((p + 1) - 1) * 29)) + ((((p + 1) - 1) / bs.length) * 53)) / 64) rfl rfl (by have h1_ := u8_bd (bs.getD ((p + 1 - 1) % bs.length) 0); have h2_ := u8_bd (bs.getD (((p + 1 - 1) * 7 + 3) % bs.length) 0); have h3_ := div_bd (p + 1 - 1) bs.length; omega) (by have h1_ := u8_bd (bs.getD ((p + 1 - 1) % bs.length) 0); have h2_ := u8_bd (bs.getD (((p + 1 - 1) * 7 + 3) % bs.length) 0); have h3_ := div_bd (p + 1 - 1) bs.length; omega)) ?_
       refine q trivial rfl rfl (asg (v := I ((((((((bs.getD (((p + 1) - 1) % bs.length) 0).toNat) * 131) + (((bs.getD (((((p + 1) - 1) * 7) + 3) % bs.length) 0).toNat) * 1117)) + (((p + 1) - 1) * 29)) + ((((p + 1) - 1) / bs.length) * 53)) ^^^ (((((((bs.getD (((p + 1) - 1) % bs.length) 0).toNat) * 131) + (((bs.getD (((((p + 1) - 1) * 7) + 3) % bs.length) 0).toNat) * 1117)) + (((p + 1) - 1) * 29)) + ((((p + 1) - 1) / bs.length) * 53)) / 64) : Nat) : Int)) rfl) ?_
       refine nl ?_
       refine nN ?_
       refine sq ?_
       refine rg ?_
       refine q trivial rfl rfl (mv (v := I ((((((((bs.getD (((p + 1) - 1) % bs.length) 0).toNat) * 131) + (((bs.getD (((((p + 1) - 1) * 7) + 3) % bs.length) 0).toNat) * 1117)) + (((p + 1) - 1) * 29)) + ((((p + 1) - 1) / bs.length) * 53)) ^^^ (((((((bs.getD (((p + 1) - 1) % bs.length) 0).toNat) * 131) + (((bs.getD (((((p + 1) - 1) * 7) + 3) % bs.length) 0).toNat) * 1117)) + (((p + 1) - 1) * 29)) + ((((p + 1) - 1) / bs.length) * 53)) / 64) : Nat) : Int)) rfl) ?_
       refine q trivial rfl rfl (mv (v := I n) rfl) ?_
       refine q trivial rfl rfl (rem (a := ((((((((bs.getD (((p + 1) - 1) % bs.length) 0).toNat) * 131) + (((bs.getD (((((p + 1) - 1) * 7) + 3) % bs.length) 0).toNat) * 1117)) + (((p + 1) - 1) * 29)) + ((((p + 1) - 1) / bs.length) * 53)) ^^^ (((((((bs.getD (((p + 1) - 1) % bs.length) 0).toNat) * 131) + (((bs.getD (((((p + 1) - 1) * 7) + 3) % bs.length) 0).toNat) * 1117)) + (((p + 1) - 1) * 29)) + ((((p + 1) - 1) / bs.length) * 53)) / 64) : Nat) : Int)) (b := n) rfl rfl (by have h1_ := u8_bd (bs.getD ((p + 1 - 1) % bs.length) 0); have h2_ := u8_bd (bs.getD (((p + 1 - 1) * 7 + 3) % bs.length) 0); have h3_ := div_bd (p + 1 - 1) bs.length; omega) (by omega)) ?_
       refine q trivial rfl rfl (asg (v := I (((((((((bs.getD (((p + 1) - 1) % bs.length) 0).toNat) * 131) + (((bs.getD (((((p + 1) - 1) * 7) + 3) % bs.length) 0).toNat) * 1117)) + (((p + 1) - 1) * 29)) + ((((p + 1) - 1) / bs.length) * 53)) ^^^ (((((((bs.getD (((p + 1) - 1) % bs.length) 0).toNat) * 131) + (((bs.getD (((((p + 1) - 1) * 7) + 3) % bs.length) 0).toNat) * 1117)) + (((p + 1) - 1) * 29)) + ((((p + 1) - 1) / bs.length) * 53)) / 64) : Nat) : Int) % n)) rfl) ?_
       refine nl ?_
       refine nN ?_
       refine rt ?_
       refine fret (v := I (((((((((bs.getD (((p + 1) - 1) % bs.length) 0).toNat) * 131) + (((bs.getD (((((p + 1) - 1) * 7) + 3) % bs.length) 0).toNat) * 1117)) + (((p + 1) - 1) * 29)) + ((((p + 1) - 1) / bs.length) * 53)) ^^^ (((((((bs.getD (((p + 1) - 1) % bs.length) 0).toNat) * 131) + (((bs.getD (((((p + 1) - 1) * 7) + 3) % bs.length) 0).toNat) * 1117)) + (((p + 1) - 1) * 29)) + ((((p + 1) - 1) / bs.length) * 53)) / 64) : Nat) : Int) % n)) (.tmp .nil) rfl ?_
       exact ⟨((((((((bs.getD (((p + 1) - 1) % bs.length) 0).toNat) * 131) + (((bs.getD (((((p + 1) - 1) * 7) + 3) % bs.length) 0).toNat) * 1117)) + (((p + 1) - 1) * 29)) + ((((p + 1) - 1) / bs.length) * 53)) ^^^ (((((((bs.getD (((p + 1) - 1) % bs.length) 0).toNat) * 131) + (((bs.getD (((((p + 1) - 1) * 7) + 3) % bs.length) 0).toNat) * 1117)) + (((p + 1) - 1) * 29)) + ((((p + 1) - 1) / bs.length) * 53)) / 64) : Nat) : Int) % n, p + 1, rfl, (mod_pos (by omega)), (by omega), hs2⟩

theorem l6Open {Acs : Option Addr} {ccs : Nat} (cs : List UInt8) (w : World) (hcs : Sl w [] 1 Acs cs.length ccs (cs.map U)) : Does Tryd.prog 26 [.slice Acs cs.length ccs] w (fun v w' => ∃ gr : Nat, v = .pointer (some ⟨gr, 0, none⟩) ∧ SH w w' [] [.blk gr 78 [.slice Acs ((cs.take 2000).length) ccs, I 0]]) := by
 refine fn_enter (N := 11) Tryd.func26 rfl (by kernel_rfl) rfl rfl rfl ?_
 have hs0 : SH w w [] [] := SH.refl w []
 have hcs_m : cs.length ≤ 9223372036854775807 := Nat.le_trans hcs.cap hcs.capMax
 refine sq ?_
 refine rg ?_
 refine q trivial rfl rfl (asg (v := .pointer none) rfl) ?_
 refine nl ?_
 refine nN ?_
 refine sq ?_
 refine sq ?_
 refine rg ?_
 refine q trivial rfl rfl (mv (v := .slice Acs cs.length ccs) rfl) ?_
 refine q trivial rfl rfl (lnA (n := cs.length) sl22 rfl) ?_
 refine q trivial rfl rfl (gtr (k := .i64) (a := ((cs.length : Nat) : Int)) (b := 2000) rfl rfl) ?_
 refine nl ?_
 refine nN ?_
 refine cdd (p := (2000 : Int) < ((cs.length : Nat) : Int)) rfl (fun h1 => ?_) (fun h1 => ?_)
 · refine rg ?_
   refine q trivial rfl rfl (mv (v := .slice Acs cs.length ccs) rfl) ?_
   refine q trivial rfl rfl (cuhm_ (zs := cs) 2000 sl22 rfl rfl (by first | omega | (simp; done) | (simp; omega)) hcs.cap) ?_
   refine q trivial rfl rfl (asg (v := .slice Acs ((cs.take 2000).length) ccs) rfl) ?_
   refine nl ?_
   refine nN ?_
   refine sq ?_
   refine rg ?_
   refine q trivial rfl rfl (mv (v := .slice Acs ((cs.take 2000).length) ccs) rfl) ?_
   refine q trivial rfl rfl (bdv (v := .agg #[.slice Acs ((cs.take 2000).length) ccs, I 0]) [(0, .slice Acs ((cs.take 2000).length) ccs)] rfl (fun _ => by kernel_rfl)) ?_
   refine bx (v := .agg #[.slice Acs ((cs.take 2000).length) ccs, I 0]) (cs := [.slice Acs ((cs.take 2000).length) ccs, I 0]) hs0 rfl rfl trivial rfl (fun b1 w1 (hs1 : SH w w1 [] [.blk b1 78 [.slice Acs ((cs.take 2000).length) ccs, I 0]]) => ?_)
   refine q trivial rfl rfl (asg (v := pb b1) rfl) ?_
   refine nl ?_
   refine nN ?_
   refine rt ?_
   refine fret (v := pb b1) (.tmp .nil) rfl ?_
   exact ⟨b1, rfl, hs1⟩
 · refine sk ?_
   refine nN ?_
   refine sq ?_
   refine rg ?_
   refine q trivial rfl rfl (mv (v := .slice Acs cs.length ccs) rfl) ?_
   refine q trivial rfl rfl (bdv (v := .agg #[.slice Acs cs.length ccs, I 0]) [(0, .slice Acs cs.length ccs)] rfl (fun _ => by kernel_rfl)) ?_
   refine bx (v := .agg #[.slice Acs cs.length ccs, I 0]) (cs := [.slice Acs cs.length ccs, I 0]) hs0 rfl rfl trivial rfl (fun b2 w2 (hs2 : SH w w2 [] [.blk b2 78 [.slice Acs cs.length ccs, I 0]]) => ?_)
   refine q trivial rfl rfl (asg (v := pb b2) rfl) ?_
   refine nl ?_
   refine nN ?_
   refine rt ?_
   refine fret (v := pb b2) (.tmp .nil) rfl ?_
   have e1 : cs.length = (cs.take 2000).length := by rw [List.take_of_length_le (by omega)]
   exact ⟨b2, rfl, (hs2.cast (lc (congrArg (It.blk b2 78) (lc (slv rfl e1 rfl) (lc rfl rfl))) rfl))⟩

theorem rdOf {rb : Nat} {Ab : Option Addr} {cb : Nat} {bs : List UInt8} {p : Nat} {Ass : Option Addr} {css : Nat} (ss : List (List UInt8)) (w : World) (hr : w.heap[rb]? = some (.cells [.slice Ab bs.length cb, .int .i64 ((p : Nat) : Int)].toArray 78 (0, 0))) (hb : Sl w [rb] 1 Ab bs.length cb (bs.map U)) (hbn : bs.length ≤ 2000) (hp : p ≤ 549755813888) (hss : Sl w [rb] 1 Ass ss.length css (ss.map Str)) (hne : 0 < ss.length) : Does Tryd.prog 78 [pb rb, .slice Ass ss.length css] w (fun v w' => ∃ s : List UInt8, ∃ q : Nat, v = Str s ∧ (s ∈ ss) ∧ (q ≤ p + 1) ∧ SH w w' [rb] [.blk rb 78 [.slice Ab bs.length cb, I ((q : Nat) : Int)]]) := by
 refine fn_enter (N := 12) Tryd.func78 rfl (by kernel_rfl) rfl rfl rfl ?_
 have hs0 : SH w w [rb] [.blk rb 78 [.slice Ab bs.length cb, I ((p : Nat) : Int)]] := SH.entry1 hr
 have hss_m : ss.length ≤ 9223372036854775807 := Nat.le_trans hss.cap hss.capMax
 refine sq ?_
 refine rg ?_
 refine q trivial rfl rfl (asg (v := Str []) rfl) ?_
 refine nl ?_
 refine nN ?_
 refine sq ?_
 refine rg ?_
 refine q trivial rfl rfl (mv (v := .slice Ass ss.length css) rfl) ?_
 refine q trivial rfl rfl (mv (v := pb rb) rfl) ?_
 refine q trivial rfl rfl (mv (v := .slice Ass ss.length css) rfl) ?_
 refine q trivial rfl rfl (lnA (n := ss.length) sl88 rfl) ?_
 refine cl trivial rfl (pick (rb := rb) (Ab := Ab) (cb := cb) (bs := bs) (p := p) (n := ((ss.length : Nat) : Int)) (w := _) (hr := (blk_heap hs0 0 rfl)) (hb := (hb.up hs0 (fun _ h => h) (fun _ h => .inl h))) (hbn := (by first | assumption | (simp; omega))) (hp := (by omega))) ?_
 rintro _ w1 ⟨r1, q1, rfl, p1, p2, hs1'⟩
 have hs1 : SH w w1 [rb] [.blk rb 78 [.slice Ab bs.length cb, I ((q1 : Nat) : Int)]] := hs0.callM 0 rfl hs1' (by intro k hk; simp at hk; exact hk.symm)
 clear hs1'
 refine ixw1 r1.toNat sl88 rfl (ieq (x := r1) (by omega)) hss (by first | omega | (simp; done) | (simp; omega)) (getm Str [] (by first | omega | (simp; done) | (simp; omega))) trivial rfl (fun a1 ha1 => ?_)
 refine q trivial rfl rfl (lda (v := Str (ss.getD r1.toNat [])) hs1 ha1 (fun _ h => h) rfl rfl one9) ?_
 refine q trivial rfl rfl (asg (v := Str (ss.getD r1.toNat [])) rfl) ?_
 refine nl ?_
 refine nN ?_
 refine rt ?_
 refine fret (v := Str (ss.getD r1.toNat [])) (.tmp .nil) rfl ?_
 exact ⟨ss.getD r1.toNat [], q1, rfl, (getD_mem (by omega)), (by omega), hs1⟩

theorem iLetter (c : UInt8) (w : World)  : Does Tryd.prog 73 [.int .u8 ((c.toNat : Nat) : Int)] w (fun v w' => v = .bool (decide (97 ≤ ((c.toNat : Nat) : Int) ∧ ((c.toNat : Nat) : Int) ≤ 122)) ∧ SH w w' [] []) := by
 refine fn_enter (N := 9) Tryd.func73 rfl (by kernel_rfl) rfl rfl rfl ?_
 have hs0 : SH w w [] [] := SH.refl w []
 refine sq ?_
 refine rg ?_
 refine q trivial rfl rfl (asg (v := .bool false) rfl) ?_
 refine nl ?_
 refine nN ?_
 refine sq ?_
 refine rg ?_
 refine q trivial rfl rfl (mv (v := .int .u8 ((c.toNat : Nat) : Int)) rfl) ?_
 refine q trivial rfl rfl (geq (k := .u8) (a := ((c.toNat : Nat) : Int)) (b := 97) rfl rfl) ?_
 refine q trivial rfl rfl (mv (v := .bool (decide ((97 : Int) ≤ ((c.toNat : Nat) : Int)))) rfl) ?_
 refine spd (p := (97 : Int) ≤ ((c.toNat : Nat) : Int)) 5 rfl (fun h1 => ?_) (fun h1 => ?_)
 · refine q ⟨_, rfl, rfl⟩ rfl rfl (mv (v := .int .u8 ((c.toNat : Nat) : Int)) rfl) ?_
   refine q ⟨_, rfl, rfl⟩ rfl rfl (leq (k := .u8) (a := ((c.toNat : Nat) : Int)) (b := 122) rfl rfl) ?_
   refine q trivial rfl rfl (pt (v := .bool (decide (((c.toNat : Nat) : Int) ≤ 122))) rfl rfl) ?_
   refine q trivial rfl rfl (asg (v := .bool (decide (((c.toNat : Nat) : Int) ≤ 122))) rfl) ?_
   refine nl ?_
   refine nN ?_
   refine rt ?_
   refine fret (v := .bool (decide (((c.toNat : Nat) : Int) ≤ 122))) (.tmp .nil) rfl ?_
   have e1 : (decide (((c.toNat : Nat) : Int) ≤ 122)) = (decide (97 ≤ ((c.toNat : Nat) : Int) ∧ ((c.toNat : Nat) : Int) ≤ 122)) := by simp [h1]
   exact ⟨(congrArg (Value.bool) e1), hs0⟩
 · refine gk false rfl rfl rfl rfl rfl ?_
   refine gk false rfl rfl rfl rfl rfl ?_
   refine q trivial rfl rfl (pf (v := .bool false) rfl rfl) ?_
   refine q trivial rfl rfl (asg (v := .bool false) rfl) ?_
   refine nl ?_
   refine nN ?_
   refine rt ?_
   refine fret (v := .bool false) (.tmp .nil) rfl ?_
   have e2 : false = (decide (97 ≤ ((c.toNat : Nat) : Int) ∧ ((c.toNat : Nat) : Int) ≤ 122)) := by simp [h1]
   exact ⟨(congrArg (Value.bool) e2), hs0⟩

theorem iDigit (c : UInt8) (w : World)  : Does Tryd.prog 82 [.int .u8 ((c.toNat : Nat) : Int)] w (fun v w' => v = .bool (decide (48 ≤ ((c.toNat : Nat) : Int) ∧ ((c.toNat : Nat) : Int) ≤ 57)) ∧ SH w w' [] []) := by
 refine fn_enter (N := 9) Tryd.func82 rfl (by kernel_rfl) rfl rfl rfl ?_
 have hs0 : SH w w [] [] := SH.refl w []
 refine sq ?_
 refine rg ?_
 refine q trivial rfl rfl (asg (v := .bool false) rfl) ?_
 refine nl ?_
 refine nN ?_
 refine sq ?_
 refine rg ?_
 refine q trivial rfl rfl (mv (v := .int .u8 ((c.toNat : Nat) : Int)) rfl) ?_
 refine q trivial rfl rfl (geq (k := .u8) (a := ((c.toNat : Nat) : Int)) (b := 48) rfl rfl) ?_
 refine q trivial rfl rfl (mv (v := .bool (decide ((48 : Int) ≤ ((c.toNat : Nat) : Int)))) rfl) ?_
 refine spd (p := (48 : Int) ≤ ((c.toNat : Nat) : Int)) 5 rfl (fun h1 => ?_) (fun h1 => ?_)
 · refine q ⟨_, rfl, rfl⟩ rfl rfl (mv (v := .int .u8 ((c.toNat : Nat) : Int)) rfl) ?_
   refine q ⟨_, rfl, rfl⟩ rfl rfl (leq (k := .u8) (a := ((c.toNat : Nat) : Int)) (b := 57) rfl rfl) ?_
   refine q trivial rfl rfl (pt (v := .bool (decide (((c.toNat : Nat) : Int) ≤ 57))) rfl rfl) ?_
   refine q trivial rfl rfl (asg (v := .bool (decide (((c.toNat : Nat) : Int) ≤ 57))) rfl) ?_
   refine nl ?_
   refine nN ?_
   refine rt ?_
   refine fret (v := .bool (decide (((c.toNat : Nat) : Int) ≤ 57))) (.tmp .nil) rfl ?_
   have e1 : (decide (((c.toNat : Nat) : Int) ≤ 57)) = (decide (48 ≤ ((c.toNat : Nat) : Int) ∧ ((c.toNat : Nat) : Int) ≤ 57)) := by simp [h1]
   exact ⟨(congrArg (Value.bool) e1), hs0⟩
 · refine gk false rfl rfl rfl rfl rfl ?_
   refine gk false rfl rfl rfl rfl rfl ?_
   refine q trivial rfl rfl (pf (v := .bool false) rfl rfl) ?_
   refine q trivial rfl rfl (asg (v := .bool false) rfl) ?_
   refine nl ?_
   refine nN ?_
   refine rt ?_
   refine fret (v := .bool false) (.tmp .nil) rfl ?_
   have e2 : false = (decide (48 ≤ ((c.toNat : Nat) : Int) ∧ ((c.toNat : Nat) : Int) ≤ 57)) := by simp [h1]
   exact ⟨(congrArg (Value.bool) e2), hs0⟩

theorem sLetter (c : UInt8) (w : World)  : Does Tryd.prog 76 [.int .u8 ((c.toNat : Nat) : Int)] w (fun v w' => v = .bool (letC c) ∧ SH w w' [] []) := by
 refine fn_enter (N := 21) Tryd.func76 rfl (by kernel_rfl) rfl rfl rfl ?_
 have hs0 : SH w w [] [] := SH.refl w []
 refine sq ?_
 refine rg ?_
 refine q trivial rfl rfl (asg (v := .bool false) rfl) ?_
 refine nl ?_
 refine nN ?_
 refine sq ?_
 refine rg ?_
 refine q trivial rfl rfl (mv (v := .int .u8 ((c.toNat : Nat) : Int)) rfl) ?_
 refine q trivial rfl rfl (geq (k := .u8) (a := ((c.toNat : Nat) : Int)) (b := 97) rfl rfl) ?_
 refine q trivial rfl rfl (mv (v := .bool (decide ((97 : Int) ≤ ((c.toNat : Nat) : Int)))) rfl) ?_
 refine spd (p := (97 : Int) ≤ ((c.toNat : Nat) : Int)) 5 rfl (fun h1 => ?_) (fun h1 => ?_)
 · refine q ⟨_, rfl, rfl⟩ rfl rfl (mv (v := .int .u8 ((c.toNat : Nat) : Int)) rfl) ?_
   refine q ⟨_, rfl, rfl⟩ rfl rfl (leq (k := .u8) (a := ((c.toNat : Nat) : Int)) (b := 122) rfl rfl) ?_
   refine q trivial rfl rfl (pt (v := .bool (decide (((c.toNat : Nat) : Int) ≤ 122))) rfl rfl) ?_
   refine q trivial rfl rfl (mv (v := .bool (decide (((c.toNat : Nat) : Int) ≤ 122))) rfl) ?_
   refine spd (p := ((c.toNat : Nat) : Int) ≤ 122) 9 rfl (fun h2 => ?_) (fun h2 => ?_)
   · refine gk true rfl rfl rfl rfl rfl ?_
     refine gk true rfl rfl rfl rfl rfl ?_
     refine gk true rfl rfl rfl rfl rfl ?_
     refine gku rfl rfl rfl rfl rfl ?_
     refine gku rfl rfl rfl rfl rfl ?_
     refine gk true rfl rfl rfl rfl rfl ?_
     refine q trivial rfl rfl (pt (v := .bool true) rfl rfl) ?_
     refine q trivial rfl rfl (mv (v := .bool true) rfl) ?_
     refine gk true rfl rfl rfl rfl rfl ?_
     refine gk true rfl rfl rfl rfl rfl ?_
     refine q trivial rfl rfl (pt (v := .bool true) rfl rfl) ?_
     refine q trivial rfl rfl (asg (v := .bool true) rfl) ?_
     refine nl ?_
     refine nN ?_
     refine rt ?_
     refine fret (v := .bool true) (.tmp .nil) rfl ?_
     have e1 : true = letC c := by simp only [letC]; first | (simp; omega) | simp [h1, h2]
     exact ⟨(congrArg (Value.bool) e1), hs0⟩
   · refine q ⟨_, rfl, rfl⟩ rfl rfl (mv (v := .int .u8 ((c.toNat : Nat) : Int)) rfl) ?_
     refine q ⟨_, rfl, rfl⟩ rfl rfl (geq (k := .u8) (a := ((c.toNat : Nat) : Int)) (b := 48) rfl rfl) ?_
     refine q ⟨_, rfl, rfl⟩ rfl rfl (mv (v := .bool (decide ((48 : Int) ≤ ((c.toNat : Nat) : Int)))) rfl) ?_
     refine spd (p := (48 : Int) ≤ ((c.toNat : Nat) : Int)) 12 rfl (fun h3 => ?_) (fun h3 => ?_)
     · refine q ⟨_, rfl, rfl⟩ rfl rfl (mv (v := .int .u8 ((c.toNat : Nat) : Int)) rfl) ?_
       refine q ⟨_, rfl, rfl⟩ rfl rfl (leq (k := .u8) (a := ((c.toNat : Nat) : Int)) (b := 57) rfl rfl) ?_
       refine q ⟨_, rfl, rfl⟩ rfl rfl (pt (v := .bool (decide (((c.toNat : Nat) : Int) ≤ 57))) rfl rfl) ?_
       refine q trivial rfl rfl (pf (v := .bool (decide (((c.toNat : Nat) : Int) ≤ 57))) rfl rfl) ?_
       refine q trivial rfl rfl (mv (v := .bool (decide (((c.toNat : Nat) : Int) ≤ 57))) rfl) ?_
       refine spd (p := ((c.toNat : Nat) : Int) ≤ 57) 17 rfl (fun h4 => ?_) (fun h4 => ?_)
       · refine gk true rfl rfl rfl rfl rfl ?_
         refine gk true rfl rfl rfl rfl rfl ?_
         refine q trivial rfl rfl (pt (v := .bool true) rfl rfl) ?_
         refine q trivial rfl rfl (asg (v := .bool true) rfl) ?_
         refine nl ?_
         refine nN ?_
         refine rt ?_
         refine fret (v := .bool true) (.tmp .nil) rfl ?_
         have e2 : true = letC c := by simp only [letC]; first | (simp; omega) | simp [h1, h2, h3, h4]
         exact ⟨(congrArg (Value.bool) e2), hs0⟩
       · refine q ⟨_, rfl, rfl⟩ rfl rfl (mv (v := .int .u8 ((c.toNat : Nat) : Int)) rfl) ?_
         refine q ⟨_, rfl, rfl⟩ rfl rfl (eqi (k := .u8) (a := ((c.toNat : Nat) : Int)) (b := 45) rfl rfl) ?_
         refine q trivial rfl rfl (pf (v := .bool (decide (((c.toNat : Nat) : Int) = 45))) rfl rfl) ?_
         refine q trivial rfl rfl (asg (v := .bool (decide (((c.toNat : Nat) : Int) = 45))) rfl) ?_
         refine nl ?_
         refine nN ?_
         refine rt ?_
         refine fret (v := .bool (decide (((c.toNat : Nat) : Int) = 45))) (.tmp .nil) rfl ?_
         have e3 : (decide (((c.toNat : Nat) : Int) = 45)) = letC c := by simp only [letC]; first | (simp; omega) | simp [h1, h2, h3, h4]
         exact ⟨(congrArg (Value.bool) e3), hs0⟩
     · refine gk false rfl rfl rfl rfl rfl ?_
       refine gk false rfl rfl rfl rfl rfl ?_
       refine q ⟨_, rfl, rfl⟩ rfl rfl (pf (v := .bool false) rfl rfl) ?_
       refine q trivial rfl rfl (pf (v := .bool false) rfl rfl) ?_
       refine q trivial rfl rfl (mv (v := .bool false) rfl) ?_
       refine q ⟨_, rfl, rfl⟩ rfl rfl (mv (v := .int .u8 ((c.toNat : Nat) : Int)) rfl) ?_
       refine q ⟨_, rfl, rfl⟩ rfl rfl (eqi (k := .u8) (a := ((c.toNat : Nat) : Int)) (b := 45) rfl rfl) ?_
       refine q trivial rfl rfl (pf (v := .bool (decide (((c.toNat : Nat) : Int) = 45))) rfl rfl) ?_
       refine q trivial rfl rfl (asg (v := .bool (decide (((c.toNat : Nat) : Int) = 45))) rfl) ?_
       refine nl ?_
       refine nN ?_
       refine rt ?_
       refine fret (v := .bool (decide (((c.toNat : Nat) : Int) = 45))) (.tmp .nil) rfl ?_
       have e4 : (decide (((c.toNat : Nat) : Int) = 45)) = letC c := by simp only [letC]; first | (simp; omega) | simp [h1, h2, h3]
       exact ⟨(congrArg (Value.bool) e4), hs0⟩
 · refine gk false rfl rfl rfl rfl rfl ?_
   refine gk false rfl rfl rfl rfl rfl ?_
   refine q trivial rfl rfl (pf (v := .bool false) rfl rfl) ?_
   refine q trivial rfl rfl (mv (v := .bool false) rfl) ?_
   refine q ⟨_, rfl, rfl⟩ rfl rfl (mv (v := .int .u8 ((c.toNat : Nat) : Int)) rfl) ?_
   refine q ⟨_, rfl, rfl⟩ rfl rfl (geq (k := .u8) (a := ((c.toNat : Nat) : Int)) (b := 48) rfl rfl) ?_
   refine q ⟨_, rfl, rfl⟩ rfl rfl (mv (v := .bool (decide ((48 : Int) ≤ ((c.toNat : Nat) : Int)))) rfl) ?_
   refine spd (p := (48 : Int) ≤ ((c.toNat : Nat) : Int)) 12 rfl (fun h5 => ?_) (fun h5 => ?_)
   · refine q ⟨_, rfl, rfl⟩ rfl rfl (mv (v := .int .u8 ((c.toNat : Nat) : Int)) rfl) ?_
     refine q ⟨_, rfl, rfl⟩ rfl rfl (leq (k := .u8) (a := ((c.toNat : Nat) : Int)) (b := 57) rfl rfl) ?_
     refine q ⟨_, rfl, rfl⟩ rfl rfl (pt (v := .bool (decide (((c.toNat : Nat) : Int) ≤ 57))) rfl rfl) ?_
     refine q trivial rfl rfl (pf (v := .bool (decide (((c.toNat : Nat) : Int) ≤ 57))) rfl rfl) ?_
     refine q trivial rfl rfl (mv (v := .bool (decide (((c.toNat : Nat) : Int) ≤ 57))) rfl) ?_
     refine spd (p := ((c.toNat : Nat) : Int) ≤ 57) 17 rfl (fun h6 => ?_) (fun h6 => ?_)
     · refine gk true rfl rfl rfl rfl rfl ?_
       refine gk true rfl rfl rfl rfl rfl ?_
       refine q trivial rfl rfl (pt (v := .bool true) rfl rfl) ?_
       refine q trivial rfl rfl (asg (v := .bool true) rfl) ?_
       refine nl ?_
       refine nN ?_
       refine rt ?_
       refine fret (v := .bool true) (.tmp .nil) rfl ?_
       have e5 : true = letC c := by simp only [letC]; first | (simp; omega) | simp [h1, h5, h6]
       exact ⟨(congrArg (Value.bool) e5), hs0⟩
     · refine q ⟨_, rfl, rfl⟩ rfl rfl (mv (v := .int .u8 ((c.toNat : Nat) : Int)) rfl) ?_
       refine q ⟨_, rfl, rfl⟩ rfl rfl (eqi (k := .u8) (a := ((c.toNat : Nat) : Int)) (b := 45) rfl rfl) ?_
       refine q trivial rfl rfl (pf (v := .bool (decide (((c.toNat : Nat) : Int) = 45))) rfl rfl) ?_
       refine q trivial rfl rfl (asg (v := .bool (decide (((c.toNat : Nat) : Int) = 45))) rfl) ?_
       refine nl ?_
       refine nN ?_
       refine rt ?_
       refine fret (v := .bool (decide (((c.toNat : Nat) : Int) = 45))) (.tmp .nil) rfl ?_
       have e6 : (decide (((c.toNat : Nat) : Int) = 45)) = letC c := by simp only [letC]; first | (simp; omega) | simp [h1, h5, h6]
       exact ⟨(congrArg (Value.bool) e6), hs0⟩
   · refine gk false rfl rfl rfl rfl rfl ?_
     refine gk false rfl rfl rfl rfl rfl ?_
     refine q ⟨_, rfl, rfl⟩ rfl rfl (pf (v := .bool false) rfl rfl) ?_
     refine q trivial rfl rfl (pf (v := .bool false) rfl rfl) ?_
     refine q trivial rfl rfl (mv (v := .bool false) rfl) ?_
     refine q ⟨_, rfl, rfl⟩ rfl rfl (mv (v := .int .u8 ((c.toNat : Nat) : Int)) rfl) ?_
     refine q ⟨_, rfl, rfl⟩ rfl rfl (eqi (k := .u8) (a := ((c.toNat : Nat) : Int)) (b := 45) rfl rfl) ?_
     refine q trivial rfl rfl (pf (v := .bool (decide (((c.toNat : Nat) : Int) = 45))) rfl rfl) ?_
     refine q trivial rfl rfl (asg (v := .bool (decide (((c.toNat : Nat) : Int) = 45))) rfl) ?_
     refine nl ?_
     refine nN ?_
     refine rt ?_
     refine fret (v := .bool (decide (((c.toNat : Nat) : Int) = 45))) (.tmp .nil) rfl ?_
     have e7 : (decide (((c.toNat : Nat) : Int) = 45)) = letC c := by simp only [letC]; first | (simp; omega) | simp [h1, h5]
     exact ⟨(congrArg (Value.bool) e7), hs0⟩

theorem isPort (x : Int) (w : World)  : Does Tryd.prog 55 [I x] w (fun v w' => v = .bool (decide (0 ≤ x ∧ x ≤ 65535)) ∧ SH w w' [] []) := by
 refine fn_enter (N := 5) Tryd.func55 rfl (by kernel_rfl) rfl rfl rfl ?_
 have hs0 : SH w w [] [] := SH.refl w []
 refine sq ?_
 refine rg ?_
 refine q trivial rfl rfl (asg (v := .bool false) rfl) ?_
 refine nl ?_
 refine nN ?_
 refine sq ?_
 refine rg ?_
 refine q trivial rfl rfl (mv (v := I x) rfl) ?_
 refine cl trivial rfl (iWithin (x := x) (lo := 0) (hi := 65535) (w := _)) ?_
 rintro _ w1 ⟨rfl, hs1'⟩
 have hs1 : SH w w1 [] [] := hs0.call0 hs1'
 clear hs1'
 refine q trivial rfl rfl (asg (v := .bool (decide (0 ≤ x ∧ x ≤ 65535))) rfl) ?_
 refine nl ?_
 refine nN ?_
 refine rt ?_
 refine fret (v := .bool (decide (0 ≤ x ∧ x ≤ 65535))) (.tmp .nil) rfl ?_
 exact ⟨rfl, hs1⟩

theorem iConsists (l : List UInt8) (m : List UInt8) (w : World) (hl_n : l.length ≤ 9223372036854775807) : Does Tryd.prog 72 [Str l, Str m] w (fun v w' => v = .bool (l.all (okC m)) ∧ SH w w' [] []) := by
 refine fn_enter (N := 32) Tryd.func72 rfl (by kernel_rfl) rfl rfl rfl ?_
 have hs0 : SH w w [] [] := SH.refl w []
 refine sq ?_
 refine rg ?_
 refine q trivial rfl rfl (asg (v := .bool false) rfl) ?_
 refine nl ?_
 refine nN ?_
 refine sq ?_
 refine sq ?_
 refine rg ?_
 refine q trivial rfl rfl (mv (v := Str l) rfl) ?_
 refine q trivial rfl rfl (lnS (l := l) st9 rfl) ?_
 refine q trivial rfl rfl (mv (v := I 0) rfl) ?_
 refine nl ?_
 refine nN ?_
 refine bl ?_
 refine lp (σ := Nat) (fun (k : Nat) f w' => Has f [(0, Str l), (1, Str m), (7, I ((l.length : Nat) : Int)), (8, I ((k : Nat) : Int))] ∧ (k ≤ l.length) ∧ ((l.take k).all (okC m) = true) ∧ SH w w' [] []) (fun k => l.length - k) 0 ⟨⟨rfl, rfl, rfl, rfl, trivial⟩, (by simp), (by simp), hs0⟩ ?_
 rintro k f w1 ⟨hf, hk, ha, hs1⟩
 obtain ⟨g1, rfl⟩ := has_upd hf
 clear hf
 refine sq ?_
 refine rg ?_
 refine q trivial rfl rfl (lss (k := .i64) (a := ((k : Nat) : Int)) (b := ((l.length : Nat) : Int)) rfl rfl) ?_
 refine nl ?_
 refine nN ?_
 refine sq ?_
 refine cdd (p := ((k : Nat) : Int) < ((l.length : Nat) : Int)) rfl (fun h1 => ?_) (fun h1 => ?_)
 · refine sk ?_
   refine nN ?_
   refine sq ?_
   refine bl ?_
   refine sq ?_
   refine rg ?_
   refine q trivial rfl rfl (mv (v := I ((k : Nat) : Int)) rfl) ?_
   refine q trivial rfl rfl (asg (v := I ((k : Nat) : Int)) rfl) ?_
   refine nl ?_
   refine nN ?_
   refine sq ?_
   refine rg ?_
   refine q trivial rfl rfl (mv (v := Str l) rfl) ?_
   refine q trivial rfl rfl (mv (v := I ((k : Nat) : Int)) rfl) ?_
   refine q trivial rfl rfl (ixs (l := l) k st9 rfl rfl (by first | omega | (simp; done) | (simp; omega))) ?_
   refine cl trivial rfl (iLetter (c := (l.getD k 0)) (w := _)) ?_
   rintro _ w2 ⟨rfl, hs2'⟩
   have hs2 : SH w w2 [] [] := hs1.call0 hs2'
   clear hs2'
   refine q trivial rfl rfl (nd (p := 97 ≤ (((l.getD k 0).toNat : Nat) : Int) ∧ (((l.getD k 0).toNat : Nat) : Int) ≤ 122) rfl) ?_
   refine q trivial rfl rfl (mv (v := .bool (decide (¬ (97 ≤ (((l.getD k 0).toNat : Nat) : Int) ∧ (((l.getD k 0).toNat : Nat) : Int) ≤ 122)))) rfl) ?_
   refine spd (p := ¬ (97 ≤ (((l.getD k 0).toNat : Nat) : Int) ∧ (((l.getD k 0).toNat : Nat) : Int) ≤ 122)) 16 rfl (fun h2 => ?_) (fun h2 => ?_)
   · refine q ⟨_, rfl, rfl⟩ rfl rfl (mv (v := Str l) rfl) ?_
     refine q ⟨_, rfl, rfl⟩ rfl rfl (mv (v := I ((k : Nat) : Int)) rfl) ?_
     refine q ⟨_, rfl, rfl⟩ rfl rfl (ixs (l := l) k st9 rfl rfl (by first | omega | (simp; done) | (simp; omega))) ?_
     refine cl ⟨_, rfl, rfl⟩ rfl (iDigit (c := (l.getD k 0)) (w := _)) ?_
     rintro _ w3 ⟨rfl, hs3'⟩
     have hs3 : SH w w3 [] [] := hs2.call0 hs3'
     clear hs3'
     refine q ⟨_, rfl, rfl⟩ rfl rfl (nd (p := 48 ≤ (((l.getD k 0).toNat : Nat) : Int) ∧ (((l.getD k 0).toNat : Nat) : Int) ≤ 57) rfl) ?_
     refine q trivial rfl rfl (pt (v := .bool (decide (¬ (48 ≤ (((l.getD k 0).toNat : Nat) : Int) ∧ (((l.getD k 0).toNat : Nat) : Int) ≤ 57)))) rfl rfl) ?_
     refine q trivial rfl rfl (mv (v := .bool (decide (¬ (48 ≤ (((l.getD k 0).toNat : Nat) : Int) ∧ (((l.getD k 0).toNat : Nat) : Int) ≤ 57)))) rfl) ?_
     refine spd (p := ¬ (48 ≤ (((l.getD k 0).toNat : Nat) : Int) ∧ (((l.getD k 0).toNat : Nat) : Int) ≤ 57)) 23 rfl (fun h3 => ?_) (fun h3 => ?_)
     · refine q ⟨_, rfl, rfl⟩ rfl rfl (mv (v := Str m) rfl) ?_
       refine q ⟨_, rfl, rfl⟩ rfl rfl (mv (v := Str l) rfl) ?_
       refine q ⟨_, rfl, rfl⟩ rfl rfl (mv (v := I ((k : Nat) : Int)) rfl) ?_
       refine q ⟨_, rfl, rfl⟩ rfl rfl (ixs (l := l) k st9 rfl rfl (by first | omega | (simp; done) | (simp; omega))) ?_
       refine cl ⟨_, rfl, rfl⟩ rfl (stIndexByte (l := m) (c := (l.getD k 0)) (w := _)) ?_
       rintro _ w4 ⟨rfl, hs4'⟩
       have hs4 : SH w w4 [] [] := hs3.call0 hs4'
       clear hs4'
       refine q ⟨_, rfl, rfl⟩ rfl rfl (lss (k := .i64) (a := idxB m (l.getD k 0)) (b := 0) rfl rfl) ?_
       refine q trivial rfl rfl (pt (v := .bool (decide ((idxB m (l.getD k 0)) < 0))) rfl rfl) ?_
       refine nl ?_
       refine nN ?_
       refine cdd (p := (idxB m (l.getD k 0)) < 0) rfl (fun h4 => ?_) (fun h4 => ?_)
       · refine sq ?_
         refine rg ?_
         refine q trivial rfl rfl (asg (v := .bool false) rfl) ?_
         refine nl ?_
         refine nN ?_
         refine rt (bR (tR (tR (bR (tR ?_)))))
         refine fret (v := .bool false) (.tmp .nil) rfl ?_
         have e1 : false = l.all (okC m) := by exact (all_no (d := 0) (k := k) (by omega) (by simp only [okC, decide_eq_false_iff_not]; omega)).symm
         exact ⟨(congrArg (Value.bool) e1), hs4⟩
       · refine sk ?_
         refine bN ?_
         refine nN ?_
         refine rg ?_
         refine q trivial rfl rfl (add (a := ((k : Nat) : Int)) (b := 1) rfl rfl (by exact ⟨by omega, by omega⟩)) ?_
         refine q trivial rfl rfl (mv (v := I (((k : Nat) : Int) + 1)) rfl) ?_
         refine nl ?_
         refine nN ?_
         refine ⟨(k + 1), ⟨⟨rfl, rfl, rfl, rfl, trivial⟩, (by omega), (all_step (d := 0) (by omega) ha (by simp only [okC, decide_eq_true_eq]; omega)), hs4⟩, ?_⟩
         omega
     · refine gk false rfl rfl rfl rfl rfl ?_
       refine gk false rfl rfl rfl rfl rfl ?_
       refine gk false rfl rfl rfl rfl rfl ?_
       refine gk false rfl rfl rfl rfl rfl ?_
       refine gk false rfl rfl rfl rfl rfl ?_
       refine gk false rfl rfl rfl rfl rfl ?_
       refine q trivial rfl rfl (pf (v := .bool false) rfl rfl) ?_
       refine nl ?_
       refine nN ?_
       refine cdf rfl ?_
       refine sk ?_
       refine bN ?_
       refine nN ?_
       refine rg ?_
       refine q trivial rfl rfl (add (a := ((k : Nat) : Int)) (b := 1) rfl rfl (by exact ⟨by omega, by omega⟩)) ?_
       refine q trivial rfl rfl (mv (v := I (((k : Nat) : Int) + 1)) rfl) ?_
       refine nl ?_
       refine nN ?_
       refine ⟨(k + 1), ⟨⟨rfl, rfl, rfl, rfl, trivial⟩, (by omega), (all_step (d := 0) (by omega) ha (by simp only [okC, decide_eq_true_eq]; omega)), hs3⟩, ?_⟩
       omega
   · refine gk false rfl rfl rfl rfl rfl ?_
     refine gk false rfl rfl rfl rfl rfl ?_
     refine gk false rfl rfl rfl rfl rfl ?_
     refine gk false rfl rfl rfl rfl rfl ?_
     refine gk false rfl rfl rfl rfl rfl ?_
     refine q trivial rfl rfl (pf (v := .bool false) rfl rfl) ?_
     refine q trivial rfl rfl (mv (v := .bool false) rfl) ?_
     refine gk false rfl rfl rfl rfl rfl ?_
     refine gk false rfl rfl rfl rfl rfl ?_
     refine gk false rfl rfl rfl rfl rfl ?_
     refine gk false rfl rfl rfl rfl rfl ?_
     refine gk false rfl rfl rfl rfl rfl ?_
     refine gk false rfl rfl rfl rfl rfl ?_
     refine q trivial rfl rfl (pf (v := .bool false) rfl rfl) ?_
     refine nl ?_
     refine nN ?_
     refine cdf rfl ?_
     refine sk ?_
     refine bN ?_
     refine nN ?_
     refine rg ?_
     refine q trivial rfl rfl (add (a := ((k : Nat) : Int)) (b := 1) rfl rfl (by exact ⟨by omega, by omega⟩)) ?_
     refine q trivial rfl rfl (mv (v := I (((k : Nat) : Int) + 1)) rfl) ?_
     refine nl ?_
     refine nN ?_
     refine ⟨(k + 1), ⟨⟨rfl, rfl, rfl, rfl, trivial⟩, (by omega), (all_step (d := 0) (by omega) ha (by simp only [okC, decide_eq_true_eq]; omega)), hs2⟩, ?_⟩
     omega
 · refine ex (tE (tE (bE ?_)))
   refine nN ?_
   refine sq ?_
   refine rg ?_
   refine q trivial rfl rfl (asg (v := .bool true) rfl) ?_
   refine nl ?_
   refine nN ?_
   refine rt ?_
   refine fret (v := .bool true) (.tmp .nil) rfl ?_
   have e2 : true = l.all (okC m) := by exact (all_yes (by omega) ha).symm
   exact ⟨(congrArg (Value.bool) e2), hs1⟩

theorem slGrow (n : Int) (w : World) (hn : 0 ≤ n ∧ n ≤ 1099511627776) : Does Tryd.prog 65 [ns, I n] w (fun v w' => ∃ Ar : Option Addr, ∃ cr : Nat, v = .slice Ar ([] : List Int).length cr ∧ SH w w' [] [.own Ar (([] : List Int).length) cr 3 1 (([] : List Int).map I)]) := by
 refine fn_enter (N := 27) Tryd.func65 rfl (by kernel_rfl) rfl rfl rfl ?_
 have hs0 : SH w w [] [] := SH.refl w []
 refine sq ?_
 refine rg ?_
 refine q trivial rfl rfl (asg (v := ns) rfl) ?_
 refine nl ?_
 refine nN ?_
 refine sq ?_
 refine sq ?_
 refine rg ?_
 refine q trivial rfl rfl (mv (v := I n) rfl) ?_
 refine q trivial rfl rfl (lss (k := .i64) (a := n) (b := 0) rfl rfl) ?_
 refine nl ?_
 refine nN ?_
 refine cdd (p := n < 0) rfl (fun h1 => absurd h1 (by omega)) (fun h1 => ?_)
 refine sk ?_
 refine nN ?_
 refine sq ?_
 refine sq ?_
 refine rg ?_
 refine q trivial rfl rfl (mv (v := I n) rfl) ?_
 refine q trivial rfl rfl (mv (v := ns) rfl) ?_
 refine q trivial rfl rfl (lnC (c := 0) sl23 rfl) ?_
 refine q trivial rfl rfl (mv (v := ns) rfl) ?_
 refine q trivial rfl rfl (lnA (n := 0) sl23 rfl) ?_
 refine q trivial rfl rfl (sub (a := 0) (b := 0) rfl rfl (by exact ⟨by omega, by omega⟩)) ?_
 refine q trivial rfl rfl (sub (a := n) (b := (0 : Int) - 0) rfl rfl (by exact ⟨by omega, by omega⟩)) ?_
 refine q trivial rfl rfl (asg (v := I (n - ((0 : Int) - 0))) rfl) ?_
 refine nl ?_
 refine nN ?_
 refine sq ?_
 refine rg ?_
 refine q trivial rfl rfl (mv (v := I (n - ((0 : Int) - 0))) rfl) ?_
 refine q trivial rfl rfl (gtr (k := .i64) (a := n - ((0 : Int) - 0)) (b := 0) rfl rfl) ?_
 refine nl ?_
 refine nN ?_
 refine cdd (p := (0 : Int) < (n - ((0 : Int) - 0))) rfl (fun h2 => ?_) (fun h2 => ?_)
 · refine rg ?_
   refine q trivial rfl rfl (mv (v := ns) rfl) ?_
   refine q trivial rfl rfl (mv (v := ns) rfl) ?_
   refine q trivial rfl rfl (lnC (c := 0) sl23 rfl) ?_
   refine q trivial rfl rfl (cun sl23 rfl rfl) ?_
   refine q trivial rfl rfl (mv (v := I (n - ((0 : Int) - 0))) rfl) ?_
   refine apz (g := I) (zz := 0) (m := (n - ((0 : Int) - 0)).toNat) hs0 sl23 rfl ti3 rfl (ieq (x := n - ((0 : Int) - 0)) (by omega)) (by omega) (by unfold maxLen; omega) (by omega) trivial rfl (fun A1 c1 w1 (hs1 : SH w w1 [] [.own A1 ((List.replicate ((n - ((0 : Int) - 0)).toNat) (0 : Int)).length) c1 3 1 ((List.replicate ((n - ((0 : Int) - 0)).toNat) (0 : Int)).map I)]) => ?_)
   refine q trivial rfl rfl (mv (v := ns) rfl) ?_
   refine q trivial rfl rfl (lnA (n := 0) sl23 rfl) ?_
   have e1 : ((List.replicate ((n - ((0 : Int) - 0)).toNat) (0 : Int)).map I).take (0 * 1) = ((List.replicate ((n - ((0 : Int) - 0)).toNat) (0 : Int)).take 0).map I := by first | rfl | simp [List.map_take]
   have hs2 : SH w w1 [] [.own A1 0 c1 3 1 (((List.replicate ((n - ((0 : Int) - 0)).toNat) (0 : Int)).take 0).map I)] := e1 ▸ SH.trunc hs1 0 (0) rfl (by first | omega | (simp; done) | (simp; omega))
   refine q trivial rfl rfl (cuh 0 sl23 rfl rfl (Nat.le_trans (by first | omega | (simp; done) | (simp; omega)) (own_cap hs1 0 rfl).1)) ?_
   refine q trivial rfl rfl (asg (v := .slice A1 0 c1) rfl) ?_
   refine nl ?_
   refine nN ?_
   refine sq ?_
   refine rg ?_
   refine q trivial rfl rfl (mv (v := .slice A1 0 c1) rfl) ?_
   refine q trivial rfl rfl (asg (v := .slice A1 0 c1) rfl) ?_
   refine nl ?_
   refine nN ?_
   refine rt ?_
   refine fret (v := .slice A1 0 c1) (.tmp .nil) rfl ?_
   have e2 : (List.replicate ((n - ((0 : Int) - 0)).toNat) (0 : Int)).take 0 = ([] : List Int) := by first | rfl | simp
   have e3 : 0 = ([] : List Int).length := by exact (show 0 = ((List.replicate ((n - ((0 : Int) - 0)).toNat) (0 : Int)).take 0).length by first | rfl | (simp; done) | (simp; omega) | omega).trans (congrArg List.length e2)
   exact ⟨A1, c1, (slv rfl e3 rfl), (hs2.cast (lc (own_eq (g := I) rfl e3 rfl e2) rfl))⟩
 · refine sk ?_
   refine nN ?_
   refine sq ?_
   refine rg ?_
   refine q trivial rfl rfl (mv (v := ns) rfl) ?_
   refine q trivial rfl rfl (asg (v := ns) rfl) ?_
   refine nl ?_
   refine nN ?_
   refine rt ?_
   refine fret (v := ns) (.tmp .nil) rfl ?_
   have hs3 : SH w w [] [.own none (([] : List Int).length) 0 3 1 (([] : List Int).map I)] := SH.nils (by intro i hi; simp at hi; subst hi; exact nilItem) hs0
   exact ⟨none, 0, rfl, hs3⟩

theorem slConcat {Ahs : Option Addr} {chs : Nat} (hs : List Hd) (w : World) (hhs : Sl w [] 1 Ahs hs.length chs (hs.map hv)) (hhs_in : ∀ u ∈ hs, HdOk w [] u) (hct : (catH hs).length ≤ 1099511627776) : Does Tryd.prog 47 [.slice Ahs hs.length chs] w (fun v w' => ∃ Ar : Option Addr, ∃ cr : Nat, v = .slice Ar (catH hs).length cr ∧ SH w w' [] [.own Ar ((catH hs).length) cr 3 1 ((catH hs).map I)]) := by
 refine fn_enter (N := 36) Tryd.func47 rfl (by kernel_rfl) rfl rfl rfl ?_
 have hs0 : SH w w [] [] := SH.refl w []
 have hhs_m : hs.length ≤ 9223372036854775807 := Nat.le_trans hhs.cap hhs.capMax
 refine sq ?_
 refine rg ?_
 refine q trivial rfl rfl (asg (v := ns) rfl) ?_
 refine nl ?_
 refine nN ?_
 refine sq ?_
 refine rg ?_
 refine q trivial rfl rfl (asg (v := I 0) rfl) ?_
 refine nl ?_
 refine nN ?_
 refine sq ?_
 refine sq ?_
 refine rg ?_
 refine q trivial rfl rfl (mv (v := .slice Ahs hs.length chs) rfl) ?_
 refine q trivial rfl rfl (lnA (n := hs.length) sl74 rfl) ?_
 refine q trivial rfl rfl (mv (v := I 0) rfl) ?_
 refine nl ?_
 refine nN ?_
 refine bl ?_
 refine lp (σ := Nat) (fun (k : Nat) f w' => Has f [(0, .slice Ahs hs.length chs), (3, I ((catH (hs.take k)).length : Int)), (9, .slice Ahs hs.length chs), (10, I ((hs.length : Nat) : Int)), (11, I ((k : Nat) : Int))] ∧ (k ≤ hs.length) ∧ SH w w' [] []) (fun k => hs.length - k) 0 ⟨⟨rfl, (show (I 0 : Value) = I ((catH (hs.take 0)).length : Int) from congrArg (Value.int .i64) (by simp [catH])), rfl, rfl, rfl, trivial⟩, (by simp), hs0⟩ ?_
 rintro k f w1 ⟨hf, hk, hs1⟩
 obtain ⟨g1, rfl⟩ := has_upd hf
 clear hf
 refine sq ?_
 refine rg ?_
 refine q trivial rfl rfl (lss (k := .i64) (a := ((k : Nat) : Int)) (b := ((hs.length : Nat) : Int)) rfl rfl) ?_
 refine nl ?_
 refine nN ?_
 refine sq ?_
 refine cdd (p := ((k : Nat) : Int) < ((hs.length : Nat) : Int)) rfl (fun h1 => ?_) (fun h1 => ?_)
 · refine sk ?_
   refine nN ?_
   refine sq ?_
   refine bl ?_
   refine sq ?_
   refine rg ?_
   refine ixw1 k sl74 rfl rfl hhs (by first | omega | (simp; done) | (simp; omega)) (getm hv hd0 (by first | omega | (simp; done) | (simp; omega))) trivial rfl (fun a1 ha1 => ?_)
   refine q trivial rfl rfl (lda (v := .slice ((hs.getD k hd0).A) (((hs.getD k hd0).xs).length) ((hs.getD k hd0).c)) hs1 ha1 (fun _ h => h) rfl rfl one23) ?_
   refine q trivial rfl rfl (asg (v := .slice ((hs.getD k hd0).A) (((hs.getD k hd0).xs).length) ((hs.getD k hd0).c)) rfl) ?_
   refine nl ?_
   refine nN ?_
   refine sq ?_
   refine rg ?_
   refine q trivial rfl rfl (mv (v := I ((catH (hs.take k)).length : Int)) rfl) ?_
   refine q trivial rfl rfl (mv (v := .slice ((hs.getD k hd0).A) (((hs.getD k hd0).xs).length) ((hs.getD k hd0).c)) rfl) ?_
   refine q trivial rfl rfl (lnA (n := ((hs.getD k hd0).xs).length) sl23 rfl) ?_
   refine q trivial rfl rfl (add (a := ((catH (hs.take k)).length : Int)) (b := ((((hs.getD k hd0).xs).length : Nat) : Int)) rfl rfl (by have hq := catH_len (l := hs) (k := k + 1); rw [← catH_succ (by omega), List.length_append] at hq; exact ⟨by omega, by omega⟩)) ?_
   refine q trivial rfl rfl (asg (v := I (((catH (hs.take k)).length : Int) + ((((hs.getD k hd0).xs).length : Nat) : Int))) rfl) ?_
   refine nl ?_
   refine nN ?_
   refine sq ?_
   refine rg ?_
   refine q trivial rfl rfl (mv (v := I (((catH (hs.take k)).length : Int) + ((((hs.getD k hd0).xs).length : Nat) : Int))) rfl) ?_
   refine q trivial rfl rfl (lss (k := .i64) (a := ((catH (hs.take k)).length : Int) + ((((hs.getD k hd0).xs).length : Nat) : Int)) (b := 0) rfl rfl) ?_
   refine nl ?_
   refine nN ?_
   refine cdd (p := (((catH (hs.take k)).length : Int) + ((((hs.getD k hd0).xs).length : Nat) : Int)) < 0) rfl (fun h2 => absurd h2 (by omega)) (fun h2 => ?_)
   refine sk ?_
   refine bN ?_
   refine nN ?_
   refine rg ?_
   refine q trivial rfl rfl (add (a := ((k : Nat) : Int)) (b := 1) rfl rfl (by exact ⟨by omega, by omega⟩)) ?_
   refine q trivial rfl rfl (mv (v := I (((k : Nat) : Int) + 1)) rfl) ?_
   refine nl ?_
   refine nN ?_
   refine ⟨(k + 1), ⟨⟨rfl, (show (I (((catH (hs.take k)).length : Int) + ((((hs.getD k hd0).xs).length : Nat) : Int)) : Value) = I ((catH (hs.take (k + 1))).length : Int) from congrArg (Value.int .i64) (by rw [← catH_succ (by omega)]; simp)), rfl, rfl, rfl, trivial⟩, (by omega), hs1⟩, ?_⟩
   omega
 · refine ex (tE (tE (bE ?_)))
   refine nN ?_
   refine sq ?_
   refine rg ?_
   refine q trivial rfl rfl (mv (v := I ((catH (hs.take k)).length : Int)) rfl) ?_
   refine cl trivial rfl (slGrow (n := ((catH (hs.take k)).length : Int)) (w := _) (hn := (by have hq := catH_len (l := hs) (k := k); omega))) ?_
   rintro _ w2 ⟨A1, c1, rfl, hs2'⟩
   have hs2 : SH w w2 [] [.own A1 (([] : List Int).length) c1 3 1 (([] : List Int).map I)] := hs1.call0 hs2'
   clear hs2'
   refine q trivial rfl rfl (asg (v := .slice A1 (([] : List Int).length) c1) rfl) ?_
   refine nl ?_
   refine nN ?_
   refine sq ?_
   refine sq ?_
   refine rg ?_
   refine q trivial rfl rfl (mv (v := .slice Ahs hs.length chs) rfl) ?_
   refine q trivial rfl rfl (lnA (n := hs.length) sl74 rfl) ?_
   refine q trivial rfl rfl (mv (v := I 0) rfl) ?_
   refine nl ?_
   refine nN ?_
   refine bl ?_
   have e1 : ([] : List Int) = catH (hs.take 0) := by simp [catH]
   have e2 : ([] : List Int).length = (catH (hs.take 0)).length := by rw [e1]
   refine lp (σ := (Option Addr) × Nat × Nat) (fun ⟨Ag6, cg6, j⟩ f w' => Has f [(6, .slice Ag6 ((catH (hs.take j)).length) cg6), (25, .slice Ahs hs.length chs), (26, I ((hs.length : Nat) : Int)), (27, I ((j : Nat) : Int))] ∧ (j ≤ hs.length) ∧ SH w w' [] [.own Ag6 ((catH (hs.take j)).length) cg6 3 1 ((catH (hs.take j)).map I)]) (fun ⟨Ag6, cg6, j⟩ => hs.length - j) (A1, c1, 0) ⟨⟨(show (.slice A1 (([] : List Int).length) c1 : Value) = .slice A1 ((catH (hs.take 0)).length) c1 from slv rfl e2 rfl), rfl, rfl, rfl, trivial⟩, (by simp), (hs2.cast (lc (own_eq (g := I) rfl e2 rfl e1) rfl))⟩ ?_
   rintro ⟨Ag6, cg6, j⟩ f w3 ⟨hf, hj, hs3⟩
   obtain ⟨g2, rfl⟩ := has_upd hf
   clear hf
   refine sq ?_
   refine rg ?_
   refine q trivial rfl rfl (lss (k := .i64) (a := ((j : Nat) : Int)) (b := ((hs.length : Nat) : Int)) rfl rfl) ?_
   refine nl ?_
   refine nN ?_
   refine sq ?_
   refine cdd (p := ((j : Nat) : Int) < ((hs.length : Nat) : Int)) rfl (fun h3 => ?_) (fun h3 => ?_)
   · refine sk ?_
     refine nN ?_
     refine sq ?_
     refine bl ?_
     refine sq ?_
     refine rg ?_
     refine ixw1 j sl74 rfl rfl hhs (by first | omega | (simp; done) | (simp; omega)) (getm hv hd0 (by first | omega | (simp; done) | (simp; omega))) trivial rfl (fun a2 ha2 => ?_)
     refine q trivial rfl rfl (lda (v := .slice ((hs.getD j hd0).A) (((hs.getD j hd0).xs).length) ((hs.getD j hd0).c)) hs3 ha2 (fun _ h => h) rfl rfl one23) ?_
     refine q trivial rfl rfl (asg (v := .slice ((hs.getD j hd0).A) (((hs.getD j hd0).xs).length) ((hs.getD j hd0).c)) rfl) ?_
     refine nl ?_
     refine nN ?_
     refine rg ?_
     refine q trivial rfl rfl (mv (v := .slice Ag6 ((catH (hs.take j)).length) cg6) rfl) ?_
     refine q trivial rfl rfl (mv (v := .slice ((hs.getD j hd0).A) (((hs.getD j hd0).xs).length) ((hs.getD j hd0).c)) rfl) ?_
     refine apm (g := I) (ys := catH (hs.take j)) (zs := (hs.getD j hd0).xs) hs3 0 rfl sl23 rfl rfl rfl (Sl.up0 (hhs_in _ (getD_mem' (by first | omega | (simp; done) | (simp; omega)))) hs3) (fun _ => rfl) (by unfold maxLen; have hq := catH_len (l := hs) (k := j + 1); rw [← catH_succ (by omega), List.length_append] at hq; omega) (by have hq := catH_len (l := hs) (k := j + 1); rw [← catH_succ (by omega), List.length_append] at hq; omega) trivial rfl (fun A2 c2 w4 (hs4 : SH w w4 [] [.own A2 (((catH (hs.take j)) ++ ((hs.getD j hd0).xs)).length) c2 3 1 (((catH (hs.take j)) ++ ((hs.getD j hd0).xs)).map I)]) => ?_)
     refine q trivial rfl rfl (asg (v := .slice A2 (((catH (hs.take j)) ++ ((hs.getD j hd0).xs)).length) c2) rfl) ?_
     refine nl ?_
     refine bN ?_
     refine nN ?_
     refine rg ?_
     refine q trivial rfl rfl (add (a := ((j : Nat) : Int)) (b := 1) rfl rfl (by exact ⟨by omega, by omega⟩)) ?_
     refine q trivial rfl rfl (mv (v := I (((j : Nat) : Int) + 1)) rfl) ?_
     refine nl ?_
     refine nN ?_
     have e3 : (catH (hs.take j)) ++ ((hs.getD j hd0).xs) = catH (hs.take (j + 1)) := by exact catH_succ (by omega)
     have e4 : ((catH (hs.take j)) ++ ((hs.getD j hd0).xs)).length = (catH (hs.take (j + 1))).length := by rw [e3]
     refine ⟨(A2, c2, j + 1), ⟨⟨(show (.slice A2 (((catH (hs.take j)) ++ ((hs.getD j hd0).xs)).length) c2 : Value) = .slice A2 ((catH (hs.take (j + 1))).length) c2 from slv rfl e4 rfl), rfl, rfl, rfl, trivial⟩, (by omega), (hs4.cast (lc (own_eq (g := I) rfl e4 rfl e3) rfl))⟩, ?_⟩
     show hs.length - (j + 1) < hs.length - j
     omega
   · refine ex (tE (tE (bE ?_)))
     refine nN ?_
     refine sq ?_
     refine rg ?_
     refine q trivial rfl rfl (mv (v := .slice Ag6 ((catH (hs.take j)).length) cg6) rfl) ?_
     refine q trivial rfl rfl (asg (v := .slice Ag6 ((catH (hs.take j)).length) cg6) rfl) ?_
     refine nl ?_
     refine nN ?_
     refine rt ?_
     refine fret (v := .slice Ag6 ((catH (hs.take j)).length) cg6) (.tmp .nil) rfl ?_
     have e5 : catH (hs.take j) = catH hs := by have : j = hs.length := (by omega); subst this; simp
     have e6 : (catH (hs.take j)).length = (catH hs).length := by exact congrArg List.length e5
     exact ⟨Ag6, cg6, (slv rfl e6 rfl), (hs3.cast (lc (own_eq (g := I) rfl e6 rfl e5) rfl))⟩

theorem szIntS {Axs : Option Addr} {cxs : Nat} (xs : List Int) (z : Int) (w : World) (hxs : Sl w [] 1 Axs xs.length cxs (xs.map I)) (hz : 0 ≤ z ∧ z ≤ 1099511627776) : Does Tryd.prog 35 [.slice Axs xs.length cxs, I z] w (fun v w' => v = .int .i64 (szI xs.length z) ∧ SH w w' [] []) := by
 refine fn_enter (N := 12) Tryd.func35 rfl (by kernel_rfl) rfl rfl rfl ?_
 have hs0 : SH w w [] [] := SH.refl w []
 have hxs_m : xs.length ≤ 9223372036854775807 := Nat.le_trans hxs.cap hxs.capMax
 refine sq ?_
 refine rg ?_
 refine q trivial rfl rfl (asg (v := I 0) rfl) ?_
 refine nl ?_
 refine nN ?_
 refine sq ?_
 refine rg ?_
 refine q trivial rfl rfl (mv (v := I z) rfl) ?_
 refine q trivial rfl rfl (mv (v := .slice Axs xs.length cxs) rfl) ?_
 refine q trivial rfl rfl (lnA (n := xs.length) sl23 rfl) ?_
 refine q trivial rfl rfl (sub (a := z) (b := ((xs.length : Nat) : Int)) rfl rfl (by exact ⟨by omega, by omega⟩)) ?_
 refine q trivial rfl rfl (asg (v := I (z - ((xs.length : Nat) : Int))) rfl) ?_
 refine nl ?_
 refine nN ?_
 refine sq ?_
 refine sq ?_
 refine rg ?_
 refine q trivial rfl rfl (mv (v := I (z - ((xs.length : Nat) : Int))) rfl) ?_
 refine q trivial rfl rfl (lss (k := .i64) (a := z - ((xs.length : Nat) : Int)) (b := 0) rfl rfl) ?_
 refine nl ?_
 refine nN ?_
 refine cdd (p := (z - ((xs.length : Nat) : Int)) < 0) rfl (fun h1 => ?_) (fun h1 => ?_)
 · refine sq ?_
   refine rg ?_
   refine q trivial rfl rfl (asg (v := I (-1)) rfl) ?_
   refine nl ?_
   refine nN ?_
   refine rt (tR ?_)
   refine fret (v := I (-1)) (.tmp .nil) rfl ?_
   have e1 : (-1) = szI xs.length z := by simp [szI] <;> omega
   exact ⟨(congrArg (Value.int .i64) e1), hs0⟩
 · refine sk ?_
   refine nN ?_
   refine sq ?_
   refine rg ?_
   refine q trivial rfl rfl (mv (v := I (z - ((xs.length : Nat) : Int))) rfl) ?_
   refine q trivial rfl rfl (asg (v := I (z - ((xs.length : Nat) : Int))) rfl) ?_
   refine nl ?_
   refine nN ?_
   refine rt ?_
   refine fret (v := I (z - ((xs.length : Nat) : Int))) (.tmp .nil) rfl ?_
   have e2 : z - ((xs.length : Nat) : Int) = szI xs.length z := by simp [szI] <;> omega
   exact ⟨(congrArg (Value.int .i64) e2), hs0⟩

theorem slIndexS (l : List UInt8) (c : UInt8) (w : World)  : Does Tryd.prog 93 [Str l, Str [c]] w (fun v w' => v = .int .i64 (idxB l c) ∧ SH w w' [] []) := by
 refine fn_enter (N := 143) Tryd.func93 rfl (by kernel_rfl) rfl rfl rfl ?_
 have hs0 : SH w w [] [] := SH.refl w []
 refine sq ?_
 refine rg ?_
 refine q trivial rfl rfl (asg (v := I 0) rfl) ?_
 refine nl ?_
 refine nN ?_
 refine sq ?_
 refine rg ?_
 refine q trivial rfl rfl (mv (v := Str [c]) rfl) ?_
 refine q trivial rfl rfl (lnS (l := [c]) st9 rfl) ?_
 refine q trivial rfl rfl (asg (v := I (([c].length : Nat) : Int)) rfl) ?_
 refine nl ?_
 refine nN ?_
 refine sq ?_
 refine bl ?_
 refine sq ?_
 refine rg ?_
 refine q trivial rfl rfl (mv (v := I (([c].length : Nat) : Int)) rfl) ?_
 refine q trivial rfl rfl (eqi (k := .i64) (a := (([c].length : Nat) : Int)) (b := 0) rfl rfl) ?_
 refine q trivial rfl rfl (mv (v := .bool (decide ((([c].length : Nat) : Int) = 0))) rfl) ?_
 refine spd (p := (([c].length : Nat) : Int) = 0) 19 rfl (fun h1 => absurd h1 (by simp)) (fun h1 => ?_)
 refine q ⟨_, rfl, rfl⟩ rfl rfl (mv (v := Str [c]) rfl) ?_
 refine q ⟨_, rfl, rfl⟩ rfl rfl (mv (v := Str l) rfl) ?_
 refine q ⟨_, rfl, rfl⟩ rfl rfl (eqs (l := [c]) (m := l) rfl rfl) ?_
 refine q trivial rfl rfl (pf (v := .bool (decide ([c] = l))) rfl rfl) ?_
 refine q trivial rfl rfl (asg (v := .bool (decide ([c] = l))) rfl) ?_
 refine nl ?_
 refine nN ?_
 refine cdd (p := [c] = l) rfl (fun h2 => ?_) (fun h2 => ?_)
 · refine sq ?_
   refine rg ?_
   refine q trivial rfl rfl (asg (v := I 0) rfl) ?_
   refine nl ?_
   refine nN ?_
   refine rt (bR (tR ?_))
   refine fret (v := I 0) (.tmp .nil) rfl ?_
   have e1 : 0 = idxB l c := by subst h2; exact (idxB_self c).symm
   exact ⟨(congrArg (Value.int .i64) e1), hs0⟩
 · refine sq ?_
   refine rg ?_
   refine q trivial rfl rfl (mv (v := I (([c].length : Nat) : Int)) rfl) ?_
   refine q trivial rfl rfl (eqi (k := .i64) (a := (([c].length : Nat) : Int)) (b := 1) rfl rfl) ?_
   refine q trivial rfl rfl (asg (v := .bool (decide ((([c].length : Nat) : Int) = 1))) rfl) ?_
   refine nl ?_
   refine nN ?_
   refine cdd (p := (([c].length : Nat) : Int) = 1) rfl (fun h3 => ?_) (fun h3 => absurd (by rfl) h3)
   refine sq ?_
   refine rg ?_
   refine q trivial rfl rfl (mv (v := Str l) rfl) ?_
   refine q trivial rfl rfl (mv (v := Str [c]) rfl) ?_
   refine q trivial rfl rfl (ixs (l := [c]) 0 st9 rfl rfl (by first | omega | (simp; done) | (simp; omega))) ?_
   refine cl trivial rfl (slIndexByte (l := l) (c := ([c].getD 0 0)) (w := _)) ?_
   rintro _ w1 ⟨rfl, hs1'⟩
   have hs1 : SH w w1 [] [] := hs0.call0 hs1'
   clear hs1'
   refine q trivial rfl rfl (asg (v := I (idxB l ([c].getD 0 0))) rfl) ?_
   refine nl ?_
   refine nN ?_
   refine rt (bR (tR ?_))
   refine fret (v := I (idxB l ([c].getD 0 0))) (.tmp .nil) rfl ?_
   have e2 : idxB l ([c].getD 0 0) = idxB l c := by rfl
   exact ⟨(congrArg (Value.int .i64) e2), hs1⟩

theorem stIndex (l : List UInt8) (c : UInt8) (w : World)  : Does Tryd.prog 88 [Str l, Str [c]] w (fun v w' => v = .int .i64 (idxB l c) ∧ SH w w' [] []) := by
 refine fn_enter (N := 8) Tryd.func88 rfl (by kernel_rfl) rfl rfl rfl ?_
 have hs0 : SH w w [] [] := SH.refl w []
 refine sq ?_
 refine rg ?_
 refine q trivial rfl rfl (asg (v := I 0) rfl) ?_
 refine nl ?_
 refine nN ?_
 refine sq ?_
 refine rg ?_
 refine q trivial rfl rfl (mv (v := Str l) rfl) ?_
 refine q trivial rfl rfl (mv (v := Str [c]) rfl) ?_
 refine cl trivial rfl (slIndexS (l := l) (c := c) (w := _)) ?_
 rintro _ w1 ⟨rfl, hs1'⟩
 have hs1 : SH w w1 [] [] := hs0.call0 hs1'
 clear hs1'
 refine q trivial rfl rfl (asg (v := I (idxB l c)) rfl) ?_
 refine nl ?_
 refine nN ?_
 refine rt ?_
 refine fret (v := I (idxB l c)) (.tmp .nil) rfl ?_
 exact ⟨rfl, hs1⟩

theorem stCount (l : List UInt8) (c : UInt8) (w : World)  : Does Tryd.prog 87 [Str l, Str [c]] w (fun v w' => v = .int .i64 ((l.count c : Nat) : Int) ∧ SH w w' [] []) := by
 refine fn_enter (N := 34) Tryd.func87 rfl (by kernel_rfl) rfl rfl rfl ?_
 have hs0 : SH w w [] [] := SH.refl w []
 refine sq ?_
 refine rg ?_
 refine q trivial rfl rfl (asg (v := I 0) rfl) ?_
 refine nl ?_
 refine nN ?_
 refine sq ?_
 refine sq ?_
 refine rg ?_
 refine q trivial rfl rfl (mv (v := Str [c]) rfl) ?_
 refine q trivial rfl rfl (lnS (l := [c]) st9 rfl) ?_
 refine q trivial rfl rfl (eqi (k := .i64) (a := (([c].length : Nat) : Int)) (b := 0) rfl rfl) ?_
 refine nl ?_
 refine nN ?_
 refine cdd (p := (([c].length : Nat) : Int) = 0) rfl (fun h1 => absurd h1 (by simp)) (fun h1 => ?_)
 refine sk ?_
 refine nN ?_
 refine sq ?_
 refine sq ?_
 refine rg ?_
 refine q trivial rfl rfl (mv (v := Str [c]) rfl) ?_
 refine q trivial rfl rfl (lnS (l := [c]) st9 rfl) ?_
 refine q trivial rfl rfl (eqi (k := .i64) (a := (([c].length : Nat) : Int)) (b := 1) rfl rfl) ?_
 refine nl ?_
 refine nN ?_
 refine cdd (p := (([c].length : Nat) : Int) = 1) rfl (fun h2 => ?_) (fun h2 => absurd (by rfl) h2)
 refine sq ?_
 refine rg ?_
 refine q trivial rfl rfl (mv (v := Str l) rfl) ?_
 refine q trivial rfl rfl (mv (v := Str [c]) rfl) ?_
 refine q trivial rfl rfl (ixs (l := [c]) 0 st9 rfl rfl (by first | omega | (simp; done) | (simp; omega))) ?_
 refine q trivial rfl rfl (csc (l := l) (c := ([c].getD 0 0)) Tryd.func92 (by kernel_rfl) rfl (by kernel_rfl) (by kernel_rfl) rfl rfl) ?_
 refine q trivial rfl rfl (asg (v := I ((l.count ([c].getD 0 0) : Nat) : Int)) rfl) ?_
 refine nl ?_
 refine nN ?_
 refine rt (tR ?_)
 refine fret (v := I ((l.count ([c].getD 0 0) : Nat) : Int)) (.tmp .nil) rfl ?_
 have e1 : ((l.count ([c].getD 0 0) : Nat) : Int) = ((l.count c : Nat) : Int) := by first | rfl | (simp; done) | (simp_all; done) | omega
 exact ⟨(congrArg (Value.int .i64) e1), hs0⟩

theorem genSplit (l : List UInt8) (c : UInt8) (w : World) (hl_n : l.length ≤ 1099511627776) : Does Tryd.prog 81 [Str l, Str [c], I 0, I (-1)] w (fun v w' => ∃ Ar : Option Addr, ∃ cr : Nat, v = .slice Ar (splitB c l).length cr ∧ SH w w' [] [.own Ar ((splitB c l).length) cr 9 1 ((splitB c l).map Str)]) := by
 refine fn_enter (N := 66) Tryd.func81 rfl (by kernel_rfl) rfl rfl rfl ?_
 have hs0 : SH w w [] [] := SH.refl w []
 refine sq ?_
 refine rg ?_
 refine q trivial rfl rfl (asg (v := ns) rfl) ?_
 refine nl ?_
 refine nN ?_
 refine sq ?_
 refine sq ?_
 refine rg ?_
 refine q trivial rfl rfl (mv (v := I (-1)) rfl) ?_
 refine q trivial rfl rfl (eqi (k := .i64) (a := (-1)) (b := 0) rfl rfl) ?_
 refine nl ?_
 refine nN ?_
 refine cdd (p := ((-1) : Int) = 0) rfl (fun h1 => absurd h1 (by decide)) (fun h1 => ?_)
 refine sk ?_
 refine nN ?_
 refine sq ?_
 refine sq ?_
 refine rg ?_
 refine q trivial rfl rfl (mv (v := Str [c]) rfl) ?_
 refine q trivial rfl rfl (eqs (l := [c]) (m := []) rfl rfl) ?_
 refine nl ?_
 refine nN ?_
 refine cdd (p := [c] = []) rfl (fun h2 => absurd h2 (by simp)) (fun h2 => ?_)
 refine sk ?_
 refine nN ?_
 refine sq ?_
 refine sq ?_
 refine rg ?_
 refine q trivial rfl rfl (mv (v := I (-1)) rfl) ?_
 refine q trivial rfl rfl (lss (k := .i64) (a := (-1)) (b := 0) rfl rfl) ?_
 refine nl ?_
 refine nN ?_
 refine cdd (p := (-1) < 0) rfl (fun h3 => ?_) (fun h3 => absurd (by decide) h3)
 refine rg ?_
 refine q trivial rfl rfl (mv (v := Str l) rfl) ?_
 refine q trivial rfl rfl (mv (v := Str [c]) rfl) ?_
 refine cl trivial rfl (stCount (l := l) (c := c) (w := _)) ?_
 rintro _ w1 ⟨rfl, hs1'⟩
 have hs1 : SH w w1 [] [] := hs0.call0 hs1'
 clear hs1'
 refine q trivial rfl rfl (add (a := ((l.count c : Nat) : Int)) (b := 1) rfl rfl (by first | (exact ⟨by omega, by omega⟩) | (have hsl := splitB_len c l; have hcl := List.count_le_length (a := c) (l := l); exact ⟨by omega, by omega⟩) | (have hsl := splitB_len c l; have hcl := List.count_le_length (a := c) (l := l); have hib := idxB_lt s c; (try have e1 : [c].length = 1 := rfl); exact ⟨by omega, by omega⟩))) ?_
 refine q trivial rfl rfl (asg (v := I (((l.count c : Nat) : Int) + 1)) rfl) ?_
 refine nl ?_
 refine nN ?_
 refine sq ?_
 refine rg ?_
 refine q trivial rfl rfl (mv (v := I (((l.count c : Nat) : Int) + 1)) rfl) ?_
 refine q trivial rfl rfl (mv (v := Str l) rfl) ?_
 refine q trivial rfl rfl (lnS (l := l) st9 rfl) ?_
 refine q trivial rfl rfl (add (a := ((l.length : Nat) : Int)) (b := 1) rfl rfl (by first | (exact ⟨by omega, by omega⟩) | (have hsl := splitB_len c l; have hcl := List.count_le_length (a := c) (l := l); exact ⟨by omega, by omega⟩) | (have hsl := splitB_len c l; have hcl := List.count_le_length (a := c) (l := l); have hib := idxB_lt s c; (try have e1 : [c].length = 1 := rfl); exact ⟨by omega, by omega⟩))) ?_
 refine q trivial rfl rfl (mnI (a := ((l.count c : Nat) : Int) + 1) (b := ((l.length : Nat) : Int) + 1) rfl rfl) ?_
 refine q trivial rfl rfl (asg (v := I (min (((l.count c : Nat) : Int) + 1) (((l.length : Nat) : Int) + 1))) rfl) ?_
 refine nl ?_
 refine nN ?_
 refine sq ?_
 refine rg ?_
 refine q trivial rfl rfl (mv (v := I (min (((l.count c : Nat) : Int) + 1) (((l.length : Nat) : Int) + 1))) rfl) ?_
 refine mkm (g := Str) (z := []) (n := (min (((l.count c : Nat) : Int) + 1) (((l.length : Nat) : Int) + 1)).toNat) hs1 sl88 rfl (ieq (x := min (((l.count c : Nat) : Int) + 1) (((l.length : Nat) : Int) + 1)) (by first | (omega) | (have hsl := splitB_len c l; have hcl := List.count_le_length (a := c) (l := l); omega) | (have hsl := splitB_len c l; have hcl := List.count_le_length (a := c) (l := l); have hib := idxB_lt s c; (try have e1 : [c].length = 1 := rfl); omega))) (ieq (x := min (((l.count c : Nat) : Int) + 1) (((l.length : Nat) : Int) + 1)) (by first | (omega) | (have hsl := splitB_len c l; have hcl := List.count_le_length (a := c) (l := l); omega) | (have hsl := splitB_len c l; have hcl := List.count_le_length (a := c) (l := l); have hib := idxB_lt s c; (try have e1 : [c].length = 1 := rfl); omega))) (by first | (omega) | (have hsl := splitB_len c l; have hcl := List.count_le_length (a := c) (l := l); omega)) (by unfold maxLen; first | (omega) | (have hsl := splitB_len c l; have hcl := List.count_le_length (a := c) (l := l); omega)) trivial rfl (fun b1 w2 (hs2 : SH w w2 [] [.own (some ⟨b1, 0, none⟩) ((List.replicate ((min (((l.count c : Nat) : Int) + 1) (((l.length : Nat) : Int) + 1)).toNat) ([] : List UInt8)).length) ((min (((l.count c : Nat) : Int) + 1) (((l.length : Nat) : Int) + 1)).toNat) 9 1 ((List.replicate ((min (((l.count c : Nat) : Int) + 1) (((l.length : Nat) : Int) + 1)).toNat) ([] : List UInt8)).map Str)]) => ?_)
 refine q trivial rfl rfl (asg (v := sb b1 ((List.replicate ((min (((l.count c : Nat) : Int) + 1) (((l.length : Nat) : Int) + 1)).toNat) ([] : List UInt8)).length) ((min (((l.count c : Nat) : Int) + 1) (((l.length : Nat) : Int) + 1)).toNat)) rfl) ?_
 refine nl ?_
 refine nN ?_
 refine sq ?_
 refine rg ?_
 refine q trivial rfl rfl (mv (v := I (min (((l.count c : Nat) : Int) + 1) (((l.length : Nat) : Int) + 1))) rfl) ?_
 refine q trivial rfl rfl (sub (a := min (((l.count c : Nat) : Int) + 1) (((l.length : Nat) : Int) + 1)) (b := 1) rfl rfl (by first | (exact ⟨by omega, by omega⟩) | (have hsl := splitB_len c l; have hcl := List.count_le_length (a := c) (l := l); exact ⟨by omega, by omega⟩))) ?_
 refine q trivial rfl rfl (asg (v := I ((min (((l.count c : Nat) : Int) + 1) (((l.length : Nat) : Int) + 1)) - 1)) rfl) ?_
 refine nl ?_
 refine nN ?_
 refine sq ?_
 refine rg ?_
 refine q trivial rfl rfl (asg (v := I 0) rfl) ?_
 refine nl ?_
 refine nN ?_
 refine sq ?_
 refine bl ?_
 have e1 : List.replicate ((min (((l.count c : Nat) : Int) + 1) (((l.length : Nat) : Int) + 1)).toNat) ([] : List UInt8) = (splitB c l).take 0 ++ List.replicate ((splitB c l).length - 0) ([] : List UInt8) := by have hsl := splitB_len c l; have hcl := List.count_le_length (a := c) (l := l); rw [show (min (((l.count c : Nat) : Int) + 1) (((l.length : Nat) : Int) + 1)).toNat = (splitB c l).length by omega]; simp
 have e2 : (List.replicate ((min (((l.count c : Nat) : Int) + 1) (((l.length : Nat) : Int) + 1)).toNat) ([] : List UInt8)).length = (splitB c l).length := by first | (first | rfl | (simp; done) | (simp; omega) | omega) | (have hsl := splitB_len c l; have hcl := List.count_le_length (a := c) (l := l); first | rfl | (simp; done) | (simp; omega) | omega)
 refine lp (σ := (Option Addr) × Nat × Nat × (List UInt8)) (fun ⟨Ag9, cg9, k, s⟩ f w' => Has f [(0, Str s), (1, Str [c]), (2, I 0), (3, I ((l.count c : Nat) : Int)), (9, .slice Ag9 ((splitB c l).length) cg9), (10, I ((k : Nat) : Int))] ∧ (k < (splitB c l).length) ∧ (splitB c s = (splitB c l).drop k) ∧ (s.length ≤ l.length) ∧ SH w w' [] [.own Ag9 ((splitB c l).length) cg9 9 1 (((splitB c l).take k ++ List.replicate ((splitB c l).length - k) ([] : List UInt8)).map Str)]) (fun ⟨Ag9, cg9, k, s⟩ => l.length + 1 - k) ((some ⟨b1, 0, none⟩), (min (((l.count c : Nat) : Int) + 1) (((l.length : Nat) : Int) + 1)).toNat, 0, l) ⟨⟨rfl, rfl, rfl, (show (I ((min (((l.count c : Nat) : Int) + 1) (((l.length : Nat) : Int) + 1)) - 1) : Value) = I ((l.count c : Nat) : Int) from congrArg (Value.int .i64) (by have hsl := splitB_len c l; have hcl := List.count_le_length (a := c) (l := l); omega)), (show (.slice (some ⟨b1, 0, none⟩) ((List.replicate ((min (((l.count c : Nat) : Int) + 1) (((l.length : Nat) : Int) + 1)).toNat) ([] : List UInt8)).length) ((min (((l.count c : Nat) : Int) + 1) (((l.length : Nat) : Int) + 1)).toNat) : Value) = .slice (some ⟨b1, 0, none⟩) ((splitB c l).length) ((min (((l.count c : Nat) : Int) + 1) (((l.length : Nat) : Int) + 1)).toNat) from slv rfl e2 rfl), rfl, trivial⟩, (by have hsl := splitB_len c l; have hcl := List.count_le_length (a := c) (l := l); omega), (by simp), (Nat.le_refl _), (hs2.cast (lc (own_eq (g := Str) rfl e2 rfl e1) rfl))⟩ ?_
 rintro ⟨Ag9, cg9, k, s⟩ f w3 ⟨hf, hk, hs_, hsn, hs3⟩
 obtain ⟨g1, rfl⟩ := has_upd hf
 clear hf
 refine sq ?_
 refine sq ?_
 refine rg ?_
 refine q trivial rfl rfl (mv (v := I ((k : Nat) : Int)) rfl) ?_
 refine q trivial rfl rfl (mv (v := I ((l.count c : Nat) : Int)) rfl) ?_
 refine q trivial rfl rfl (lss (k := .i64) (a := ((k : Nat) : Int)) (b := ((l.count c : Nat) : Int)) rfl rfl) ?_
 refine nl ?_
 refine nN ?_
 refine cdd (p := ((k : Nat) : Int) < ((l.count c : Nat) : Int)) rfl (fun h4 => ?_) (fun h4 => ?_)
 · refine sk ?_
   refine nN ?_
   refine bl ?_
   refine sq ?_
   refine rg ?_
   refine q trivial rfl rfl (mv (v := Str s) rfl) ?_
   refine q trivial rfl rfl (mv (v := Str [c]) rfl) ?_
   refine cl trivial rfl (stIndex (l := s) (c := c) (w := _)) ?_
   rintro _ w4 ⟨rfl, hs4'⟩
   have hs4 : SH w w4 [] [.own Ag9 ((splitB c l).length) cg9 9 1 (((splitB c l).take k ++ List.replicate ((splitB c l).length - k) ([] : List UInt8)).map Str)] := hs3.call0 hs4'
   clear hs4'
   refine q trivial rfl rfl (asg (v := I (idxB s c)) rfl) ?_
   refine nl ?_
   refine nN ?_
   refine sq ?_
   refine sq ?_
   refine rg ?_
   refine q trivial rfl rfl (mv (v := I (idxB s c)) rfl) ?_
   refine q trivial rfl rfl (lss (k := .i64) (a := idxB s c) (b := 0) rfl rfl) ?_
   refine nl ?_
   refine nN ?_
   refine cdd (p := (idxB s c) < 0) rfl (fun h5 => ?_) (fun h5 => ?_)
   · refine ex (tE (bX rfl (tE (bE ?_))))
     refine nN ?_
     refine sq ?_
     refine rg ?_
     refine q trivial rfl rfl (mv (v := .slice Ag9 ((splitB c l).length) cg9) rfl) ?_
     refine q trivial rfl rfl (mv (v := I ((k : Nat) : Int)) rfl) ?_
     refine q trivial rfl rfl (mv (v := Str s) rfl) ?_
     obtain ⟨b2, rfl⟩ := own_form hs4 0 rfl (by first | (first | omega | (simp; done) | (simp; omega)) | (have hsl := splitB_len c l; have hcl := List.count_le_length (a := c) (l := l); first | omega | (simp; done) | (simp; omega)))
     refine q trivial rfl rfl (ixo k sl88 rfl rfl (by first | (first | omega | (simp; done) | (simp; omega)) | (have hsl := splitB_len c l; have hcl := List.count_le_length (a := c) (l := l); first | omega | (simp; done) | (simp; omega)))) ?_
     refine stomn (g := Str) (ys := (splitB c l).take k ++ List.replicate ((splitB c l).length - k) ([] : List UInt8)) (o := k) (u := s) hs4 0 rfl rfl rfl rfl (by first | (first | omega | (simp; done) | (simp; omega)) | (have hsl := splitB_len c l; have hcl := List.count_le_length (a := c) (l := l); first | omega | (simp; done) | (simp; omega))) rfl one9 trivial (fun w5 (hs5 : SH w w5 [] [.own (some ⟨b2, 0, none⟩) ((splitB c l).length) cg9 9 1 ((((splitB c l).take k ++ List.replicate ((splitB c l).length - k) ([] : List UInt8)).set k s).map Str)]) => ?_)
     refine nl ?_
     refine nN ?_
     refine sq ?_
     refine rg ?_
     refine q trivial rfl rfl (mv (v := sb b2 ((splitB c l).length) cg9) rfl) ?_
     refine q trivial rfl rfl (mv (v := I ((k : Nat) : Int)) rfl) ?_
     refine q trivial rfl rfl (add (a := ((k : Nat) : Int)) (b := 1) rfl rfl (by first | (exact ⟨by omega, by omega⟩) | (have hsl := splitB_len c l; have hcl := List.count_le_length (a := c) (l := l); exact ⟨by omega, by omega⟩) | (have hsl := splitB_len c l; have hcl := List.count_le_length (a := c) (l := l); have hib := idxB_lt s c; (try have e1 : [c].length = 1 := rfl); exact ⟨by omega, by omega⟩))) ?_
     have e3 : ((((splitB c l).take k ++ List.replicate ((splitB c l).length - k) ([] : List UInt8)).set k s).map Str).take ((k + 1) * 1) = ((((splitB c l).take k ++ List.replicate ((splitB c l).length - k) ([] : List UInt8)).set k s).take (k + 1)).map Str := by first | rfl | simp [List.map_take]
     have hs6 : SH w w5 [] [.own (some ⟨b2, 0, none⟩) (k + 1) cg9 9 1 (((((splitB c l).take k ++ List.replicate ((splitB c l).length - k) ([] : List UInt8)).set k s).take (k + 1)).map Str)] := e3 ▸ SH.trunc hs5 0 (k + 1) rfl (by first | (first | omega | (simp; omega)) | (have hsl := splitB_len c l; have hcl := List.count_le_length (a := c) (l := l); first | omega | (simp; omega)) | (have hsl := splitB_len c l; have hcl := List.count_le_length (a := c) (l := l); have hib := idxB_lt s c; (try have e1 : [c].length = 1 := rfl); first | omega | (simp; omega)))
     refine q trivial rfl rfl (cuh (k + 1) sl88 rfl rfl (Nat.le_trans (by first | (first | omega | (simp; omega)) | (have hsl := splitB_len c l; have hcl := List.count_le_length (a := c) (l := l); first | omega | (simp; omega)) | (have hsl := splitB_len c l; have hcl := List.count_le_length (a := c) (l := l); have hib := idxB_lt s c; (try have e1 : [c].length = 1 := rfl); first | omega | (simp; omega))) (own_cap hs5 0 rfl).1)) ?_
     refine q trivial rfl rfl (asg (v := sb b2 (k + 1) cg9) rfl) ?_
     refine nl ?_
     refine nN ?_
     refine rt ?_
     refine fret (v := sb b2 (k + 1) cg9) (.tmp .nil) rfl ?_
     have e4 : (((splitB c l).take k ++ List.replicate ((splitB c l).length - k) ([] : List UInt8)).set k s).take (k + 1) = splitB c l := by exact split_end (split_stop hs_ (by omega))
     have e5 : k + 1 = (splitB c l).length := by exact (show k + 1 = ((((splitB c l).take k ++ List.replicate ((splitB c l).length - k) ([] : List UInt8)).set k s).take (k + 1)).length by first | (first | rfl | (simp; done) | (simp; omega) | omega) | (have hsl := splitB_len c l; have hcl := List.count_le_length (a := c) (l := l); first | rfl | (simp; done) | (simp; omega) | omega)).trans (congrArg List.length e4)
     exact ⟨(some ⟨b2, 0, none⟩), cg9, (slv rfl e5 rfl), (hs6.cast (lc (own_eq (g := Str) rfl e5 rfl e4) rfl))⟩
   · refine sk ?_
     refine nN ?_
     refine sq ?_
     refine rg ?_
     refine q trivial rfl rfl (mv (v := .slice Ag9 ((splitB c l).length) cg9) rfl) ?_
     refine q trivial rfl rfl (mv (v := I ((k : Nat) : Int)) rfl) ?_
     refine q trivial rfl rfl (mv (v := Str s) rfl) ?_
     refine q trivial rfl rfl (mv (v := I (idxB s c)) rfl) ?_
     refine q trivial rfl rfl (mv (v := I 0) rfl) ?_
     refine q trivial rfl rfl (add (a := idxB s c) (b := 0) rfl rfl (by first | (exact ⟨by omega, by omega⟩) | (have hsl := splitB_len c l; have hcl := List.count_le_length (a := c) (l := l); exact ⟨by omega, by omega⟩) | (have hsl := splitB_len c l; have hcl := List.count_le_length (a := c) (l := l); have hib := idxB_lt s c; (try have e1 : [c].length = 1 := rfl); exact ⟨by omega, by omega⟩))) ?_
     refine q trivial rfl rfl (cuhs (l := s) (((idxB s c) + 0).toNat) st9 rfl (ieq (x := (idxB s c) + 0) (by first | (omega) | (have hsl := splitB_len c l; have hcl := List.count_le_length (a := c) (l := l); omega) | (have hsl := splitB_len c l; have hcl := List.count_le_length (a := c) (l := l); have hib := idxB_lt s c; (try have e1 : [c].length = 1 := rfl); omega))) (by first | (first | omega | (simp; omega)) | (have hsl := splitB_len c l; have hcl := List.count_le_length (a := c) (l := l); first | omega | (simp; omega)) | (have hsl := splitB_len c l; have hcl := List.count_le_length (a := c) (l := l); have hib := idxB_lt s c; (try have e1 : [c].length = 1 := rfl); first | omega | (simp; omega)))) ?_
     obtain ⟨b3, rfl⟩ := own_form hs4 0 rfl (by first | (first | omega | (simp; done) | (simp; omega)) | (have hsl := splitB_len c l; have hcl := List.count_le_length (a := c) (l := l); first | omega | (simp; done) | (simp; omega)))
     refine q trivial rfl rfl (ixo k sl88 rfl rfl (by first | (first | omega | (simp; done) | (simp; omega)) | (have hsl := splitB_len c l; have hcl := List.count_le_length (a := c) (l := l); first | omega | (simp; done) | (simp; omega)))) ?_
     refine stomn (g := Str) (ys := (splitB c l).take k ++ List.replicate ((splitB c l).length - k) ([] : List UInt8)) (o := k) (u := s.take (((idxB s c) + 0).toNat)) hs4 0 rfl rfl rfl rfl (by first | (first | omega | (simp; done) | (simp; omega)) | (have hsl := splitB_len c l; have hcl := List.count_le_length (a := c) (l := l); first | omega | (simp; done) | (simp; omega))) rfl one9 trivial (fun w6 (hs7 : SH w w6 [] [.own (some ⟨b3, 0, none⟩) ((splitB c l).length) cg9 9 1 ((((splitB c l).take k ++ List.replicate ((splitB c l).length - k) ([] : List UInt8)).set k (s.take (((idxB s c) + 0).toNat))).map Str)]) => ?_)
     refine nl ?_
     refine nN ?_
     refine sq ?_
     refine rg ?_
     refine q trivial rfl rfl (mv (v := Str s) rfl) ?_
     refine q trivial rfl rfl (mv (v := I (idxB s c)) rfl) ?_
     refine q trivial rfl rfl (mv (v := Str [c]) rfl) ?_
     refine q trivial rfl rfl (lnS (l := [c]) st9 rfl) ?_
     refine q trivial rfl rfl (add (a := idxB s c) (b := (([c].length : Nat) : Int)) rfl rfl (by first | (exact ⟨by omega, by omega⟩) | (have hsl := splitB_len c l; have hcl := List.count_le_length (a := c) (l := l); exact ⟨by omega, by omega⟩) | (have hsl := splitB_len c l; have hcl := List.count_le_length (a := c) (l := l); have hib := idxB_lt s c; (try have e1 : [c].length = 1 := rfl); exact ⟨by omega, by omega⟩))) ?_
     refine q trivial rfl rfl (culs (l := s) (((idxB s c) + (([c].length : Nat) : Int)).toNat) st9 rfl (ieq (x := (idxB s c) + (([c].length : Nat) : Int)) (by first | (omega) | (have hsl := splitB_len c l; have hcl := List.count_le_length (a := c) (l := l); omega) | (have hsl := splitB_len c l; have hcl := List.count_le_length (a := c) (l := l); have hib := idxB_lt s c; (try have e1 : [c].length = 1 := rfl); omega))) (by first | (first | omega | (simp; omega)) | (have hsl := splitB_len c l; have hcl := List.count_le_length (a := c) (l := l); first | omega | (simp; omega)) | (have hsl := splitB_len c l; have hcl := List.count_le_length (a := c) (l := l); have hib := idxB_lt s c; (try have e1 : [c].length = 1 := rfl); first | omega | (simp; omega)))) ?_
     refine q trivial rfl rfl (asg (v := Str (s.drop (((idxB s c) + (([c].length : Nat) : Int)).toNat))) rfl) ?_
     refine nl ?_
     refine nN ?_
     refine rg ?_
     refine q trivial rfl rfl (mv (v := I ((k : Nat) : Int)) rfl) ?_
     refine q trivial rfl rfl (add (a := ((k : Nat) : Int)) (b := 1) rfl rfl (by first | (exact ⟨by omega, by omega⟩) | (have hsl := splitB_len c l; have hcl := List.count_le_length (a := c) (l := l); exact ⟨by omega, by omega⟩) | (have hsl := splitB_len c l; have hcl := List.count_le_length (a := c) (l := l); have hib := idxB_lt s c; (try have e1 : [c].length = 1 := rfl); exact ⟨by omega, by omega⟩))) ?_
     refine q trivial rfl rfl (asg (v := I (((k : Nat) : Int) + 1)) rfl) ?_
     refine nl ?_
     refine bN ?_
     refine nN ?_
     have e6 : ((splitB c l).take k ++ List.replicate ((splitB c l).length - k) ([] : List UInt8)).set k (s.take (((idxB s c) + 0).toNat)) = (splitB c l).take (k + 1) ++ List.replicate ((splitB c l).length - (k + 1)) ([] : List UInt8) := by exact split_set (split_take hs_ (by omega) (by omega))
     refine ⟨((some ⟨b3, 0, none⟩), cg9, k + 1, (s.drop (((idxB s c) + (([c].length : Nat) : Int)).toNat))), ⟨⟨rfl, rfl, rfl, rfl, rfl, rfl, trivial⟩, (by have h_ := splitB_len c l; omega), (split_next hs_ (by omega) (by simp; omega)), (by simp; omega), (hs7.cast (lc (own_eq (g := Str) rfl rfl rfl e6) rfl))⟩, ?_⟩
     show l.length + 1 - (k + 1) < l.length + 1 - k
     (have hcl := List.count_le_length (a := c) (l := l); omega)
 · refine ex (tE (tE (bE ?_)))
   refine nN ?_
   refine sq ?_
   refine rg ?_
   refine q trivial rfl rfl (mv (v := .slice Ag9 ((splitB c l).length) cg9) rfl) ?_
   refine q trivial rfl rfl (mv (v := I ((k : Nat) : Int)) rfl) ?_
   refine q trivial rfl rfl (mv (v := Str s) rfl) ?_
   obtain ⟨b4, rfl⟩ := own_form hs3 0 rfl (by first | (first | omega | (simp; done) | (simp; omega)) | (have hsl := splitB_len c l; have hcl := List.count_le_length (a := c) (l := l); first | omega | (simp; done) | (simp; omega)))
   refine q trivial rfl rfl (ixo k sl88 rfl rfl (by first | (first | omega | (simp; done) | (simp; omega)) | (have hsl := splitB_len c l; have hcl := List.count_le_length (a := c) (l := l); first | omega | (simp; done) | (simp; omega)))) ?_
   refine stomn (g := Str) (ys := (splitB c l).take k ++ List.replicate ((splitB c l).length - k) ([] : List UInt8)) (o := k) (u := s) hs3 0 rfl rfl rfl rfl (by first | (first | omega | (simp; done) | (simp; omega)) | (have hsl := splitB_len c l; have hcl := List.count_le_length (a := c) (l := l); first | omega | (simp; done) | (simp; omega))) rfl one9 trivial (fun w7 (hs8 : SH w w7 [] [.own (some ⟨b4, 0, none⟩) ((splitB c l).length) cg9 9 1 ((((splitB c l).take k ++ List.replicate ((splitB c l).length - k) ([] : List UInt8)).set k s).map Str)]) => ?_)
   refine nl ?_
   refine nN ?_
   refine sq ?_
   refine rg ?_
   refine q trivial rfl rfl (mv (v := sb b4 ((splitB c l).length) cg9) rfl) ?_
   refine q trivial rfl rfl (mv (v := I ((k : Nat) : Int)) rfl) ?_
   refine q trivial rfl rfl (add (a := ((k : Nat) : Int)) (b := 1) rfl rfl (by first | (exact ⟨by omega, by omega⟩) | (have hsl := splitB_len c l; have hcl := List.count_le_length (a := c) (l := l); exact ⟨by omega, by omega⟩) | (have hsl := splitB_len c l; have hcl := List.count_le_length (a := c) (l := l); have hib := idxB_lt s c; (try have e1 : [c].length = 1 := rfl); exact ⟨by omega, by omega⟩))) ?_
   have e7 : ((((splitB c l).take k ++ List.replicate ((splitB c l).length - k) ([] : List UInt8)).set k s).map Str).take ((k + 1) * 1) = ((((splitB c l).take k ++ List.replicate ((splitB c l).length - k) ([] : List UInt8)).set k s).take (k + 1)).map Str := by first | rfl | simp [List.map_take]
   have hs9 : SH w w7 [] [.own (some ⟨b4, 0, none⟩) (k + 1) cg9 9 1 (((((splitB c l).take k ++ List.replicate ((splitB c l).length - k) ([] : List UInt8)).set k s).take (k + 1)).map Str)] := e7 ▸ SH.trunc hs8 0 (k + 1) rfl (by first | (first | omega | (simp; omega)) | (have hsl := splitB_len c l; have hcl := List.count_le_length (a := c) (l := l); first | omega | (simp; omega)) | (have hsl := splitB_len c l; have hcl := List.count_le_length (a := c) (l := l); have hib := idxB_lt s c; (try have e1 : [c].length = 1 := rfl); first | omega | (simp; omega)))
   refine q trivial rfl rfl (cuh (k + 1) sl88 rfl rfl (Nat.le_trans (by first | (first | omega | (simp; omega)) | (have hsl := splitB_len c l; have hcl := List.count_le_length (a := c) (l := l); first | omega | (simp; omega)) | (have hsl := splitB_len c l; have hcl := List.count_le_length (a := c) (l := l); have hib := idxB_lt s c; (try have e1 : [c].length = 1 := rfl); first | omega | (simp; omega))) (own_cap hs8 0 rfl).1)) ?_
   refine q trivial rfl rfl (asg (v := sb b4 (k + 1) cg9) rfl) ?_
   refine nl ?_
   refine nN ?_
   refine rt ?_
   refine fret (v := sb b4 (k + 1) cg9) (.tmp .nil) rfl ?_
   have e8 : (((splitB c l).take k ++ List.replicate ((splitB c l).length - k) ([] : List UInt8)).set k s).take (k + 1) = splitB c l := by exact split_end (split_last hs_ hk (by omega))
   have e9 : k + 1 = (splitB c l).length := by exact (show k + 1 = ((((splitB c l).take k ++ List.replicate ((splitB c l).length - k) ([] : List UInt8)).set k s).take (k + 1)).length by first | (first | rfl | (simp; done) | (simp; omega) | omega) | (have hsl := splitB_len c l; have hcl := List.count_le_length (a := c) (l := l); first | rfl | (simp; done) | (simp; omega) | omega)).trans (congrArg List.length e8)
   exact ⟨(some ⟨b4, 0, none⟩), cg9, (slv rfl e9 rfl), (hs9.cast (lc (own_eq (g := Str) rfl e9 rfl e8) rfl))⟩

theorem stSplit (l : List UInt8) (c : UInt8) (w : World) (hl_n : l.length ≤ 1099511627776) : Does Tryd.prog 71 [Str l, Str [c]] w (fun v w' => ∃ Ar : Option Addr, ∃ cr : Nat, v = .slice Ar (splitB c l).length cr ∧ SH w w' [] [.own Ar ((splitB c l).length) cr 9 1 ((splitB c l).map Str)]) := by
 refine fn_enter (N := 8) Tryd.func71 rfl (by kernel_rfl) rfl rfl rfl ?_
 have hs0 : SH w w [] [] := SH.refl w []
 refine sq ?_
 refine rg ?_
 refine q trivial rfl rfl (asg (v := ns) rfl) ?_
 refine nl ?_
 refine nN ?_
 refine sq ?_
 refine rg ?_
 refine q trivial rfl rfl (mv (v := Str l) rfl) ?_
 refine q trivial rfl rfl (mv (v := Str [c]) rfl) ?_
 refine cl trivial rfl (genSplit (l := l) (c := c) (w := _) (hl_n := (by first | omega | (simp; done) | (simp; omega)))) ?_
 rintro _ w1 ⟨A1, c1, rfl, hs1'⟩
 have hs1 : SH w w1 [] [.own A1 ((splitB c l).length) c1 9 1 ((splitB c l).map Str)] := hs0.call0 hs1'
 clear hs1'
 refine q trivial rfl rfl (asg (v := .slice A1 ((splitB c l).length) c1) rfl) ?_
 refine nl ?_
 refine nN ?_
 refine rt ?_
 refine fret (v := .slice A1 ((splitB c l).length) c1) (.tmp .nil) rfl ?_
 exact ⟨A1, c1, rfl, hs1⟩

theorem l2Cut (l : List UInt8) (c : UInt8) (w : World) (hl_n : l.length ≤ 1099511627776) : Does Tryd.prog 75 [Str l, .int .u8 ((c.toNat : Nat) : Int)] w (fun v w' => ∃ Ar : Option Addr, ∃ cr : Nat, v = .slice Ar (splitB c l).length cr ∧ SH w w' [] [.own Ar ((splitB c l).length) cr 9 1 ((splitB c l).map Str)]) := by
 refine fn_enter (N := 35) Tryd.func75 rfl (by kernel_rfl) rfl rfl rfl ?_
 have hs0 : SH w w [] [] := SH.refl w []
 refine sq ?_
 refine rg ?_
 refine q trivial rfl rfl (asg (v := ns) rfl) ?_
 refine nl ?_
 refine nN ?_
 refine sq ?_
 refine rg ?_
 refine bsk hs0 sl88 [] [] trivial rfl (fun b1 w1 (hs1 : SH w w1 [] [.own (some ⟨b1, 0, none⟩) (([] : List (List UInt8)).length) 0 9 1 (([] : List (List UInt8)).map Str)]) => ?_)
 refine q trivial rfl rfl (asg (v := sb b1 (([] : List (List UInt8)).length) 0) rfl) ?_
 refine nl ?_
 refine nN ?_
 refine sq ?_
 refine rg ?_
 refine q trivial rfl rfl (asg (v := I 0) rfl) ?_
 refine nl ?_
 refine nN ?_
 refine sq ?_
 refine sq ?_
 refine rg ?_
 refine q trivial rfl rfl (asg (v := I 0) rfl) ?_
 refine nl ?_
 refine nN ?_
 refine bl ?_
 refine lp (σ := (Option Addr) × Nat × Nat × Nat × (List (List UInt8))) (fun ⟨Ag5, cg5, i, a, zs⟩ f w' => Has f [(0, Str l), (1, .int .u8 ((c.toNat : Nat) : Int)), (5, .slice Ag5 zs.length cg5), (6, I ((a : Nat) : Int)), (7, I ((i : Nat) : Int))] ∧ (i ≤ l.length) ∧ (a ≤ i) ∧ (zs ++ splitB c (l.drop a) = splitB c l) ∧ (∀ j, a ≤ j → j < i → l.getD j 0 ≠ c) ∧ SH w w' [] [.own Ag5 zs.length cg5 9 1 (zs.map Str)]) (fun ⟨Ag5, cg5, i, a, zs⟩ => l.length - i) ((some ⟨b1, 0, none⟩), 0, 0, 0, ([] : List (List UInt8))) ⟨⟨rfl, rfl, rfl, rfl, rfl, trivial⟩, (by omega), (by omega), (by simp), (by intro j _ hj; omega), hs1⟩ ?_
 rintro ⟨Ag5, cg5, i, a, zs⟩ f w2 ⟨hf, hi, ha, hz, hn, hs2⟩
 obtain ⟨g1, rfl⟩ := has_upd hf
 clear hf
 refine sq ?_
 refine sq ?_
 refine rg ?_
 refine q trivial rfl rfl (mv (v := I ((i : Nat) : Int)) rfl) ?_
 refine q trivial rfl rfl (mv (v := Str l) rfl) ?_
 refine q trivial rfl rfl (lnS (l := l) st9 rfl) ?_
 refine q trivial rfl rfl (lss (k := .i64) (a := ((i : Nat) : Int)) (b := ((l.length : Nat) : Int)) rfl rfl) ?_
 refine nl ?_
 refine nN ?_
 refine cdd (p := ((i : Nat) : Int) < ((l.length : Nat) : Int)) rfl (fun h1 => ?_) (fun h1 => ?_)
 · refine sk ?_
   refine nN ?_
   refine sq ?_
   refine bl ?_
   refine sq ?_
   refine rg ?_
   refine q trivial rfl rfl (mv (v := Str l) rfl) ?_
   refine q trivial rfl rfl (mv (v := I ((i : Nat) : Int)) rfl) ?_
   refine q trivial rfl rfl (ixs (l := l) i st9 rfl rfl (by first | (first | omega | (simp; done) | (simp; omega)) | (have hzl := cut_len hz; first | omega | (simp; done) | (simp; omega)))) ?_
   refine q trivial rfl rfl (mv (v := .int .u8 ((c.toNat : Nat) : Int)) rfl) ?_
   refine q trivial rfl rfl (eqi (k := .u8) (a := (((l.getD i 0).toNat : Nat) : Int)) (b := ((c.toNat : Nat) : Int)) rfl rfl) ?_
   refine nl ?_
   refine nN ?_
   refine cdd (p := (((l.getD i 0).toNat : Nat) : Int) = ((c.toNat : Nat) : Int)) rfl (fun h2 => ?_) (fun h2 => ?_)
   · refine sq ?_
     refine rg ?_
     refine q trivial rfl rfl (mv (v := .slice Ag5 zs.length cg5) rfl) ?_
     refine q trivial rfl rfl (mv (v := Str l) rfl) ?_
     refine q trivial rfl rfl (mv (v := I ((a : Nat) : Int)) rfl) ?_
     refine q trivial rfl rfl (mv (v := I ((i : Nat) : Int)) rfl) ?_
     refine q trivial rfl rfl (cus (l := l) a i st9 rfl rfl rfl (by first | (first | omega | (simp; done) | (simp; omega)) | (have hzl := cut_len hz; first | omega | (simp; done) | (simp; omega))) (by first | (first | omega | (simp; done) | (simp; omega)) | (have hzl := cut_len hz; first | omega | (simp; done) | (simp; omega)))) ?_
     refine bsk hs2 sl88 [Str ((l.take i).drop a)] [Str ((l.take i).drop a)] trivial rfl (fun b2 w3 (hs3 : SH w w3 [] [.own Ag5 zs.length cg5 9 1 (zs.map Str), .own (some ⟨b2, 0, none⟩) (([(l.take i).drop a] : List (List UInt8)).length) 1 9 1 (([(l.take i).drop a] : List (List UInt8)).map Str)]) => ?_)
     refine apm (g := Str) (ys := zs) (zs := ([(l.take i).drop a] : List (List UInt8))) hs3 0 rfl sl88 rfl rfl rfl (hs3.sl0 1 rfl) (fun _ => rfl) (by unfold maxLen; first | (first | omega | (simp; done) | (simp; omega)) | (have hzl := cut_len hz; first | omega | (simp; done) | (simp; omega))) (by first | (first | omega | (simp; done) | (simp; omega)) | (have hzl := cut_len hz; first | omega | (simp; done) | (simp; omega))) trivial rfl (fun A1 c1 w4 (hs4 : SH w w4 [] [.own (some ⟨b2, 0, none⟩) (([(l.take i).drop a] : List (List UInt8)).length) 1 9 1 (([(l.take i).drop a] : List (List UInt8)).map Str), .own A1 ((zs ++ ([(l.take i).drop a] : List (List UInt8))).length) c1 9 1 ((zs ++ ([(l.take i).drop a] : List (List UInt8))).map Str)]) => ?_)
     refine q trivial rfl rfl (asg (v := .slice A1 ((zs ++ ([(l.take i).drop a] : List (List UInt8))).length) c1) rfl) ?_
     refine nl ?_
     refine nN ?_
     refine rg ?_
     refine q trivial rfl rfl (mv (v := I ((i : Nat) : Int)) rfl) ?_
     refine q trivial rfl rfl (add (a := ((i : Nat) : Int)) (b := 1) rfl rfl (by first | (exact ⟨by omega, by omega⟩) | (have hzl := cut_len hz; exact ⟨by omega, by omega⟩))) ?_
     refine q trivial rfl rfl (asg (v := I (((i : Nat) : Int) + 1)) rfl) ?_
     refine nl ?_
     refine bN ?_
     refine nN ?_
     refine rg ?_
     refine q trivial rfl rfl (mv (v := I ((i : Nat) : Int)) rfl) ?_
     refine q trivial rfl rfl (add (a := ((i : Nat) : Int)) (b := 1) rfl rfl (by first | (exact ⟨by omega, by omega⟩) | (have hzl := cut_len hz; exact ⟨by omega, by omega⟩))) ?_
     refine q trivial rfl rfl (asg (v := I (((i : Nat) : Int) + 1)) rfl) ?_
     refine nl ?_
     refine nN ?_
     refine ⟨(A1, c1, i + 1, i + 1, (zs ++ ([(l.take i).drop a] : List (List UInt8)))), ⟨⟨rfl, rfl, rfl, rfl, rfl, trivial⟩, (by omega), (by omega), (cut_step hz ha (by omega) hn (u8_eq (by omega))), (by intro j h_ hj; omega), (hs4.pick [1] rfl (by decide))⟩, ?_⟩
     show l.length - (i + 1) < l.length - i
     omega
   · refine sk ?_
     refine bN ?_
     refine nN ?_
     refine rg ?_
     refine q trivial rfl rfl (mv (v := I ((i : Nat) : Int)) rfl) ?_
     refine q trivial rfl rfl (add (a := ((i : Nat) : Int)) (b := 1) rfl rfl (by first | (exact ⟨by omega, by omega⟩) | (have hzl := cut_len hz; exact ⟨by omega, by omega⟩))) ?_
     refine q trivial rfl rfl (asg (v := I (((i : Nat) : Int) + 1)) rfl) ?_
     refine nl ?_
     refine nN ?_
     refine ⟨(Ag5, cg5, i + 1, a, zs), ⟨⟨rfl, rfl, rfl, rfl, rfl, trivial⟩, (by omega), (by omega), (hz), (by intro j h_ hj; rcases Nat.lt_succ_iff_lt_or_eq.1 hj with h | h; exact hn j h_ h; subst h; intro he; exact absurd (congrArg (fun z => ((UInt8.toNat z : Nat) : Int)) he) (by assumption)), hs2⟩, ?_⟩
     show l.length - (i + 1) < l.length - i
     omega
 · refine ex (tE (tE (bE ?_)))
   refine nN ?_
   refine sq ?_
   refine rg ?_
   refine q trivial rfl rfl (mv (v := .slice Ag5 zs.length cg5) rfl) ?_
   refine q trivial rfl rfl (mv (v := Str l) rfl) ?_
   refine q trivial rfl rfl (mv (v := I ((a : Nat) : Int)) rfl) ?_
   refine q trivial rfl rfl (culs (l := l) a st9 rfl rfl (by first | (first | omega | (simp; done) | (simp; omega)) | (have hzl := cut_len hz; first | omega | (simp; done) | (simp; omega)))) ?_
   refine bsk hs2 sl88 [Str (l.drop a)] [Str (l.drop a)] trivial rfl (fun b3 w5 (hs5 : SH w w5 [] [.own Ag5 zs.length cg5 9 1 (zs.map Str), .own (some ⟨b3, 0, none⟩) (([l.drop a] : List (List UInt8)).length) 1 9 1 (([l.drop a] : List (List UInt8)).map Str)]) => ?_)
   refine apm (g := Str) (ys := zs) (zs := ([l.drop a] : List (List UInt8))) hs5 0 rfl sl88 rfl rfl rfl (hs5.sl0 1 rfl) (fun _ => rfl) (by unfold maxLen; first | (first | omega | (simp; done) | (simp; omega)) | (have hzl := cut_len hz; first | omega | (simp; done) | (simp; omega))) (by first | (first | omega | (simp; done) | (simp; omega)) | (have hzl := cut_len hz; first | omega | (simp; done) | (simp; omega))) trivial rfl (fun A2 c2 w6 (hs6 : SH w w6 [] [.own (some ⟨b3, 0, none⟩) (([l.drop a] : List (List UInt8)).length) 1 9 1 (([l.drop a] : List (List UInt8)).map Str), .own A2 ((zs ++ ([l.drop a] : List (List UInt8))).length) c2 9 1 ((zs ++ ([l.drop a] : List (List UInt8))).map Str)]) => ?_)
   refine q trivial rfl rfl (asg (v := .slice A2 ((zs ++ ([l.drop a] : List (List UInt8))).length) c2) rfl) ?_
   refine nl ?_
   refine nN ?_
   refine rt ?_
   refine fret (v := .slice A2 ((zs ++ ([l.drop a] : List (List UInt8))).length) c2) (.tmp .nil) rfl ?_
   have e1 : zs ++ ([l.drop a] : List (List UInt8)) = splitB c l := by exact cut_end hz (by omega) hn
   have e2 : (zs ++ ([l.drop a] : List (List UInt8))).length = (splitB c l).length := by exact congrArg List.length e1
   exact ⟨A2, c2, (slv rfl e2 rfl), ((hs6.pick [1] rfl (by decide)).cast (lc (own_eq (g := Str) rfl e2 rfl e1) rfl))⟩

theorem iNameValid (l : List UInt8) (w : World) (hl_n : l.length ≤ 1099511627776) : Does Tryd.prog 56 [Str l] w (fun v w' => v = .bool (nameOk l) ∧ SH w w' [] []) := by
 refine fn_enter (N := 35) Tryd.func56 rfl (by kernel_rfl) rfl rfl rfl ?_
 have hs0 : SH w w [] [] := SH.refl w []
 refine sq ?_
 refine rg ?_
 refine q trivial rfl rfl (asg (v := .bool false) rfl) ?_
 refine nl ?_
 refine nN ?_
 refine sq ?_
 refine rg ?_
 refine q trivial rfl rfl (mv (v := Str l) rfl) ?_
 refine cl trivial rfl (stSplit (l := l) (c := 46) (w := _) (hl_n := (by first | (first | omega | (simp; done) | (simp; omega)) | (have hsb := splitB_getD 46 l k; have hsl := splitB_len 46 l; have hcl := List.count_le_length (a := (46 : UInt8)) (l := l); first | omega | (simp; done) | (simp; omega))))) ?_
 rintro _ w1 ⟨A1, c1, rfl, hs1'⟩
 have hs1 : SH w w1 [] [.own A1 ((splitB 46 l).length) c1 9 1 ((splitB 46 l).map Str)] := hs0.call0 hs1'
 clear hs1'
 refine q trivial rfl rfl (asg (v := .slice A1 ((splitB 46 l).length) c1) rfl) ?_
 refine nl ?_
 refine nN ?_
 refine sq ?_
 refine sq ?_
 refine rg ?_
 refine q trivial rfl rfl (mv (v := .slice A1 ((splitB 46 l).length) c1) rfl) ?_
 refine q trivial rfl rfl (lnA (n := (splitB 46 l).length) sl88 rfl) ?_
 refine q trivial rfl rfl (mv (v := I 0) rfl) ?_
 refine nl ?_
 refine nN ?_
 refine bl ?_
 refine lp (σ := Nat) (fun (k : Nat) f w' => Has f [(0, Str l), (3, .slice A1 ((splitB 46 l).length) c1), (8, .slice A1 ((splitB 46 l).length) c1), (9, I (((splitB 46 l).length : Nat) : Int)), (10, I ((k : Nat) : Int))] ∧ (k ≤ (splitB 46 l).length) ∧ (((splitB 46 l).take k).all partOk = true) ∧ SH w w' [] [.own A1 ((splitB 46 l).length) c1 9 1 ((splitB 46 l).map Str)]) (fun k => (splitB 46 l).length - k) 0 ⟨⟨rfl, rfl, rfl, rfl, rfl, trivial⟩, (by simp), (by simp), hs1⟩ ?_
 rintro k f w2 ⟨hf, hk, ha, hs2⟩
 obtain ⟨g1, rfl⟩ := has_upd hf
 clear hf
 refine sq ?_
 refine rg ?_
 refine q trivial rfl rfl (lss (k := .i64) (a := ((k : Nat) : Int)) (b := (((splitB 46 l).length : Nat) : Int)) rfl rfl) ?_
 refine nl ?_
 refine nN ?_
 refine sq ?_
 refine cdd (p := ((k : Nat) : Int) < (((splitB 46 l).length : Nat) : Int)) rfl (fun h1 => ?_) (fun h1 => ?_)
 · refine sk ?_
   refine nN ?_
   refine sq ?_
   refine bl ?_
   refine sq ?_
   refine rg ?_
   refine ixw1 k sl88 rfl rfl (hs2.sl0 0 rfl) (by first | (first | omega | (simp; done) | (simp; omega)) | (have hsb := splitB_getD 46 l k; have hsl := splitB_len 46 l; have hcl := List.count_le_length (a := (46 : UInt8)) (l := l); first | omega | (simp; done) | (simp; omega))) (getm Str [] (by first | (first | omega | (simp; done) | (simp; omega)) | (have hsb := splitB_getD 46 l k; have hsl := splitB_len 46 l; have hcl := List.count_le_length (a := (46 : UInt8)) (l := l); first | omega | (simp; done) | (simp; omega)))) trivial rfl (fun a1 ha1 => ?_)
   refine q trivial rfl rfl (lda (v := Str ((splitB 46 l).getD k [])) (SH.refl w2 []) ha1 (fun _ h => h) rfl rfl one9) ?_
   refine q trivial rfl rfl (asg (v := Str ((splitB 46 l).getD k [])) rfl) ?_
   refine nl ?_
   refine nN ?_
   refine sq ?_
   refine rg ?_
   refine q trivial rfl rfl (mv (v := Str ((splitB 46 l).getD k [])) rfl) ?_
   refine q trivial rfl rfl (eqs (l := (splitB 46 l).getD k []) (m := []) rfl rfl) ?_
   refine q trivial rfl rfl (mv (v := .bool (decide ((splitB 46 l).getD k [] = []))) rfl) ?_
   refine spd (p := (splitB 46 l).getD k [] = []) 16 rfl (fun h2 => ?_) (fun h2 => ?_)
   · refine gk true rfl rfl rfl rfl rfl ?_
     refine gk true rfl rfl rfl rfl rfl ?_
     refine gk true rfl rfl rfl rfl rfl ?_
     refine q trivial rfl rfl (pt (v := .bool true) rfl rfl) ?_
     refine nl ?_
     refine nN ?_
     refine cdt rfl ?_
     refine sq ?_
     refine rg ?_
     refine q trivial rfl rfl (asg (v := .bool false) rfl) ?_
     refine nl ?_
     refine nN ?_
     refine rt (bR (tR (tR (bR (tR ?_)))))
     refine fret (v := .bool false) (.tmp .nil) rfl ?_
     have e1 : false = nameOk l := by first | (exact (name_bad (k := k) (by omega) (part_nil (by assumption))).symm) | (exact (name_bad (k := k) (by omega) (part_len0 (by omega))).symm) | (exact (name_bad (k := k) (by omega) (part_bad (by assumption))).symm) | (exact (name_bad (k := k) (by omega) (part_bad1 (j := j) (by omega) (by assumption))).symm) | (exact (name_end2 (by omega) ha (by omega)).symm) | (exact (name_end1 (by omega) ha (by omega)).symm) | exact name_end3 (by omega) ha (by omega) (by assumption) | exact name_end4 (by omega) ha (by omega) (by assumption)
     exact ⟨(congrArg (Value.bool) e1), (hs2.pick [] rfl (by decide))⟩
   · refine q ⟨_, rfl, rfl⟩ rfl rfl (mv (v := Str ((splitB 46 l).getD k [])) rfl) ?_
     refine cl ⟨_, rfl, rfl⟩ rfl (iConsists (l := (splitB 46 l).getD k []) (m := [45]) (w := _) (hl_n := (by first | (first | omega | (simp; done) | (simp; omega)) | (have hsb := splitB_getD 46 l k; have hsl := splitB_len 46 l; have hcl := List.count_le_length (a := (46 : UInt8)) (l := l); first | omega | (simp; done) | (simp; omega))))) ?_
     rintro _ w3 ⟨rfl, hs3'⟩
     have hs3 : SH w w3 [] [.own A1 ((splitB 46 l).length) c1 9 1 ((splitB 46 l).map Str)] := hs2.call0 hs3'
     clear hs3'
     refine q ⟨_, rfl, rfl⟩ rfl rfl (nt (b := ((splitB 46 l).getD k []).all (okC [45])) rfl) ?_
     refine q trivial rfl rfl (pf (v := .bool (!(((splitB 46 l).getD k []).all (okC [45])))) rfl rfl) ?_
     refine nl ?_
     refine nN ?_
     refine cd (b := !(((splitB 46 l).getD k []).all (okC [45]))) rfl (fun h3 => ?_) (fun h3 => ?_)
     · have h4 : (((splitB 46 l).getD k []).all (okC [45])) = false := by simpa using h3
       refine sq ?_
       refine rg ?_
       refine q trivial rfl rfl (asg (v := .bool false) rfl) ?_
       refine nl ?_
       refine nN ?_
       refine rt (bR (tR (tR (bR (tR ?_)))))
       refine fret (v := .bool false) (.tmp .nil) rfl ?_
       have e2 : false = nameOk l := by first | (exact (name_bad (k := k) (by omega) (part_nil (by assumption))).symm) | (exact (name_bad (k := k) (by omega) (part_len0 (by omega))).symm) | (exact (name_bad (k := k) (by omega) (part_bad (by assumption))).symm) | (exact (name_bad (k := k) (by omega) (part_bad1 (j := j) (by omega) (by assumption))).symm) | (exact (name_end2 (by omega) ha (by omega)).symm) | (exact (name_end1 (by omega) ha (by omega)).symm) | exact name_end3 (by omega) ha (by omega) (by assumption) | exact name_end4 (by omega) ha (by omega) (by assumption)
       exact ⟨(congrArg (Value.bool) e2), (hs3.pick [] rfl (by decide))⟩
     · have h5 : (((splitB 46 l).getD k []).all (okC [45])) = true := by simpa using h3
       refine sk ?_
       refine bN ?_
       refine nN ?_
       refine rg ?_
       refine q trivial rfl rfl (add (a := ((k : Nat) : Int)) (b := 1) rfl rfl (by first | (exact ⟨by omega, by omega⟩) | (have hsb := splitB_getD 46 l k; have hsl := splitB_len 46 l; have hcl := List.count_le_length (a := (46 : UInt8)) (l := l); exact ⟨by omega, by omega⟩))) ?_
       refine q trivial rfl rfl (mv (v := I (((k : Nat) : Int) + 1)) rfl) ?_
       refine nl ?_
       refine nN ?_
       refine ⟨(k + 1), ⟨⟨rfl, rfl, rfl, rfl, rfl, trivial⟩, (by omega), (all_step (d := []) (by omega) ha (part_mk (by assumption) (by assumption))), hs3⟩, ?_⟩
       omega
 · refine ex (tE (tE (bE ?_)))
   refine nN ?_
   refine sq ?_
   refine rg ?_
   refine q trivial rfl rfl (mv (v := Str l) rfl) ?_
   refine q trivial rfl rfl (lnS (l := l) st9 rfl) ?_
   refine q trivial rfl rfl (leq (k := .i64) (a := ((l.length : Nat) : Int)) (b := 20) rfl rfl) ?_
   refine q trivial rfl rfl (mv (v := .bool (decide (((l.length : Nat) : Int) ≤ 20))) rfl) ?_
   refine spd (p := ((l.length : Nat) : Int) ≤ 20) 25 rfl (fun h6 => ?_) (fun h6 => ?_)
   · refine q ⟨_, rfl, rfl⟩ rfl rfl (mv (v := .slice A1 ((splitB 46 l).length) c1) rfl) ?_
     refine q ⟨_, rfl, rfl⟩ rfl rfl (mv (v := .slice A1 ((splitB 46 l).length) c1) rfl) ?_
     refine q ⟨_, rfl, rfl⟩ rfl rfl (lnA (n := (splitB 46 l).length) sl88 rfl) ?_
     refine q ⟨_, rfl, rfl⟩ rfl rfl (subN (a := (splitB 46 l).length) (b := 1) rfl rfl (by have hsb := splitB_getD 46 l k; have hsl := splitB_len 46 l; have hcl := List.count_le_length (a := (46 : UInt8)) (l := l); have := splitB_pos 46 l; omega) (by have hsb := splitB_getD 46 l k; have hsl := splitB_len 46 l; have hcl := List.count_le_length (a := (46 : UInt8)) (l := l); have := splitB_pos 46 l; omega)) ?_
     refine ixw1 (((splitB 46 l).length) - 1) sl88 rfl rfl (hs2.sl0 0 rfl) (by first | (first | omega | (simp; done) | (simp; omega)) | (have hsb := splitB_getD 46 l k; have hsl := splitB_len 46 l; have hcl := List.count_le_length (a := (46 : UInt8)) (l := l); first | omega | (simp; done) | (simp; omega))) (getm Str [] (by first | (first | omega | (simp; done) | (simp; omega)) | (have hsb := splitB_getD 46 l k; have hsl := splitB_len 46 l; have hcl := List.count_le_length (a := (46 : UInt8)) (l := l); first | omega | (simp; done) | (simp; omega)))) ⟨_, rfl, rfl⟩ rfl (fun a2 ha2 => ?_)
     refine q ⟨_, rfl, rfl⟩ rfl rfl (lda (v := Str ((splitB 46 l).getD (((splitB 46 l).length) - 1) [])) (SH.refl w2 []) ha2 (fun _ h => h) rfl rfl one9) ?_
     refine q ⟨_, rfl, rfl⟩ rfl rfl (ixs (l := (splitB 46 l).getD (((splitB 46 l).length) - 1) []) 0 st9 rfl rfl (by exact name_last (by omega) ha (by have := splitB_pos 46 l; omega))) ?_
     refine cl ⟨_, rfl, rfl⟩ rfl (iLetter (c := (((splitB 46 l).getD (((splitB 46 l).length) - 1) []).getD 0 0)) (w := _)) ?_
     rintro _ w4 ⟨rfl, hs4'⟩
     have hs4 : SH w w4 [] [.own A1 ((splitB 46 l).length) c1 9 1 ((splitB 46 l).map Str)] := hs2.call0 hs4'
     clear hs4'
     refine q trivial rfl rfl (pt (v := .bool (decide (97 ≤ (((((splitB 46 l).getD (((splitB 46 l).length) - 1) []).getD 0 0).toNat : Nat) : Int) ∧ (((((splitB 46 l).getD (((splitB 46 l).length) - 1) []).getD 0 0).toNat : Nat) : Int) ≤ 122))) rfl rfl) ?_
     refine q trivial rfl rfl (asg (v := .bool (decide (97 ≤ (((((splitB 46 l).getD (((splitB 46 l).length) - 1) []).getD 0 0).toNat : Nat) : Int) ∧ (((((splitB 46 l).getD (((splitB 46 l).length) - 1) []).getD 0 0).toNat : Nat) : Int) ≤ 122))) rfl) ?_
     refine nl ?_
     refine nN ?_
     refine rt ?_
     refine fret (v := .bool (decide (97 ≤ (((((splitB 46 l).getD (((splitB 46 l).length) - 1) []).getD 0 0).toNat : Nat) : Int) ∧ (((((splitB 46 l).getD (((splitB 46 l).length) - 1) []).getD 0 0).toNat : Nat) : Int) ≤ 122))) (.tmp .nil) rfl ?_
     have e3 : (decide (97 ≤ (((((splitB 46 l).getD (((splitB 46 l).length) - 1) []).getD 0 0).toNat : Nat) : Int) ∧ (((((splitB 46 l).getD (((splitB 46 l).length) - 1) []).getD 0 0).toNat : Nat) : Int) ≤ 122)) = nameOk l := by first | (exact (name_bad (k := k) (by omega) (part_nil (by assumption))).symm) | (exact (name_bad (k := k) (by omega) (part_len0 (by omega))).symm) | (exact (name_bad (k := k) (by omega) (part_bad (by assumption))).symm) | (exact (name_bad (k := k) (by omega) (part_bad1 (j := j) (by omega) (by assumption))).symm) | (exact (name_end2 (by omega) ha (by omega)).symm) | (exact (name_end1 (by omega) ha (by omega)).symm) | exact name_end3 (by omega) ha (by omega) (by assumption) | exact name_end4 (by omega) ha (by omega) (by assumption)
     exact ⟨(congrArg (Value.bool) e3), (hs4.pick [] rfl (by decide))⟩
   · refine gk false rfl rfl rfl rfl rfl ?_
     refine gk false rfl rfl rfl rfl rfl ?_
     refine gk false rfl rfl rfl rfl rfl ?_
     refine gk false rfl rfl rfl rfl rfl ?_
     refine gk false rfl rfl rfl rfl rfl ?_
     refine gk false rfl rfl rfl rfl rfl ?_
     refine gk false rfl rfl rfl rfl rfl ?_
     refine gk false rfl rfl rfl rfl rfl ?_
     refine q trivial rfl rfl (pf (v := .bool false) rfl rfl) ?_
     refine q trivial rfl rfl (asg (v := .bool false) rfl) ?_
     refine nl ?_
     refine nN ?_
     refine rt ?_
     refine fret (v := .bool false) (.tmp .nil) rfl ?_
     have e4 : false = nameOk l := by first | (exact (name_bad (k := k) (by omega) (part_nil (by assumption))).symm) | (exact (name_bad (k := k) (by omega) (part_len0 (by omega))).symm) | (exact (name_bad (k := k) (by omega) (part_bad (by assumption))).symm) | (exact (name_bad (k := k) (by omega) (part_bad1 (j := j) (by omega) (by assumption))).symm) | (exact (name_end2 (by omega) ha (by omega)).symm) | (exact (name_end1 (by omega) ha (by omega)).symm) | exact name_end3 (by omega) ha (by omega) (by assumption) | exact name_end4 (by omega) ha (by omega) (by assumption)
     exact ⟨(congrArg (Value.bool) e4), (hs2.pick [] rfl (by decide))⟩

theorem sNameValid (l : List UInt8) (w : World) (hl_n : l.length ≤ 1099511627776) : Does Tryd.prog 61 [Str l] w (fun v w' => v = .bool (nameOk l) ∧ SH w w' [] []) := by
 refine fn_enter (N := 53) Tryd.func61 rfl (by kernel_rfl) rfl rfl rfl ?_
 have hs0 : SH w w [] [] := SH.refl w []
 refine sq ?_
 refine rg ?_
 refine q trivial rfl rfl (asg (v := .bool false) rfl) ?_
 refine nl ?_
 refine nN ?_
 refine sq ?_
 refine rg ?_
 refine q trivial rfl rfl (mv (v := Str l) rfl) ?_
 refine cl trivial rfl (l2Cut (l := l) (c := (46 : UInt8)) (w := _) (hl_n := (by first | (first | omega | (simp; done) | (simp; omega)) | (have hsb := splitB_getD 46 l k; have hsl := splitB_len 46 l; have hcl := List.count_le_length (a := (46 : UInt8)) (l := l); first | omega | (simp; done) | (simp; omega))))) ?_
 rintro _ w1 ⟨A1, c1, rfl, hs1'⟩
 have hs1 : SH w w1 [] [.own A1 ((splitB (46 : UInt8) l).length) c1 9 1 ((splitB (46 : UInt8) l).map Str)] := hs0.call0 hs1'
 clear hs1'
 refine q trivial rfl rfl (asg (v := .slice A1 ((splitB (46 : UInt8) l).length) c1) rfl) ?_
 refine nl ?_
 refine nN ?_
 refine sq ?_
 refine sq ?_
 refine rg ?_
 refine q trivial rfl rfl (asg (v := I 0) rfl) ?_
 refine nl ?_
 refine nN ?_
 refine bl ?_
 refine lp (σ := Nat) (fun (k : Nat) f w' => Has f [(0, Str l), (3, .slice A1 ((splitB (46 : UInt8) l).length) c1), (4, I ((k : Nat) : Int))] ∧ (k ≤ (splitB 46 l).length) ∧ (((splitB 46 l).take k).all partOk = true) ∧ SH w w' [] [.own A1 ((splitB (46 : UInt8) l).length) c1 9 1 ((splitB (46 : UInt8) l).map Str)]) (fun k => (splitB 46 l).length - k) 0 ⟨⟨rfl, rfl, rfl, trivial⟩, (by simp), (by simp), hs1⟩ ?_
 rintro k f w2 ⟨hf, hk, ha, hs2⟩
 obtain ⟨g1, rfl⟩ := has_upd hf
 clear hf
 refine sq ?_
 refine sq ?_
 refine rg ?_
 refine q trivial rfl rfl (mv (v := I ((k : Nat) : Int)) rfl) ?_
 refine q trivial rfl rfl (mv (v := .slice A1 ((splitB (46 : UInt8) l).length) c1) rfl) ?_
 refine q trivial rfl rfl (lnA (n := (splitB (46 : UInt8) l).length) sl88 rfl) ?_
 refine q trivial rfl rfl (lss (k := .i64) (a := ((k : Nat) : Int)) (b := (((splitB (46 : UInt8) l).length : Nat) : Int)) rfl rfl) ?_
 refine nl ?_
 refine nN ?_
 refine cdd (p := ((k : Nat) : Int) < (((splitB (46 : UInt8) l).length : Nat) : Int)) rfl (fun h1 => ?_) (fun h1 => ?_)
 · refine sk ?_
   refine nN ?_
   refine sq ?_
   refine bl ?_
   refine sq ?_
   refine rg ?_
   refine q trivial rfl rfl (mv (v := .slice A1 ((splitB (46 : UInt8) l).length) c1) rfl) ?_
   refine q trivial rfl rfl (mv (v := I ((k : Nat) : Int)) rfl) ?_
   refine ixw1 k sl88 rfl rfl (hs2.sl0 0 rfl) (by first | (first | omega | (simp; done) | (simp; omega)) | (have hsb := splitB_getD 46 l k; have hsl := splitB_len 46 l; have hcl := List.count_le_length (a := (46 : UInt8)) (l := l); first | omega | (simp; done) | (simp; omega))) (getm Str [] (by first | (first | omega | (simp; done) | (simp; omega)) | (have hsb := splitB_getD 46 l k; have hsl := splitB_len 46 l; have hcl := List.count_le_length (a := (46 : UInt8)) (l := l); first | omega | (simp; done) | (simp; omega)))) trivial rfl (fun a1 ha1 => ?_)
   refine q trivial rfl rfl (lda (v := Str ((splitB (46 : UInt8) l).getD k [])) (SH.refl w2 []) ha1 (fun _ h => h) rfl rfl one9) ?_
   refine q trivial rfl rfl (asg (v := Str ((splitB (46 : UInt8) l).getD k [])) rfl) ?_
   refine nl ?_
   refine nN ?_
   refine sq ?_
   refine sq ?_
   refine rg ?_
   refine q trivial rfl rfl (mv (v := Str ((splitB (46 : UInt8) l).getD k [])) rfl) ?_
   refine q trivial rfl rfl (lnS (l := (splitB (46 : UInt8) l).getD k []) st9 rfl) ?_
   refine q trivial rfl rfl (eqi (k := .i64) (a := ((((splitB (46 : UInt8) l).getD k []).length : Nat) : Int)) (b := 0) rfl rfl) ?_
   refine nl ?_
   refine nN ?_
   refine cdd (p := ((((splitB (46 : UInt8) l).getD k []).length : Nat) : Int) = 0) rfl (fun h2 => ?_) (fun h2 => ?_)
   · refine sq ?_
     refine rg ?_
     refine q trivial rfl rfl (asg (v := .bool false) rfl) ?_
     refine nl ?_
     refine nN ?_
     refine rt (tR (bR (tR (tR (bR (tR ?_))))))
     refine fret (v := .bool false) (.tmp .nil) rfl ?_
     have e1 : false = nameOk l := by first | (exact (name_bad (k := k) (by omega) (part_nil (by assumption))).symm) | (exact (name_bad (k := k) (by omega) (part_len0 (by omega))).symm) | (exact (name_bad (k := k) (by omega) (part_bad (by assumption))).symm) | (exact (name_bad (k := k) (by omega) (part_bad1 (j := j) (by omega) (by assumption))).symm) | (exact (name_end2 (by omega) ha (by omega)).symm) | (exact (name_end1 (by omega) ha (by omega)).symm) | exact name_end3 (by omega) ha (by omega) (by assumption) | exact name_end4 (by omega) ha (by omega) (by assumption)
     exact ⟨(congrArg (Value.bool) e1), (hs2.pick [] rfl (by decide))⟩
   · refine sk ?_
     refine nN ?_
     refine sq ?_
     refine rg ?_
     refine q trivial rfl rfl (asg (v := I 0) rfl) ?_
     refine nl ?_
     refine nN ?_
     refine bl ?_
     refine lp (σ := Nat) (fun (j : Nat) f w' => Has f [(0, Str l), (3, .slice A1 ((splitB (46 : UInt8) l).length) c1), (4, I ((k : Nat) : Int)), (5, Str ((splitB (46 : UInt8) l).getD k [])), (6, I ((j : Nat) : Int))] ∧ (j ≤ ((splitB 46 l).getD k []).length) ∧ ((((splitB 46 l).getD k []).take j).all letC = true) ∧ SH w w' [] [.own A1 ((splitB (46 : UInt8) l).length) c1 9 1 ((splitB (46 : UInt8) l).map Str)]) (fun j => ((splitB 46 l).getD k []).length - j) 0 ⟨⟨rfl, rfl, rfl, rfl, rfl, trivial⟩, (by simp), (by simp), hs2⟩ ?_
     rintro j f w3 ⟨hf, hj, hb, hs3⟩
     obtain ⟨g2, rfl⟩ := has_upd hf
     clear hf
     refine sq ?_
     refine sq ?_
     refine rg ?_
     refine q trivial rfl rfl (mv (v := I ((j : Nat) : Int)) rfl) ?_
     refine q trivial rfl rfl (mv (v := Str ((splitB (46 : UInt8) l).getD k [])) rfl) ?_
     refine q trivial rfl rfl (lnS (l := (splitB (46 : UInt8) l).getD k []) st9 rfl) ?_
     refine q trivial rfl rfl (lss (k := .i64) (a := ((j : Nat) : Int)) (b := ((((splitB (46 : UInt8) l).getD k []).length : Nat) : Int)) rfl rfl) ?_
     refine nl ?_
     refine nN ?_
     refine cdd (p := ((j : Nat) : Int) < ((((splitB (46 : UInt8) l).getD k []).length : Nat) : Int)) rfl (fun h3 => ?_) (fun h3 => ?_)
     · refine sk ?_
       refine nN ?_
       refine sq ?_
       refine bl ?_
       refine sq ?_
       refine rg ?_
       refine q trivial rfl rfl (mv (v := Str ((splitB (46 : UInt8) l).getD k [])) rfl) ?_
       refine q trivial rfl rfl (mv (v := I ((j : Nat) : Int)) rfl) ?_
       refine q trivial rfl rfl (ixs (l := (splitB (46 : UInt8) l).getD k []) j st9 rfl rfl (by first | omega | exact name_last (by omega) ha (by have := splitB_pos 46 l; omega))) ?_
       refine cl trivial rfl (sLetter (c := (((splitB (46 : UInt8) l).getD k []).getD j 0)) (w := _)) ?_
       rintro _ w4 ⟨rfl, hs4'⟩
       have hs4 : SH w w4 [] [.own A1 ((splitB (46 : UInt8) l).length) c1 9 1 ((splitB (46 : UInt8) l).map Str)] := hs3.call0 hs4'
       clear hs4'
       refine q trivial rfl rfl (nt (b := letC (((splitB (46 : UInt8) l).getD k []).getD j 0)) rfl) ?_
       refine nl ?_
       refine nN ?_
       refine cd (b := !(letC (((splitB (46 : UInt8) l).getD k []).getD j 0))) rfl (fun h4 => ?_) (fun h4 => ?_)
       · have h5 : (letC (((splitB (46 : UInt8) l).getD k []).getD j 0)) = false := by simpa using h4
         refine sq ?_
         refine rg ?_
         refine q trivial rfl rfl (asg (v := .bool false) rfl) ?_
         refine nl ?_
         refine nN ?_
         refine rt (bR (tR (tR (bR (bR (tR (tR (bR (tR ?_)))))))))
         refine fret (v := .bool false) (.tmp .nil) rfl ?_
         have e2 : false = nameOk l := by first | (exact (name_bad (k := k) (by omega) (part_nil (by assumption))).symm) | (exact (name_bad (k := k) (by omega) (part_len0 (by omega))).symm) | (exact (name_bad (k := k) (by omega) (part_bad (by assumption))).symm) | (exact (name_bad (k := k) (by omega) (part_bad1 (j := j) (by omega) (by assumption))).symm) | (exact (name_end2 (by omega) ha (by omega)).symm) | (exact (name_end1 (by omega) ha (by omega)).symm) | exact name_end3 (by omega) ha (by omega) (by assumption) | exact name_end4 (by omega) ha (by omega) (by assumption)
         exact ⟨(congrArg (Value.bool) e2), (hs4.pick [] rfl (by decide))⟩
       · have h6 : (letC (((splitB (46 : UInt8) l).getD k []).getD j 0)) = true := by simpa using h4
         refine sk ?_
         refine bN ?_
         refine nN ?_
         refine rg ?_
         refine q trivial rfl rfl (mv (v := I ((j : Nat) : Int)) rfl) ?_
         refine q trivial rfl rfl (add (a := ((j : Nat) : Int)) (b := 1) rfl rfl (by first | (exact ⟨by omega, by omega⟩) | (have hsb := splitB_getD 46 l k; have hsl := splitB_len 46 l; have hcl := List.count_le_length (a := (46 : UInt8)) (l := l); exact ⟨by omega, by omega⟩))) ?_
         refine q trivial rfl rfl (asg (v := I (((j : Nat) : Int) + 1)) rfl) ?_
         refine nl ?_
         refine nN ?_
         refine ⟨(j + 1), ⟨⟨rfl, rfl, rfl, rfl, rfl, trivial⟩, (by omega), (all_step (d := 0) (by omega) hb (by assumption)), hs4⟩, ?_⟩
         omega
     · refine ex (tE (tE (bE ?_)))
       refine bN ?_
       refine nN ?_
       refine rg ?_
       refine q trivial rfl rfl (mv (v := I ((k : Nat) : Int)) rfl) ?_
       refine q trivial rfl rfl (add (a := ((k : Nat) : Int)) (b := 1) rfl rfl (by first | (exact ⟨by omega, by omega⟩) | (have hsb := splitB_getD 46 l k; have hsl := splitB_len 46 l; have hcl := List.count_le_length (a := (46 : UInt8)) (l := l); exact ⟨by omega, by omega⟩))) ?_
       refine q trivial rfl rfl (asg (v := I (((k : Nat) : Int) + 1)) rfl) ?_
       refine nl ?_
       refine nN ?_
       refine ⟨(k + 1), ⟨⟨rfl, rfl, rfl, trivial⟩, (by omega), (all_step (d := []) (by omega) ha (part_mk1 (j := j) (by omega) (by omega) hb)), hs3⟩, ?_⟩
       omega
 · refine ex (tE (tE (bE ?_)))
   refine nN ?_
   refine sq ?_
   refine rg ?_
   refine q trivial rfl rfl (mv (v := .slice A1 ((splitB (46 : UInt8) l).length) c1) rfl) ?_
   refine q trivial rfl rfl (mv (v := .slice A1 ((splitB (46 : UInt8) l).length) c1) rfl) ?_
   refine q trivial rfl rfl (lnA (n := (splitB (46 : UInt8) l).length) sl88 rfl) ?_
   refine q trivial rfl rfl (subN (a := (splitB (46 : UInt8) l).length) (b := 1) rfl rfl (by have hsb := splitB_getD 46 l k; have hsl := splitB_len 46 l; have hcl := List.count_le_length (a := (46 : UInt8)) (l := l); have := splitB_pos 46 l; omega) (by have hsb := splitB_getD 46 l k; have hsl := splitB_len 46 l; have hcl := List.count_le_length (a := (46 : UInt8)) (l := l); have := splitB_pos 46 l; omega)) ?_
   refine ixw1 (((splitB (46 : UInt8) l).length) - 1) sl88 rfl rfl (hs2.sl0 0 rfl) (by first | (first | omega | (simp; done) | (simp; omega)) | (have hsb := splitB_getD 46 l k; have hsl := splitB_len 46 l; have hcl := List.count_le_length (a := (46 : UInt8)) (l := l); first | omega | (simp; done) | (simp; omega))) (getm Str [] (by first | (first | omega | (simp; done) | (simp; omega)) | (have hsb := splitB_getD 46 l k; have hsl := splitB_len 46 l; have hcl := List.count_le_length (a := (46 : UInt8)) (l := l); first | omega | (simp; done) | (simp; omega)))) trivial rfl (fun a2 ha2 => ?_)
   refine q trivial rfl rfl (lda (v := Str ((splitB (46 : UInt8) l).getD (((splitB (46 : UInt8) l).length) - 1) [])) (SH.refl w2 []) ha2 (fun _ h => h) rfl rfl one9) ?_
   refine q trivial rfl rfl (asg (v := Str ((splitB (46 : UInt8) l).getD (((splitB (46 : UInt8) l).length) - 1) [])) rfl) ?_
   refine nl ?_
   refine nN ?_
   refine sq ?_
   refine rg ?_
   refine q trivial rfl rfl (mv (v := Str l) rfl) ?_
   refine q trivial rfl rfl (lnS (l := l) st9 rfl) ?_
   refine q trivial rfl rfl (leq (k := .i64) (a := ((l.length : Nat) : Int)) (b := 20) rfl rfl) ?_
   refine q trivial rfl rfl (mv (v := .bool (decide (((l.length : Nat) : Int) ≤ 20))) rfl) ?_
   refine spd (p := ((l.length : Nat) : Int) ≤ 20) 43 rfl (fun h7 => ?_) (fun h7 => ?_)
   · refine q ⟨_, rfl, rfl⟩ rfl rfl (mv (v := Str ((splitB (46 : UInt8) l).getD (((splitB (46 : UInt8) l).length) - 1) [])) rfl) ?_
     refine q ⟨_, rfl, rfl⟩ rfl rfl (ixs (l := (splitB (46 : UInt8) l).getD (((splitB (46 : UInt8) l).length) - 1) []) 0 st9 rfl rfl (by first | omega | exact name_last (by omega) ha (by have := splitB_pos 46 l; omega))) ?_
     refine q ⟨_, rfl, rfl⟩ rfl rfl (geq (k := .u8) (a := (((((splitB (46 : UInt8) l).getD (((splitB (46 : UInt8) l).length) - 1) []).getD 0 0).toNat : Nat) : Int)) (b := 97) rfl rfl) ?_
     refine q trivial rfl rfl (pt (v := .bool (decide ((97 : Int) ≤ (((((splitB (46 : UInt8) l).getD (((splitB (46 : UInt8) l).length) - 1) []).getD 0 0).toNat : Nat) : Int)))) rfl rfl) ?_
     refine q trivial rfl rfl (mv (v := .bool (decide ((97 : Int) ≤ (((((splitB (46 : UInt8) l).getD (((splitB (46 : UInt8) l).length) - 1) []).getD 0 0).toNat : Nat) : Int)))) rfl) ?_
     refine spd (p := (97 : Int) ≤ (((((splitB (46 : UInt8) l).getD (((splitB (46 : UInt8) l).length) - 1) []).getD 0 0).toNat : Nat) : Int)) 48 rfl (fun h8 => ?_) (fun h8 => ?_)
     · refine q ⟨_, rfl, rfl⟩ rfl rfl (mv (v := Str ((splitB (46 : UInt8) l).getD (((splitB (46 : UInt8) l).length) - 1) [])) rfl) ?_
       refine q ⟨_, rfl, rfl⟩ rfl rfl (ixs (l := (splitB (46 : UInt8) l).getD (((splitB (46 : UInt8) l).length) - 1) []) 0 st9 rfl rfl (by first | omega | exact name_last (by omega) ha (by have := splitB_pos 46 l; omega))) ?_
       refine q ⟨_, rfl, rfl⟩ rfl rfl (leq (k := .u8) (a := (((((splitB (46 : UInt8) l).getD (((splitB (46 : UInt8) l).length) - 1) []).getD 0 0).toNat : Nat) : Int)) (b := 122) rfl rfl) ?_
       refine q trivial rfl rfl (pt (v := .bool (decide ((((((splitB (46 : UInt8) l).getD (((splitB (46 : UInt8) l).length) - 1) []).getD 0 0).toNat : Nat) : Int) ≤ 122))) rfl rfl) ?_
       refine q trivial rfl rfl (asg (v := .bool (decide ((((((splitB (46 : UInt8) l).getD (((splitB (46 : UInt8) l).length) - 1) []).getD 0 0).toNat : Nat) : Int) ≤ 122))) rfl) ?_
       refine nl ?_
       refine nN ?_
       refine rt ?_
       refine fret (v := .bool (decide ((((((splitB (46 : UInt8) l).getD (((splitB (46 : UInt8) l).length) - 1) []).getD 0 0).toNat : Nat) : Int) ≤ 122))) (.tmp .nil) rfl ?_
       have e3 : (decide ((((((splitB (46 : UInt8) l).getD (((splitB (46 : UInt8) l).length) - 1) []).getD 0 0).toNat : Nat) : Int) ≤ 122)) = nameOk l := by first | (exact (name_bad (k := k) (by omega) (part_nil (by assumption))).symm) | (exact (name_bad (k := k) (by omega) (part_len0 (by omega))).symm) | (exact (name_bad (k := k) (by omega) (part_bad (by assumption))).symm) | (exact (name_bad (k := k) (by omega) (part_bad1 (j := j) (by omega) (by assumption))).symm) | (exact (name_end2 (by omega) ha (by omega)).symm) | (exact (name_end1 (by omega) ha (by omega)).symm) | exact name_end3 (by omega) ha (by omega) (by assumption) | exact name_end4 (by omega) ha (by omega) (by assumption)
       exact ⟨(congrArg (Value.bool) e3), (hs2.pick [] rfl (by decide))⟩
     · refine gk false rfl rfl rfl rfl rfl ?_
       refine gk false rfl rfl rfl rfl rfl ?_
       refine gk false rfl rfl rfl rfl rfl ?_
       refine q trivial rfl rfl (pf (v := .bool false) rfl rfl) ?_
       refine q trivial rfl rfl (asg (v := .bool false) rfl) ?_
       refine nl ?_
       refine nN ?_
       refine rt ?_
       refine fret (v := .bool false) (.tmp .nil) rfl ?_
       have e4 : false = nameOk l := by first | (exact (name_bad (k := k) (by omega) (part_nil (by assumption))).symm) | (exact (name_bad (k := k) (by omega) (part_len0 (by omega))).symm) | (exact (name_bad (k := k) (by omega) (part_bad (by assumption))).symm) | (exact (name_bad (k := k) (by omega) (part_bad1 (j := j) (by omega) (by assumption))).symm) | (exact (name_end2 (by omega) ha (by omega)).symm) | (exact (name_end1 (by omega) ha (by omega)).symm) | exact name_end3 (by omega) ha (by omega) (by assumption) | exact name_end4 (by omega) ha (by omega) (by assumption)
       exact ⟨(congrArg (Value.bool) e4), (hs2.pick [] rfl (by decide))⟩
   · refine gk false rfl rfl rfl rfl rfl ?_
     refine gk false rfl rfl rfl rfl rfl ?_
     refine gk false rfl rfl rfl rfl rfl ?_
     refine q trivial rfl rfl (pf (v := .bool false) rfl rfl) ?_
     refine q trivial rfl rfl (mv (v := .bool false) rfl) ?_
     refine gk false rfl rfl rfl rfl rfl ?_
     refine gk false rfl rfl rfl rfl rfl ?_
     refine gk false rfl rfl rfl rfl rfl ?_
     refine q trivial rfl rfl (pf (v := .bool false) rfl rfl) ?_
     refine q trivial rfl rfl (asg (v := .bool false) rfl) ?_
     refine nl ?_
     refine nN ?_
     refine rt ?_
     refine fret (v := .bool false) (.tmp .nil) rfl ?_
     have e5 : false = nameOk l := by first | (exact (name_bad (k := k) (by omega) (part_nil (by assumption))).symm) | (exact (name_bad (k := k) (by omega) (part_len0 (by omega))).symm) | (exact (name_bad (k := k) (by omega) (part_bad (by assumption))).symm) | (exact (name_bad (k := k) (by omega) (part_bad1 (j := j) (by omega) (by assumption))).symm) | (exact (name_end2 (by omega) ha (by omega)).symm) | (exact (name_end1 (by omega) ha (by omega)).symm) | exact name_end3 (by omega) ha (by omega) (by assumption) | exact name_end4 (by omega) ha (by omega) (by assumption)
     exact ⟨(congrArg (Value.bool) e5), (hs2.pick [] rfl (by decide))⟩

theorem iQuadValid {Aqs : Option Addr} {cqs : Nat} (qs : List Int) (w : World) (hqs : Sl w [] 1 Aqs qs.length cqs (qs.map I)) : Does Tryd.prog 54 [.slice Aqs qs.length cqs] w (fun v w' => v = .bool (quadOk qs) ∧ SH w w' [] []) := by
 refine fn_enter (N := 10) Tryd.func54 rfl (by kernel_rfl) rfl rfl rfl ?_
 have hs0 : SH w w [] [] := SH.refl w []
 have hqs_m : qs.length ≤ 9223372036854775807 := Nat.le_trans hqs.cap hqs.capMax
 refine sq ?_
 refine rg ?_
 refine q trivial rfl rfl (asg (v := .bool false) rfl) ?_
 refine nl ?_
 refine nN ?_
 refine sq ?_
 refine rg ?_
 refine q trivial rfl rfl (mv (v := .slice Aqs qs.length cqs) rfl) ?_
 refine q trivial rfl rfl (lnA (n := qs.length) sl23 rfl) ?_
 refine q trivial rfl rfl (eqi (k := .i64) (a := ((qs.length : Nat) : Int)) (b := 4) rfl rfl) ?_
 refine q trivial rfl rfl (mv (v := .bool (decide (((qs.length : Nat) : Int) = 4))) rfl) ?_
 refine spd (p := ((qs.length : Nat) : Int) = 4) 6 rfl (fun h1 => ?_) (fun h1 => ?_)
 · refine q ⟨_, rfl, rfl⟩ rfl rfl (mv (v := .slice Aqs qs.length cqs) rfl) ?_
   refine cl ⟨_, rfl, rfl⟩ rfl (iBytesValid (Azs := Aqs) (czs := cqs) (zs := qs) (w := _) (hzs := (hqs.up0 hs0))) ?_
   rintro _ w1 ⟨rfl, hs1'⟩
   have hs1 : SH w w1 [] [] := hs0.call0 hs1'
   clear hs1'
   refine q trivial rfl rfl (pt (v := .bool (isBytes qs)) rfl rfl) ?_
   refine q trivial rfl rfl (asg (v := .bool (isBytes qs)) rfl) ?_
   refine nl ?_
   refine nN ?_
   refine rt ?_
   refine fret (v := .bool (isBytes qs)) (.tmp .nil) rfl ?_
   have e1 : (isBytes qs) = quadOk qs := by simp [quadOk, h1] <;> omega
   exact ⟨(congrArg (Value.bool) e1), hs1⟩
 · refine gk false rfl rfl rfl rfl rfl ?_
   refine gk false rfl rfl rfl rfl rfl ?_
   refine q trivial rfl rfl (pf (v := .bool false) rfl rfl) ?_
   refine q trivial rfl rfl (asg (v := .bool false) rfl) ?_
   refine nl ?_
   refine nN ?_
   refine rt ?_
   refine fret (v := .bool false) (.tmp .nil) rfl ?_
   have e2 : false = quadOk qs := by simp [quadOk, h1] <;> omega
   exact ⟨(congrArg (Value.bool) e2), hs0⟩

theorem sQuadValid {Aqs : Option Addr} {cqs : Nat} (qs : List Int) (w : World) (hqs : Sl w [] 1 Aqs qs.length cqs (qs.map I)) : Does Tryd.prog 60 [.slice Aqs qs.length cqs] w (fun v w' => v = .bool (quadOk qs) ∧ SH w w' [] []) := by
 refine fn_enter (N := 10) Tryd.func60 rfl (by kernel_rfl) rfl rfl rfl ?_
 have hs0 : SH w w [] [] := SH.refl w []
 have hqs_m : qs.length ≤ 9223372036854775807 := Nat.le_trans hqs.cap hqs.capMax
 refine sq ?_
 refine rg ?_
 refine q trivial rfl rfl (asg (v := .bool false) rfl) ?_
 refine nl ?_
 refine nN ?_
 refine sq ?_
 refine rg ?_
 refine q trivial rfl rfl (mv (v := .slice Aqs qs.length cqs) rfl) ?_
 refine cl trivial rfl (sBytesValid (Azs := Aqs) (czs := cqs) (zs := qs) (w := _) (hzs := (hqs.up0 hs0))) ?_
 rintro _ w1 ⟨rfl, hs1'⟩
 have hs1 : SH w w1 [] [] := hs0.call0 hs1'
 clear hs1'
 refine q trivial rfl rfl (mv (v := .bool (isBytes qs)) rfl) ?_
 refine spl (b := isBytes qs) 5 rfl (fun h1 => ?_) (fun h1 => ?_)
 · refine q ⟨_, rfl, rfl⟩ rfl rfl (mv (v := .slice Aqs qs.length cqs) rfl) ?_
   refine q ⟨_, rfl, rfl⟩ rfl rfl (lnA (n := qs.length) sl23 rfl) ?_
   refine q ⟨_, rfl, rfl⟩ rfl rfl (eqi (k := .i64) (a := ((qs.length : Nat) : Int)) (b := 4) rfl rfl) ?_
   refine q trivial rfl rfl (pt (v := .bool (decide (((qs.length : Nat) : Int) = 4))) rfl rfl) ?_
   refine q trivial rfl rfl (asg (v := .bool (decide (((qs.length : Nat) : Int) = 4))) rfl) ?_
   refine nl ?_
   refine nN ?_
   refine rt ?_
   refine fret (v := .bool (decide (((qs.length : Nat) : Int) = 4))) (.tmp .nil) rfl ?_
   have e1 : (decide (((qs.length : Nat) : Int) = 4)) = quadOk qs := by simp [quadOk, h1] <;> omega
   exact ⟨(congrArg (Value.bool) e1), hs1⟩
 · refine gk false rfl rfl rfl rfl rfl ?_
   refine gk false rfl rfl rfl rfl rfl ?_
   refine gk false rfl rfl rfl rfl rfl ?_
   refine q trivial rfl rfl (pf (v := .bool false) rfl rfl) ?_
   refine q trivial rfl rfl (asg (v := .bool false) rfl) ?_
   refine nl ?_
   refine nN ?_
   refine rt ?_
   refine fret (v := .bool false) (.tmp .nil) rfl ?_
   have e2 : false = quadOk qs := by simp [quadOk, h1] <;> omega
   exact ⟨(congrArg (Value.bool) e2), hs1⟩

theorem iUserValid (s : List UInt8) (w : World) (hs_n : s.length ≤ 2147483648) : Does Tryd.prog 58 [Str s] w (fun v w' => v = .bool (userOk s) ∧ SH w w' [] []) := by
 refine fn_enter (N := 10) Tryd.func58 rfl (by kernel_rfl) rfl rfl rfl ?_
 have hs0 : SH w w [] [] := SH.refl w []
 refine sq ?_
 refine rg ?_
 refine q trivial rfl rfl (asg (v := .bool false) rfl) ?_
 refine nl ?_
 refine nN ?_
 refine sq ?_
 refine rg ?_
 refine q trivial rfl rfl (mv (v := Str s) rfl) ?_
 refine q trivial rfl rfl (lnS (l := s) st9 rfl) ?_
 refine q trivial rfl rfl (leq (k := .i64) (a := ((s.length : Nat) : Int)) (b := 8) rfl rfl) ?_
 refine q trivial rfl rfl (mv (v := .bool (decide (((s.length : Nat) : Int) ≤ 8))) rfl) ?_
 refine spd (p := ((s.length : Nat) : Int) ≤ 8) 6 rfl (fun h1 => ?_) (fun h1 => ?_)
 · refine q ⟨_, rfl, rfl⟩ rfl rfl (mv (v := Str s) rfl) ?_
   refine cl ⟨_, rfl, rfl⟩ rfl (iConsists (l := s) (m := []) (w := _) (hl_n := (by first | omega | (simp; done) | (simp; omega)))) ?_
   rintro _ w1 ⟨rfl, hs1'⟩
   have hs1 : SH w w1 [] [] := hs0.call0 hs1'
   clear hs1'
   refine q trivial rfl rfl (pt (v := .bool (s.all (okC []))) rfl rfl) ?_
   refine q trivial rfl rfl (asg (v := .bool (s.all (okC []))) rfl) ?_
   refine nl ?_
   refine nN ?_
   refine rt ?_
   refine fret (v := .bool (s.all (okC []))) (.tmp .nil) rfl ?_
   have e1 : (s.all (okC [])) = userOk s := by simp [userOk, h1] <;> omega
   exact ⟨(congrArg (Value.bool) e1), hs1⟩
 · refine gk false rfl rfl rfl rfl rfl ?_
   refine gk false rfl rfl rfl rfl rfl ?_
   refine q trivial rfl rfl (pf (v := .bool false) rfl rfl) ?_
   refine q trivial rfl rfl (asg (v := .bool false) rfl) ?_
   refine nl ?_
   refine nN ?_
   refine rt ?_
   refine fret (v := .bool false) (.tmp .nil) rfl ?_
   have e2 : false = userOk s := by simp [userOk, h1] <;> omega
   exact ⟨(congrArg (Value.bool) e2), hs0⟩

theorem sUserValid (s : List UInt8) (w : World) (hs_n : s.length ≤ 2147483648) : Does Tryd.prog 62 [Str s] w (fun v w' => v = .bool (userOk s) ∧ SH w w' [] []) := by
 refine fn_enter (N := 24) Tryd.func62 rfl (by kernel_rfl) rfl rfl rfl ?_
 have hs0 : SH w w [] [] := SH.refl w []
 refine sq ?_
 refine rg ?_
 refine q trivial rfl rfl (asg (v := .bool false) rfl) ?_
 refine nl ?_
 refine nN ?_
 refine sq ?_
 refine sq ?_
 refine rg ?_
 refine q trivial rfl rfl (asg (v := I 0) rfl) ?_
 refine nl ?_
 refine nN ?_
 refine bl ?_
 refine lp (σ := Nat) (fun (k : Nat) f w' => Has f [(0, Str s), (3, I ((k : Nat) : Int))] ∧ (k ≤ s.length) ∧ ((s.take k).all (okC []) = true) ∧ SH w w' [] []) (fun k => s.length - k) 0 ⟨⟨rfl, rfl, trivial⟩, (by simp), (by simp), hs0⟩ ?_
 rintro k f w1 ⟨hf, hk, ha, hs1⟩
 obtain ⟨g1, rfl⟩ := has_upd hf
 clear hf
 refine sq ?_
 refine sq ?_
 refine rg ?_
 refine q trivial rfl rfl (mv (v := I ((k : Nat) : Int)) rfl) ?_
 refine q trivial rfl rfl (mv (v := Str s) rfl) ?_
 refine q trivial rfl rfl (lnS (l := s) st9 rfl) ?_
 refine q trivial rfl rfl (lss (k := .i64) (a := ((k : Nat) : Int)) (b := ((s.length : Nat) : Int)) rfl rfl) ?_
 refine nl ?_
 refine nN ?_
 refine cdd (p := ((k : Nat) : Int) < ((s.length : Nat) : Int)) rfl (fun h1 => ?_) (fun h1 => ?_)
 · refine sk ?_
   refine nN ?_
   refine sq ?_
   refine bl ?_
   refine sq ?_
   refine rg ?_
   refine q trivial rfl rfl (mv (v := Str s) rfl) ?_
   refine q trivial rfl rfl (mv (v := I ((k : Nat) : Int)) rfl) ?_
   refine q trivial rfl rfl (ixs (l := s) k st9 rfl rfl (by first | omega | (simp; done) | (simp; omega))) ?_
   refine cl trivial rfl (sLetter (c := (s.getD k 0)) (w := _)) ?_
   rintro _ w2 ⟨rfl, hs2'⟩
   have hs2 : SH w w2 [] [] := hs1.call0 hs2'
   clear hs2'
   refine q trivial rfl rfl (nt (b := letC (s.getD k 0)) rfl) ?_
   refine q trivial rfl rfl (mv (v := .bool (!(letC (s.getD k 0)))) rfl) ?_
   refine spl (b := !(letC (s.getD k 0))) 15 rfl (fun h2 => ?_) (fun h2 => ?_)
   · have h3 : (letC (s.getD k 0)) = false := by simpa using h2
     refine gk true rfl rfl rfl rfl rfl ?_
     refine gk true rfl rfl rfl rfl rfl ?_
     refine gk true rfl rfl rfl rfl rfl ?_
     refine gk true rfl rfl rfl rfl rfl ?_
     refine q trivial rfl rfl (pt (v := .bool true) rfl rfl) ?_
     refine nl ?_
     refine nN ?_
     refine cdt rfl ?_
     refine sq ?_
     refine rg ?_
     refine q trivial rfl rfl (asg (v := .bool false) rfl) ?_
     refine nl ?_
     refine nN ?_
     refine rt (bR (tR (tR (bR (tR ?_)))))
     refine fret (v := .bool false) (.tmp .nil) rfl ?_
     have e1 : false = userOk s := by first | exact (user_bad (k := k) (by omega) (.inl (by assumption))).symm | exact (user_bad (k := k) (by omega) (.inr (by assumption))).symm | exact user_end (by omega) ha
     exact ⟨(congrArg (Value.bool) e1), hs2⟩
   · have h4 : (letC (s.getD k 0)) = true := by simpa using h2
     refine q ⟨_, rfl, rfl⟩ rfl rfl (mv (v := Str s) rfl) ?_
     refine q ⟨_, rfl, rfl⟩ rfl rfl (mv (v := I ((k : Nat) : Int)) rfl) ?_
     refine q ⟨_, rfl, rfl⟩ rfl rfl (ixs (l := s) k st9 rfl rfl (by first | omega | (simp; done) | (simp; omega))) ?_
     refine q ⟨_, rfl, rfl⟩ rfl rfl (eqi (k := .u8) (a := (((s.getD k 0).toNat : Nat) : Int)) (b := 45) rfl rfl) ?_
     refine q trivial rfl rfl (pf (v := .bool (decide ((((s.getD k 0).toNat : Nat) : Int) = 45))) rfl rfl) ?_
     refine nl ?_
     refine nN ?_
     refine cdd (p := (((s.getD k 0).toNat : Nat) : Int) = 45) rfl (fun h5 => ?_) (fun h5 => ?_)
     · refine sq ?_
       refine rg ?_
       refine q trivial rfl rfl (asg (v := .bool false) rfl) ?_
       refine nl ?_
       refine nN ?_
       refine rt (bR (tR (tR (bR (tR ?_)))))
       refine fret (v := .bool false) (.tmp .nil) rfl ?_
       have e2 : false = userOk s := by first | exact (user_bad (k := k) (by omega) (.inl (by assumption))).symm | exact (user_bad (k := k) (by omega) (.inr (by assumption))).symm | exact user_end (by omega) ha
       exact ⟨(congrArg (Value.bool) e2), hs2⟩
     · refine sk ?_
       refine bN ?_
       refine nN ?_
       refine rg ?_
       refine q trivial rfl rfl (mv (v := I ((k : Nat) : Int)) rfl) ?_
       refine q trivial rfl rfl (add (a := ((k : Nat) : Int)) (b := 1) rfl rfl (by exact ⟨by omega, by omega⟩)) ?_
       refine q trivial rfl rfl (asg (v := I (((k : Nat) : Int) + 1)) rfl) ?_
       refine nl ?_
       refine nN ?_
       refine ⟨(k + 1), ⟨⟨rfl, rfl, trivial⟩, (by omega), (all_step (d := 0) (by omega) ha (user_mk (by assumption) (by assumption))), hs2⟩, ?_⟩
       omega
 · refine ex (tE (tE (bE ?_)))
   refine nN ?_
   refine sq ?_
   refine rg ?_
   refine q trivial rfl rfl (mv (v := Str s) rfl) ?_
   refine q trivial rfl rfl (lnS (l := s) st9 rfl) ?_
   refine q trivial rfl rfl (leq (k := .i64) (a := ((s.length : Nat) : Int)) (b := 8) rfl rfl) ?_
   refine q trivial rfl rfl (asg (v := .bool (decide (((s.length : Nat) : Int) ≤ 8))) rfl) ?_
   refine nl ?_
   refine nN ?_
   refine rt ?_
   refine fret (v := .bool (decide (((s.length : Nat) : Int) ≤ 8))) (.tmp .nil) rfl ?_
   have e3 : (decide (((s.length : Nat) : Int) ≤ 8)) = userOk s := by first | exact (user_bad (k := k) (by omega) (.inl (by assumption))).symm | exact (user_bad (k := k) (by omega) (.inr (by assumption))).symm | exact user_end (by omega) ha
   exact ⟨(congrArg (Value.bool) e3), hs1⟩

theorem slIndex {Azs : Option Addr} {czs : Nat} (zs : List Int) (n : Int) (w : World) (hzs : Sl w [] 1 Azs zs.length czs (zs.map I)) : Does Tryd.prog 57 [.slice Azs zs.length czs, I n] w (fun v w' => v = .int .i64 (idxP (fun x => decide (n = x)) zs) ∧ SH w w' [] []) := by
 refine fn_enter (N := 19) Tryd.func57 rfl (by kernel_rfl) rfl rfl rfl ?_
 have hs0 : SH w w [] [] := SH.refl w []
 have hzs_m : zs.length ≤ 9223372036854775807 := Nat.le_trans hzs.cap hzs.capMax
 refine sq ?_
 refine rg ?_
 refine q trivial rfl rfl (asg (v := I 0) rfl) ?_
 refine nl ?_
 refine nN ?_
 refine sq ?_
 refine sq ?_
 refine rg ?_
 refine q trivial rfl rfl (mv (v := .slice Azs zs.length czs) rfl) ?_
 refine q trivial rfl rfl (lnA (n := zs.length) sl23 rfl) ?_
 refine q trivial rfl rfl (mv (v := I 0) rfl) ?_
 refine nl ?_
 refine nN ?_
 refine bl ?_
 refine lp (σ := Nat) (fun (k : Nat) f w' => Has f [(0, .slice Azs zs.length czs), (1, I n), (7, I ((zs.length : Nat) : Int)), (8, I ((k : Nat) : Int))] ∧ (k ≤ zs.length) ∧ (∀ j, j < k → decide (n = zs.getD j 0) = false) ∧ SH w w' [] []) (fun k => zs.length - k) 0 ⟨⟨rfl, rfl, rfl, rfl, trivial⟩, (by simp), (by intro j hj; omega), hs0⟩ ?_
 rintro k f w1 ⟨hf, hk, hn, hs1⟩
 obtain ⟨g1, rfl⟩ := has_upd hf
 clear hf
 refine sq ?_
 refine rg ?_
 refine q trivial rfl rfl (lss (k := .i64) (a := ((k : Nat) : Int)) (b := ((zs.length : Nat) : Int)) rfl rfl) ?_
 refine nl ?_
 refine nN ?_
 refine sq ?_
 refine cdd (p := ((k : Nat) : Int) < ((zs.length : Nat) : Int)) rfl (fun h1 => ?_) (fun h1 => ?_)
 · refine sk ?_
   refine nN ?_
   refine sq ?_
   refine bl ?_
   refine sq ?_
   refine rg ?_
   refine q trivial rfl rfl (mv (v := I ((k : Nat) : Int)) rfl) ?_
   refine q trivial rfl rfl (asg (v := I ((k : Nat) : Int)) rfl) ?_
   refine nl ?_
   refine nN ?_
   refine sq ?_
   refine rg ?_
   refine q trivial rfl rfl (mv (v := I n) rfl) ?_
   refine q trivial rfl rfl (mv (v := .slice Azs zs.length czs) rfl) ?_
   refine q trivial rfl rfl (mv (v := I ((k : Nat) : Int)) rfl) ?_
   refine ixw1 k sl23 rfl rfl hzs (by first | omega | (simp; done) | (simp; omega)) (getm I 0 (by first | omega | (simp; done) | (simp; omega))) trivial rfl (fun a1 ha1 => ?_)
   refine q trivial rfl rfl (lda (v := I (zs.getD k 0)) hs1 ha1 (fun _ h => h) rfl rfl one3) ?_
   refine q trivial rfl rfl (eqi (k := .i64) (a := n) (b := zs.getD k 0) rfl rfl) ?_
   refine nl ?_
   refine nN ?_
   refine cdd (p := n = (zs.getD k 0)) rfl (fun h2 => ?_) (fun h2 => ?_)
   · refine sq ?_
     refine rg ?_
     refine q trivial rfl rfl (mv (v := I ((k : Nat) : Int)) rfl) ?_
     refine q trivial rfl rfl (asg (v := I ((k : Nat) : Int)) rfl) ?_
     refine nl ?_
     refine nN ?_
     refine rt (bR (tR (tR (bR (tR ?_)))))
     refine fret (v := I ((k : Nat) : Int)) (.tmp .nil) rfl ?_
     have e1 : ((k : Nat) : Int) = idxP (fun x => decide (n = x)) zs := by exact idxP_eq (d := 0) (by omega) hn (decide_eq_true (by assumption))
     exact ⟨(congrArg (Value.int .i64) e1), hs1⟩
   · refine sk ?_
     refine bN ?_
     refine nN ?_
     refine rg ?_
     refine q trivial rfl rfl (add (a := ((k : Nat) : Int)) (b := 1) rfl rfl (by exact ⟨by omega, by omega⟩)) ?_
     refine q trivial rfl rfl (mv (v := I (((k : Nat) : Int) + 1)) rfl) ?_
     refine nl ?_
     refine nN ?_
     refine ⟨(k + 1), ⟨⟨rfl, rfl, rfl, rfl, trivial⟩, (by omega), (by intro j hj; rcases Nat.lt_succ_iff_lt_or_eq.1 hj with h | h; exact hn j h; subst h; exact decide_eq_false (by assumption)), hs1⟩, ?_⟩
     omega
 · refine ex (tE (tE (bE ?_)))
   refine nN ?_
   refine sq ?_
   refine rg ?_
   refine q trivial rfl rfl (asg (v := I (-1)) rfl) ?_
   refine nl ?_
   refine nN ?_
   refine rt ?_
   refine fret (v := I (-1)) (.tmp .nil) rfl ?_
   have e2 : (-1) = idxP (fun x => decide (n = x)) zs := by exact idxP_none (d := 0) (fun j hj => hn j (by omega))
   exact ⟨(congrArg (Value.int .i64) e2), hs1⟩

theorem slContains {Azs : Option Addr} {czs : Nat} (zs : List Int) (n : Int) (w : World) (hzs : Sl w [] 1 Azs zs.length czs (zs.map I)) : Does Tryd.prog 29 [.slice Azs zs.length czs, I n] w (fun v w' => v = .bool (decide (n ∈ zs)) ∧ SH w w' [] []) := by
 refine fn_enter (N := 9) Tryd.func29 rfl (by kernel_rfl) rfl rfl rfl ?_
 have hs0 : SH w w [] [] := SH.refl w []
 have hzs_m : zs.length ≤ 9223372036854775807 := Nat.le_trans hzs.cap hzs.capMax
 refine sq ?_
 refine rg ?_
 refine q trivial rfl rfl (asg (v := .bool false) rfl) ?_
 refine nl ?_
 refine nN ?_
 refine sq ?_
 refine rg ?_
 refine q trivial rfl rfl (mv (v := .slice Azs zs.length czs) rfl) ?_
 refine q trivial rfl rfl (mv (v := I n) rfl) ?_
 refine cl trivial rfl (slIndex (Azs := Azs) (czs := czs) (zs := zs) (n := n) (w := _) (hzs := (hzs.up0 hs0))) ?_
 rintro _ w1 ⟨rfl, hs1'⟩
 have hs1 : SH w w1 [] [] := hs0.call0 hs1'
 clear hs1'
 refine q trivial rfl rfl (geq (k := .i64) (a := idxP (fun x => decide (n = x)) zs) (b := 0) rfl rfl) ?_
 refine q trivial rfl rfl (asg (v := .bool (decide ((0 : Int) ≤ (idxP (fun x => decide (n = x)) zs)))) rfl) ?_
 refine nl ?_
 refine nN ?_
 refine rt ?_
 refine fret (v := .bool (decide ((0 : Int) ≤ (idxP (fun x => decide (n = x)) zs)))) (.tmp .nil) rfl ?_
 have e1 : (decide ((0 : Int) ≤ (idxP (fun x => decide (n = x)) zs))) = (decide (n ∈ zs)) := by exact idxP_int n zs
 exact ⟨(congrArg (Value.bool) e1), hs1⟩

theorem l5Has {Azs : Option Addr} {czs : Nat} (zs : List Int) (n : Int) (w : World) (hzs : Sl w [] 1 Azs zs.length czs (zs.map I)) : Does Tryd.prog 33 [.slice Azs zs.length czs, I n] w (fun v w' => v = .bool (decide (n ∈ zs)) ∧ SH w w' [] []) := by
 refine fn_enter (N := 18) Tryd.func33 rfl (by kernel_rfl) rfl rfl rfl ?_
 have hs0 : SH w w [] [] := SH.refl w []
 have hzs_m : zs.length ≤ 9223372036854775807 := Nat.le_trans hzs.cap hzs.capMax
 refine sq ?_
 refine rg ?_
 refine q trivial rfl rfl (asg (v := .bool false) rfl) ?_
 refine nl ?_
 refine nN ?_
 refine sq ?_
 refine sq ?_
 refine rg ?_
 refine q trivial rfl rfl (asg (v := I 0) rfl) ?_
 refine nl ?_
 refine nN ?_
 refine bl ?_
 refine lp (σ := Nat) (fun (k : Nat) f w' => Has f [(0, .slice Azs zs.length czs), (1, I n), (5, I ((k : Nat) : Int))] ∧ (k ≤ zs.length) ∧ (n ∉ zs.take k) ∧ SH w w' [] []) (fun k => zs.length - k) 0 ⟨⟨rfl, rfl, rfl, trivial⟩, (by simp), (by simp), hs0⟩ ?_
 rintro k f w1 ⟨hf, hk, hn, hs1⟩
 obtain ⟨g1, rfl⟩ := has_upd hf
 clear hf
 refine sq ?_
 refine sq ?_
 refine rg ?_
 refine q trivial rfl rfl (mv (v := I ((k : Nat) : Int)) rfl) ?_
 refine q trivial rfl rfl (mv (v := .slice Azs zs.length czs) rfl) ?_
 refine q trivial rfl rfl (lnA (n := zs.length) sl23 rfl) ?_
 refine q trivial rfl rfl (lss (k := .i64) (a := ((k : Nat) : Int)) (b := ((zs.length : Nat) : Int)) rfl rfl) ?_
 refine nl ?_
 refine nN ?_
 refine cdd (p := ((k : Nat) : Int) < ((zs.length : Nat) : Int)) rfl (fun h1 => ?_) (fun h1 => ?_)
 · refine sk ?_
   refine nN ?_
   refine sq ?_
   refine bl ?_
   refine sq ?_
   refine rg ?_
   refine q trivial rfl rfl (mv (v := .slice Azs zs.length czs) rfl) ?_
   refine q trivial rfl rfl (mv (v := I ((k : Nat) : Int)) rfl) ?_
   refine ixw1 k sl23 rfl rfl hzs (by first | omega | (simp; done) | (simp; omega)) (getm I 0 (by first | omega | (simp; done) | (simp; omega))) trivial rfl (fun a1 ha1 => ?_)
   refine q trivial rfl rfl (lda (v := I (zs.getD k 0)) hs1 ha1 (fun _ h => h) rfl rfl one3) ?_
   refine q trivial rfl rfl (mv (v := I n) rfl) ?_
   refine q trivial rfl rfl (eqi (k := .i64) (a := zs.getD k 0) (b := n) rfl rfl) ?_
   refine nl ?_
   refine nN ?_
   refine cdd (p := (zs.getD k 0) = n) rfl (fun h2 => ?_) (fun h2 => ?_)
   · refine sq ?_
     refine rg ?_
     refine q trivial rfl rfl (asg (v := .bool true) rfl) ?_
     refine nl ?_
     refine nN ?_
     refine rt (bR (tR (tR (bR (tR ?_)))))
     refine fret (v := .bool true) (.tmp .nil) rfl ?_
     have e1 : true = (decide (n ∈ zs)) := by exact (decide_eq_true (has_yes (k := k) (by omega) (by omega))).symm
     exact ⟨(congrArg (Value.bool) e1), hs1⟩
   · refine sk ?_
     refine bN ?_
     refine nN ?_
     refine rg ?_
     refine q trivial rfl rfl (mv (v := I ((k : Nat) : Int)) rfl) ?_
     refine q trivial rfl rfl (add (a := ((k : Nat) : Int)) (b := 1) rfl rfl (by exact ⟨by omega, by omega⟩)) ?_
     refine q trivial rfl rfl (asg (v := I (((k : Nat) : Int) + 1)) rfl) ?_
     refine nl ?_
     refine nN ?_
     refine ⟨(k + 1), ⟨⟨rfl, rfl, rfl, trivial⟩, (by omega), (has_step (by omega) hn (by omega)), hs1⟩, ?_⟩
     omega
 · refine ex (tE (tE (bE ?_)))
   refine nN ?_
   refine sq ?_
   refine rg ?_
   refine q trivial rfl rfl (asg (v := .bool false) rfl) ?_
   refine nl ?_
   refine nN ?_
   refine rt ?_
   refine fret (v := .bool false) (.tmp .nil) rfl ?_
   have e2 : false = (decide (n ∈ zs)) := by exact (decide_eq_false (has_no (k := k) (by omega) hn)).symm
   exact ⟨(congrArg (Value.bool) e2), hs1⟩

theorem iAreMethods {Ams : Option Addr} {cms : Nat} (ms : List Int) (w : World) (hms : Sl w [] 1 Ams ms.length cms (ms.map I)) : Does Tryd.prog 27 [.slice Ams ms.length cms] w (fun v w' => v = .bool (methOk ms) ∧ SH w w' [] []) := by
 refine fn_enter (N := 26) Tryd.func27 rfl (by kernel_rfl) rfl rfl rfl ?_
 have hs0 : SH w w [] [] := SH.refl w []
 have hms_m : ms.length ≤ 9223372036854775807 := Nat.le_trans hms.cap hms.capMax
 refine sq ?_
 refine rg ?_
 refine q trivial rfl rfl (asg (v := .bool false) rfl) ?_
 refine nl ?_
 refine nN ?_
 refine sq ?_
 refine sq ?_
 refine rg ?_
 refine q trivial rfl rfl (mv (v := .slice Ams ms.length cms) rfl) ?_
 refine q trivial rfl rfl (lnA (n := ms.length) sl23 rfl) ?_
 refine q trivial rfl rfl (mv (v := I 0) rfl) ?_
 refine nl ?_
 refine nN ?_
 refine bl ?_
 refine lp (σ := Nat) (fun (k : Nat) f w' => Has f [(0, .slice Ams ms.length cms), (5, .slice Ams ms.length cms), (6, I ((ms.length : Nat) : Int)), (7, I ((k : Nat) : Int))] ∧ (k ≤ ms.length) ∧ (methT ms k) ∧ SH w w' [] []) (fun k => ms.length - k) 0 ⟨⟨rfl, rfl, rfl, rfl, trivial⟩, (by simp), (methT0 ms), hs0⟩ ?_
 rintro k f w1 ⟨hf, hk, ha, hs1⟩
 obtain ⟨g1, rfl⟩ := has_upd hf
 clear hf
 refine sq ?_
 refine rg ?_
 refine q trivial rfl rfl (lss (k := .i64) (a := ((k : Nat) : Int)) (b := ((ms.length : Nat) : Int)) rfl rfl) ?_
 refine nl ?_
 refine nN ?_
 refine sq ?_
 refine cdd (p := ((k : Nat) : Int) < ((ms.length : Nat) : Int)) rfl (fun h1 => ?_) (fun h1 => ?_)
 · refine sk ?_
   refine nN ?_
   refine sq ?_
   refine bl ?_
   refine sq ?_
   refine rg ?_
   refine q trivial rfl rfl (mv (v := I ((k : Nat) : Int)) rfl) ?_
   refine ixw1 k sl23 rfl rfl hms (by first | omega | (simp; done) | (simp; omega)) (getm I 0 (by first | omega | (simp; done) | (simp; omega))) trivial rfl (fun a1 ha1 => ?_)
   refine q trivial rfl rfl (lda (v := I (ms.getD k 0)) hs1 ha1 (fun _ h => h) rfl rfl one3) ?_
   refine q trivial rfl rfl (asg (v := I ((k : Nat) : Int)) rfl) ?_
   refine q trivial rfl rfl (asg (v := I (ms.getD k 0)) rfl) ?_
   refine nl ?_
   refine nN ?_
   refine sq ?_
   refine rg ?_
   refine q trivial rfl rfl (mv (v := I (ms.getD k 0)) rfl) ?_
   refine cl trivial rfl (iWithin (x := ms.getD k 0) (lo := 0) (hi := 254) (w := _)) ?_
   rintro _ w2 ⟨rfl, hs2'⟩
   have hs2 : SH w w2 [] [] := hs1.call0 hs2'
   clear hs2'
   refine q trivial rfl rfl (nd (p := 0 ≤ (ms.getD k 0) ∧ (ms.getD k 0) ≤ 254) rfl) ?_
   refine q trivial rfl rfl (mv (v := .bool (decide (¬ (0 ≤ (ms.getD k 0) ∧ (ms.getD k 0) ≤ 254)))) rfl) ?_
   refine spd (p := ¬ (0 ≤ (ms.getD k 0) ∧ (ms.getD k 0) ≤ 254)) 15 rfl (fun h2 => ?_) (fun h2 => ?_)
   · refine gk true rfl rfl rfl rfl rfl ?_
     refine gk true rfl rfl rfl rfl rfl ?_
     refine gk true rfl rfl rfl rfl rfl ?_
     refine gk true rfl rfl rfl rfl rfl ?_
     refine gk true rfl rfl rfl rfl rfl ?_
     refine q trivial rfl rfl (pt (v := .bool true) rfl rfl) ?_
     refine nl ?_
     refine nN ?_
     refine cdt rfl ?_
     refine sq ?_
     refine rg ?_
     refine q trivial rfl rfl (asg (v := .bool false) rfl) ?_
     refine nl ?_
     refine nN ?_
     refine rt (bR (tR (tR (bR (tR ?_)))))
     refine fret (v := .bool false) (.tmp .nil) rfl ?_
     have e1 : false = methOk ms := by first | exact (meth_bad1 (k := k) (by omega) (by assumption)).symm | exact (meth_bad2 (k := k) (by omega) (by assumption)).symm | exact meth_end (by omega) ha
     exact ⟨(congrArg (Value.bool) e1), hs2⟩
   · refine q ⟨_, rfl, rfl⟩ rfl rfl (mv (v := .slice Ams ms.length cms) rfl) ?_
     refine q ⟨_, rfl, rfl⟩ rfl rfl (mv (v := I ((k : Nat) : Int)) rfl) ?_
     refine q ⟨_, rfl, rfl⟩ rfl rfl (cuhm_ (zs := ms) k sl23 rfl rfl (by first | omega | (simp; done) | (simp; omega)) hms.cap) ?_
     refine q ⟨_, rfl, rfl⟩ rfl rfl (mv (v := I (ms.getD k 0)) rfl) ?_
     refine cl ⟨_, rfl, rfl⟩ rfl (slContains (Azs := Ams) (czs := cms) (zs := ms.take k) (n := ms.getD k 0) (w := _) (hzs := (Sl.cuthm (hms.up0 hs2) (by first | omega | (simp; done) | (simp; omega))))) ?_
     rintro _ w3 ⟨rfl, hs3'⟩
     have hs3 : SH w w3 [] [] := hs2.call0 hs3'
     clear hs3'
     refine q trivial rfl rfl (pf (v := .bool (decide ((ms.getD k 0) ∈ (ms.take k)))) rfl rfl) ?_
     refine nl ?_
     refine nN ?_
     refine cdd (p := (ms.getD k 0) ∈ (ms.take k)) rfl (fun h3 => ?_) (fun h3 => ?_)
     · refine sq ?_
       refine rg ?_
       refine q trivial rfl rfl (asg (v := .bool false) rfl) ?_
       refine nl ?_
       refine nN ?_
       refine rt (bR (tR (tR (bR (tR ?_)))))
       refine fret (v := .bool false) (.tmp .nil) rfl ?_
       have e2 : false = methOk ms := by first | exact (meth_bad1 (k := k) (by omega) (by assumption)).symm | exact (meth_bad2 (k := k) (by omega) (by assumption)).symm | exact meth_end (by omega) ha
       exact ⟨(congrArg (Value.bool) e2), hs3⟩
     · refine sk ?_
       refine bN ?_
       refine nN ?_
       refine rg ?_
       refine q trivial rfl rfl (add (a := ((k : Nat) : Int)) (b := 1) rfl rfl (by exact ⟨by omega, by omega⟩)) ?_
       refine q trivial rfl rfl (mv (v := I (((k : Nat) : Int) + 1)) rfl) ?_
       refine nl ?_
       refine nN ?_
       refine ⟨(k + 1), ⟨⟨rfl, rfl, rfl, rfl, trivial⟩, (by omega), (methT_step (by omega) ha (Decidable.not_not.1 (by assumption)) (by assumption)), hs3⟩, ?_⟩
       omega
 · refine ex (tE (tE (bE ?_)))
   refine nN ?_
   refine sq ?_
   refine rg ?_
   refine q trivial rfl rfl (mv (v := .slice Ams ms.length cms) rfl) ?_
   refine q trivial rfl rfl (lnA (n := ms.length) sl23 rfl) ?_
   refine cl trivial rfl (iWithin (x := ((ms.length : Nat) : Int)) (lo := 1) (hi := 8) (w := _)) ?_
   rintro _ w4 ⟨rfl, hs4'⟩
   have hs4 : SH w w4 [] [] := hs1.call0 hs4'
   clear hs4'
   refine q trivial rfl rfl (asg (v := .bool (decide (1 ≤ ((ms.length : Nat) : Int) ∧ ((ms.length : Nat) : Int) ≤ 8))) rfl) ?_
   refine nl ?_
   refine nN ?_
   refine rt ?_
   refine fret (v := .bool (decide (1 ≤ ((ms.length : Nat) : Int) ∧ ((ms.length : Nat) : Int) ≤ 8))) (.tmp .nil) rfl ?_
   have e3 : (decide (1 ≤ ((ms.length : Nat) : Int) ∧ ((ms.length : Nat) : Int) ≤ 8)) = methOk ms := by first | exact (meth_bad1 (k := k) (by omega) (by assumption)).symm | exact (meth_bad2 (k := k) (by omega) (by assumption)).symm | exact meth_end (by omega) ha
   exact ⟨(congrArg (Value.bool) e3), hs4⟩

theorem sL5Ok {Ams : Option Addr} {cms : Nat} (ms : List Int) (w : World) (hms : Sl w [] 1 Ams ms.length cms (ms.map I)) : Does Tryd.prog 31 [.slice Ams ms.length cms] w (fun v w' => v = .bool (methOk ms) ∧ SH w w' [] []) := by
 refine fn_enter (N := 29) Tryd.func31 rfl (by kernel_rfl) rfl rfl rfl ?_
 have hs0 : SH w w [] [] := SH.refl w []
 have hms_m : ms.length ≤ 9223372036854775807 := Nat.le_trans hms.cap hms.capMax
 refine sq ?_
 refine rg ?_
 refine q trivial rfl rfl (asg (v := .bool false) rfl) ?_
 refine nl ?_
 refine nN ?_
 refine sq ?_
 refine sq ?_
 refine rg ?_
 refine q trivial rfl rfl (asg (v := I 0) rfl) ?_
 refine nl ?_
 refine nN ?_
 refine bl ?_
 refine lp (σ := Nat) (fun (k : Nat) f w' => Has f [(0, .slice Ams ms.length cms), (3, I ((k : Nat) : Int))] ∧ (k ≤ ms.length) ∧ (methT ms k) ∧ SH w w' [] []) (fun k => ms.length - k) 0 ⟨⟨rfl, rfl, trivial⟩, (by simp), (methT0 ms), hs0⟩ ?_
 rintro k f w1 ⟨hf, hk, ha, hs1⟩
 obtain ⟨g1, rfl⟩ := has_upd hf
 clear hf
 refine sq ?_
 refine sq ?_
 refine rg ?_
 refine q trivial rfl rfl (mv (v := I ((k : Nat) : Int)) rfl) ?_
 refine q trivial rfl rfl (mv (v := .slice Ams ms.length cms) rfl) ?_
 refine q trivial rfl rfl (lnA (n := ms.length) sl23 rfl) ?_
 refine q trivial rfl rfl (lss (k := .i64) (a := ((k : Nat) : Int)) (b := ((ms.length : Nat) : Int)) rfl rfl) ?_
 refine nl ?_
 refine nN ?_
 refine cdd (p := ((k : Nat) : Int) < ((ms.length : Nat) : Int)) rfl (fun h1 => ?_) (fun h1 => ?_)
 · refine sk ?_
   refine nN ?_
   refine sq ?_
   refine bl ?_
   refine sq ?_
   refine rq (fun w' => SH w w' [] []) mixed (by kernel_rfl) hs1.drew ?_
   refine qq trivial rfl rfl (fun wq hsq => mv (v := .slice Ams ms.length cms) rfl) ?_
   refine qq trivial rfl rfl (fun wq hsq => mv (v := I ((k : Nat) : Int)) rfl) ?_
   refine ixq1 k sl23 rfl rfl hms (by first | omega | (simp; done) | (simp; omega)) (getm I 0 (by first | omega | (simp; done) | (simp; omega))) trivial rfl (fun a1 ha1 => ?_)
   refine qq trivial rfl rfl (fun wq hsq => lda (v := I (ms.getD k 0)) hsq ha1 (fun _ h => h) rfl rfl one3) ?_
   refine qc (.bool (decide (0 ≤ (ms.getD k 0) ∧ (ms.getD k 0) ≤ 254))) trivial rfl (fun wq hsq => (sIn (x := ms.getD k 0) (lo := 0) (hi := 254) (w := _)).mono (fun v w' h => ⟨h.1, by simpa using hsq.call0 h.2⟩)) ?_
   refine qq trivial rfl rfl (fun wq hsq => nd (p := 0 ≤ (ms.getD k 0) ∧ (ms.getD k 0) ≤ 254) rfl) ?_
   refine qq trivial rfl rfl (fun wq hsq => mv (v := .bool (decide (¬ (0 ≤ (ms.getD k 0) ∧ (ms.getD k 0) ≤ 254)))) rfl) ?_
   refine qspd (p := ¬ (0 ≤ (ms.getD k 0) ∧ (ms.getD k 0) ≤ 254)) 16 rfl (fun h2 => ?_) (fun h2 => ?_)
   · refine qk true rfl rfl rfl rfl rfl ?_
     refine qk true rfl rfl rfl rfl rfl ?_
     refine qk true rfl rfl rfl rfl rfl ?_
     refine qk true rfl rfl rfl rfl rfl ?_
     refine qk true rfl rfl rfl rfl rfl ?_
     refine qk true rfl rfl rfl rfl rfl ?_
     refine qk true rfl rfl rfl rfl rfl ?_
     refine qk true rfl rfl rfl rfl rfl ?_
     refine qq trivial rfl rfl (fun wq hsq => pt (v := .bool true) rfl rfl) ?_
     refine qn (fun w2 hs2 => ?_)
     refine nN ?_
     refine cdt rfl ?_
     refine sq ?_
     refine rg ?_
     refine q trivial rfl rfl (asg (v := .bool false) rfl) ?_
     refine nl ?_
     refine nN ?_
     refine rt (bR (tR (tR (bR (tR ?_)))))
     refine fret (v := .bool false) (.tmp .nil) rfl ?_
     have e1 : false = methOk ms := by first | exact (meth_bad1 (k := k) (by omega) (by assumption)).symm | exact (meth_bad2 (k := k) (by omega) (by assumption)).symm | exact meth_end (by omega) ha
     exact ⟨(congrArg (Value.bool) e1), hs2⟩
   · refine qq ⟨_, rfl, rfl⟩ rfl rfl (fun wq hsq => mv (v := .slice Ams ms.length cms) rfl) ?_
     refine qq ⟨_, rfl, rfl⟩ rfl rfl (fun wq hsq => mv (v := I ((k : Nat) : Int)) rfl) ?_
     refine qq ⟨_, rfl, rfl⟩ rfl rfl (fun wq hsq => cuhm_ (zs := ms) k sl23 rfl rfl (by first | omega | (simp; done) | (simp; omega)) hms.cap) ?_
     refine qq ⟨_, rfl, rfl⟩ rfl rfl (fun wq hsq => mv (v := .slice Ams ms.length cms) rfl) ?_
     refine qq ⟨_, rfl, rfl⟩ rfl rfl (fun wq hsq => mv (v := I ((k : Nat) : Int)) rfl) ?_
     refine ixq1 k sl23 rfl rfl hms (by first | omega | (simp; done) | (simp; omega)) (getm I 0 (by first | omega | (simp; done) | (simp; omega))) ⟨_, rfl, rfl⟩ rfl (fun a2 ha2 => ?_)
     refine qq ⟨_, rfl, rfl⟩ rfl rfl (fun wq hsq => lda (v := I (ms.getD k 0)) hsq ha2 (fun _ h => h) rfl rfl one3) ?_
     refine qc (.bool (decide ((ms.getD k 0) ∈ (ms.take k)))) ⟨_, rfl, rfl⟩ rfl (fun wq hsq => (l5Has (Azs := Ams) (czs := cms) (zs := ms.take k) (n := ms.getD k 0) (w := _) (hzs := (Sl.cuthm (hms.up0 hsq) (by first | omega | (simp; done) | (simp; omega))))).mono (fun v w' h => ⟨h.1, by simpa using hsq.call0 h.2⟩)) ?_
     refine qq trivial rfl rfl (fun wq hsq => pf (v := .bool (decide ((ms.getD k 0) ∈ (ms.take k)))) rfl rfl) ?_
     refine qn (fun w3 hs3 => ?_)
     refine nN ?_
     refine cdd (p := (ms.getD k 0) ∈ (ms.take k)) rfl (fun h3 => ?_) (fun h3 => ?_)
     · refine sq ?_
       refine rg ?_
       refine q trivial rfl rfl (asg (v := .bool false) rfl) ?_
       refine nl ?_
       refine nN ?_
       refine rt (bR (tR (tR (bR (tR ?_)))))
       refine fret (v := .bool false) (.tmp .nil) rfl ?_
       have e2 : false = methOk ms := by first | exact (meth_bad1 (k := k) (by omega) (by assumption)).symm | exact (meth_bad2 (k := k) (by omega) (by assumption)).symm | exact meth_end (by omega) ha
       exact ⟨(congrArg (Value.bool) e2), hs3⟩
     · refine sk ?_
       refine bN ?_
       refine nN ?_
       refine rg ?_
       refine q trivial rfl rfl (mv (v := I ((k : Nat) : Int)) rfl) ?_
       refine q trivial rfl rfl (add (a := ((k : Nat) : Int)) (b := 1) rfl rfl (by exact ⟨by omega, by omega⟩)) ?_
       refine q trivial rfl rfl (asg (v := I (((k : Nat) : Int) + 1)) rfl) ?_
       refine nl ?_
       refine nN ?_
       refine ⟨(k + 1), ⟨⟨rfl, rfl, trivial⟩, (by omega), (methT_step (by omega) ha (Decidable.not_not.1 (by assumption)) (by assumption)), hs3⟩, ?_⟩
       omega
 · refine ex (tE (tE (bE ?_)))
   refine nN ?_
   refine sq ?_
   refine rg ?_
   refine q trivial rfl rfl (mv (v := .slice Ams ms.length cms) rfl) ?_
   refine q trivial rfl rfl (lnA (n := ms.length) sl23 rfl) ?_
   refine cl trivial rfl (sIn (x := ((ms.length : Nat) : Int)) (lo := 1) (hi := 8) (w := _)) ?_
   rintro _ w4 ⟨rfl, hs4'⟩
   have hs4 : SH w w4 [] [] := hs1.call0 hs4'
   clear hs4'
   refine q trivial rfl rfl (asg (v := .bool (decide (1 ≤ ((ms.length : Nat) : Int) ∧ ((ms.length : Nat) : Int) ≤ 8))) rfl) ?_
   refine nl ?_
   refine nN ?_
   refine rt ?_
   refine fret (v := .bool (decide (1 ≤ ((ms.length : Nat) : Int) ∧ ((ms.length : Nat) : Int) ≤ 8))) (.tmp .nil) rfl ?_
   have e3 : (decide (1 ≤ ((ms.length : Nat) : Int) ∧ ((ms.length : Nat) : Int) ≤ 8)) = methOk ms := by first | exact (meth_bad1 (k := k) (by omega) (by assumption)).symm | exact (meth_bad2 (k := k) (by omega) (by assumption)).symm | exact meth_end (by omega) ha
   exact ⟨(congrArg (Value.bool) e3), hs4⟩

theorem iAddressValid (ak : Int) {Aaq : Option Addr} {caq : Nat} (aq : List Int) (an : List UInt8) (apt : Int) (w : World) (haq : Sl w [] 1 Aaq aq.length caq (aq.map I)) (han_n : an.length ≤ 1099511627776) : Does Tryd.prog 28 [.agg #[I ak, .slice Aaq aq.length caq, Str an, I apt]] w (fun v w' => v = .bool (addrOk ak aq an apt) ∧ SH w w' [] []) := by
 refine fn_enter (N := 36) Tryd.func28 rfl (by kernel_rfl) rfl rfl rfl ?_
 have hs0 : SH w w [] [] := SH.refl w []
 have haq_m : aq.length ≤ 9223372036854775807 := Nat.le_trans haq.cap haq.capMax
 refine sq ?_
 refine rg ?_
 refine bx (v := .agg #[I ak, .slice Aaq aq.length caq, Str an, I apt]) (cs := [I ak, .slice Aaq aq.length caq, Str an, I apt]) hs0 rfl rfl trivial rfl (fun b1 w1 (hs1 : SH w w1 [] [.blk b1 27 [I ak, .slice Aaq aq.length caq, Str an, I apt]]) => ?_)
 refine q trivial rfl rfl (asg (v := .bool false) rfl) ?_
 refine nl ?_
 refine nN ?_
 refine sq ?_
 refine sq ?_
 refine rg ?_
 refine q trivial rfl rfl (fa 0 fo27_0 rfl) ?_
 refine q trivial rfl rfl (ld (v := I ak) hs1 0 rfl rfl rfl one3) ?_
 refine nl ?_
 refine nN ?_
 refine bl ?_
 refine sq ?_
 refine rg ?_
 refine q trivial rfl rfl (eqi (k := .i64) (a := ak) (b := 1) rfl rfl) ?_
 refine q trivial rfl rfl (asg (v := .bool (decide (ak = 1))) rfl) ?_
 refine nl ?_
 refine nN ?_
 refine cdd (p := ak = 1) rfl (fun h1 => ?_) (fun h1 => ?_)
 · refine sq ?_
   refine rg ?_
   refine q trivial rfl rfl (fa 1 fo27_1 rfl) ?_
   refine q trivial rfl rfl (ld (v := .slice Aaq aq.length caq) hs1 0 rfl rfl rfl one23) ?_
   refine cl trivial rfl (iQuadValid (Aqs := Aaq) (cqs := caq) (qs := aq) (w := _) (hqs := (haq.up0 hs1))) ?_
   rintro _ w2 ⟨rfl, hs2'⟩
   have hs2 : SH w w2 [] [.blk b1 27 [I ak, .slice Aaq aq.length caq, Str an, I apt]] := hs1.call0 hs2'
   clear hs2'
   refine q trivial rfl rfl (mv (v := .bool (quadOk aq)) rfl) ?_
   refine spl (b := quadOk aq) 10 rfl (fun h2 => ?_) (fun h2 => ?_)
   · refine q ⟨_, rfl, rfl⟩ rfl rfl (fa 2 fo27_2 rfl) ?_
     refine q ⟨_, rfl, rfl⟩ rfl rfl (ld (v := Str an) hs2 0 rfl rfl rfl one9) ?_
     refine q ⟨_, rfl, rfl⟩ rfl rfl (eqs (l := an) (m := []) rfl rfl) ?_
     refine q trivial rfl rfl (pt (v := .bool (decide (an = []))) rfl rfl) ?_
     refine q trivial rfl rfl (mv (v := .bool (decide (an = []))) rfl) ?_
     refine spd (p := an = []) 15 rfl (fun h3 => ?_) (fun h3 => ?_)
     · refine q ⟨_, rfl, rfl⟩ rfl rfl (fa 3 fo27_3 rfl) ?_
       refine q ⟨_, rfl, rfl⟩ rfl rfl (ld (v := I apt) hs2 0 rfl rfl rfl one3) ?_
       refine cl ⟨_, rfl, rfl⟩ rfl (isPort (x := apt) (w := _)) ?_
       rintro _ w3 ⟨rfl, hs3'⟩
       have hs3 : SH w w3 [] [.blk b1 27 [I ak, .slice Aaq aq.length caq, Str an, I apt]] := hs2.call0 hs3'
       clear hs3'
       refine q trivial rfl rfl (pt (v := .bool (decide (0 ≤ apt ∧ apt ≤ 65535))) rfl rfl) ?_
       refine q trivial rfl rfl (asg (v := .bool (decide (0 ≤ apt ∧ apt ≤ 65535))) rfl) ?_
       refine nl ?_
       refine nN ?_
       refine rt (bR (tR ?_))
       refine fret (v := .bool (decide (0 ≤ apt ∧ apt ≤ 65535))) (.tmp .nil) rfl ?_
       have e1 : (decide (0 ≤ apt ∧ apt ≤ 65535)) = addrOk ak aq an apt := by first | (rw [addr_is1 (by assumption)]; simp [h1, h2, h3]; done) | (rw [addr_is3 (by assumption)]; simp [h1, h2, h3]; done) | (rw [addr_is3 (by assumption)]; have hq0 : aq = [] := List.eq_nil_of_length_eq_zero (by omega); simp [hq0, h1, h2, h3]; done) | (rw [addr_is3 (by assumption)]; have hq0 : ¬ aq = [] := fun he => absurd (by rw [he]; rfl : ((aq.length : Nat) : Int) = 0) (by assumption); simp [hq0, h1, h2, h3]; done) | (rw [addr_is1 (by assumption)]; have hp0 : 0 ≤ apt ∧ apt ≤ 65535 := Decidable.not_not.1 (by assumption); simp [hp0.1, hp0.2, h1, h2, h3]; done) | (rw [addr_is3 (by assumption)]; have hp0 : 0 ≤ apt ∧ apt ≤ 65535 := Decidable.not_not.1 (by assumption); simp [hp0.1, hp0.2, h1, h2, h3]; done) | exact (addr_port _ _ (by assumption)).symm | exact (addr_no _ _ _ (by assumption) (by assumption)).symm
       exact ⟨(congrArg (Value.bool) e1), (hs3.pick [] rfl (by decide))⟩
     · refine gk false rfl rfl rfl rfl rfl ?_
       refine gk false rfl rfl rfl rfl rfl ?_
       refine gk false rfl rfl rfl rfl rfl ?_
       refine q trivial rfl rfl (pf (v := .bool false) rfl rfl) ?_
       refine q trivial rfl rfl (asg (v := .bool false) rfl) ?_
       refine nl ?_
       refine nN ?_
       refine rt (bR (tR ?_))
       refine fret (v := .bool false) (.tmp .nil) rfl ?_
       have e2 : false = addrOk ak aq an apt := by first | (rw [addr_is1 (by assumption)]; simp [h1, h2, h3]; done) | (rw [addr_is3 (by assumption)]; simp [h1, h2, h3]; done) | (rw [addr_is3 (by assumption)]; have hq0 : aq = [] := List.eq_nil_of_length_eq_zero (by omega); simp [hq0, h1, h2, h3]; done) | (rw [addr_is3 (by assumption)]; have hq0 : ¬ aq = [] := fun he => absurd (by rw [he]; rfl : ((aq.length : Nat) : Int) = 0) (by assumption); simp [hq0, h1, h2, h3]; done) | (rw [addr_is1 (by assumption)]; have hp0 : 0 ≤ apt ∧ apt ≤ 65535 := Decidable.not_not.1 (by assumption); simp [hp0.1, hp0.2, h1, h2, h3]; done) | (rw [addr_is3 (by assumption)]; have hp0 : 0 ≤ apt ∧ apt ≤ 65535 := Decidable.not_not.1 (by assumption); simp [hp0.1, hp0.2, h1, h2, h3]; done) | exact (addr_port _ _ (by assumption)).symm | exact (addr_no _ _ _ (by assumption) (by assumption)).symm
       exact ⟨(congrArg (Value.bool) e2), (hs2.pick [] rfl (by decide))⟩
   · refine gk false rfl rfl rfl rfl rfl ?_
     refine gk false rfl rfl rfl rfl rfl ?_
     refine gk false rfl rfl rfl rfl rfl ?_
     refine q trivial rfl rfl (pf (v := .bool false) rfl rfl) ?_
     refine q trivial rfl rfl (mv (v := .bool false) rfl) ?_
     refine gk false rfl rfl rfl rfl rfl ?_
     refine gk false rfl rfl rfl rfl rfl ?_
     refine gk false rfl rfl rfl rfl rfl ?_
     refine q trivial rfl rfl (pf (v := .bool false) rfl rfl) ?_
     refine q trivial rfl rfl (asg (v := .bool false) rfl) ?_
     refine nl ?_
     refine nN ?_
     refine rt (bR (tR ?_))
     refine fret (v := .bool false) (.tmp .nil) rfl ?_
     have e3 : false = addrOk ak aq an apt := by first | (rw [addr_is1 (by assumption)]; simp [h1, h2]; done) | (rw [addr_is3 (by assumption)]; simp [h1, h2]; done) | (rw [addr_is3 (by assumption)]; have hq0 : aq = [] := List.eq_nil_of_length_eq_zero (by omega); simp [hq0, h1, h2]; done) | (rw [addr_is3 (by assumption)]; have hq0 : ¬ aq = [] := fun he => absurd (by rw [he]; rfl : ((aq.length : Nat) : Int) = 0) (by assumption); simp [hq0, h1, h2]; done) | (rw [addr_is1 (by assumption)]; have hp0 : 0 ≤ apt ∧ apt ≤ 65535 := Decidable.not_not.1 (by assumption); simp [hp0.1, hp0.2, h1, h2]; done) | (rw [addr_is3 (by assumption)]; have hp0 : 0 ≤ apt ∧ apt ≤ 65535 := Decidable.not_not.1 (by assumption); simp [hp0.1, hp0.2, h1, h2]; done) | exact (addr_port _ _ (by assumption)).symm | exact (addr_no _ _ _ (by assumption) (by assumption)).symm
     exact ⟨(congrArg (Value.bool) e3), (hs2.pick [] rfl (by decide))⟩
 · refine sq ?_
   refine rg ?_
   refine q trivial rfl rfl (eqi (k := .i64) (a := ak) (b := 3) rfl rfl) ?_
   refine q trivial rfl rfl (asg (v := .bool (decide (ak = 3))) rfl) ?_
   refine nl ?_
   refine nN ?_
   refine cdd (p := ak = 3) rfl (fun h4 => ?_) (fun h4 => ?_)
   · refine sq ?_
     refine rg ?_
     refine q trivial rfl rfl (fa 2 fo27_2 rfl) ?_
     refine q trivial rfl rfl (ld (v := Str an) hs1 0 rfl rfl rfl one9) ?_
     refine cl trivial rfl (iNameValid (l := an) (w := _) (hl_n := (by first | omega | (simp; done) | (simp; omega)))) ?_
     rintro _ w4 ⟨rfl, hs4'⟩
     have hs4 : SH w w4 [] [.blk b1 27 [I ak, .slice Aaq aq.length caq, Str an, I apt]] := hs1.call0 hs4'
     clear hs4'
     refine q trivial rfl rfl (mv (v := .bool (nameOk an)) rfl) ?_
     refine spl (b := nameOk an) 25 rfl (fun h5 => ?_) (fun h5 => ?_)
     · refine q ⟨_, rfl, rfl⟩ rfl rfl (fa 1 fo27_1 rfl) ?_
       refine q ⟨_, rfl, rfl⟩ rfl rfl (ld (v := .slice Aaq aq.length caq) hs4 0 rfl rfl rfl one23) ?_
       refine q ⟨_, rfl, rfl⟩ rfl rfl (lnA (n := aq.length) sl23 rfl) ?_
       refine q ⟨_, rfl, rfl⟩ rfl rfl (eqi (k := .i64) (a := ((aq.length : Nat) : Int)) (b := 0) rfl rfl) ?_
       refine q trivial rfl rfl (pt (v := .bool (decide (((aq.length : Nat) : Int) = 0))) rfl rfl) ?_
       refine q trivial rfl rfl (mv (v := .bool (decide (((aq.length : Nat) : Int) = 0))) rfl) ?_
       refine spd (p := ((aq.length : Nat) : Int) = 0) 31 rfl (fun h6 => ?_) (fun h6 => ?_)
       · refine q ⟨_, rfl, rfl⟩ rfl rfl (fa 3 fo27_3 rfl) ?_
         refine q ⟨_, rfl, rfl⟩ rfl rfl (ld (v := I apt) hs4 0 rfl rfl rfl one3) ?_
         refine cl ⟨_, rfl, rfl⟩ rfl (isPort (x := apt) (w := _)) ?_
         rintro _ w5 ⟨rfl, hs5'⟩
         have hs5 : SH w w5 [] [.blk b1 27 [I ak, .slice Aaq aq.length caq, Str an, I apt]] := hs4.call0 hs5'
         clear hs5'
         refine q trivial rfl rfl (pt (v := .bool (decide (0 ≤ apt ∧ apt ≤ 65535))) rfl rfl) ?_
         refine q trivial rfl rfl (asg (v := .bool (decide (0 ≤ apt ∧ apt ≤ 65535))) rfl) ?_
         refine nl ?_
         refine nN ?_
         refine rt (bR (tR ?_))
         refine fret (v := .bool (decide (0 ≤ apt ∧ apt ≤ 65535))) (.tmp .nil) rfl ?_
         have e4 : (decide (0 ≤ apt ∧ apt ≤ 65535)) = addrOk ak aq an apt := by first | (rw [addr_is1 (by assumption)]; simp [h1, h4, h5, h6]; done) | (rw [addr_is3 (by assumption)]; simp [h1, h4, h5, h6]; done) | (rw [addr_is3 (by assumption)]; have hq0 : aq = [] := List.eq_nil_of_length_eq_zero (by omega); simp [hq0, h1, h4, h5, h6]; done) | (rw [addr_is3 (by assumption)]; have hq0 : ¬ aq = [] := fun he => absurd (by rw [he]; rfl : ((aq.length : Nat) : Int) = 0) (by assumption); simp [hq0, h1, h4, h5, h6]; done) | (rw [addr_is1 (by assumption)]; have hp0 : 0 ≤ apt ∧ apt ≤ 65535 := Decidable.not_not.1 (by assumption); simp [hp0.1, hp0.2, h1, h4, h5, h6]; done) | (rw [addr_is3 (by assumption)]; have hp0 : 0 ≤ apt ∧ apt ≤ 65535 := Decidable.not_not.1 (by assumption); simp [hp0.1, hp0.2, h1, h4, h5, h6]; done) | exact (addr_port _ _ (by assumption)).symm | exact (addr_no _ _ _ (by assumption) (by assumption)).symm
         exact ⟨(congrArg (Value.bool) e4), (hs5.pick [] rfl (by decide))⟩
       · refine gk false rfl rfl rfl rfl rfl ?_
         refine gk false rfl rfl rfl rfl rfl ?_
         refine gk false rfl rfl rfl rfl rfl ?_
         refine q trivial rfl rfl (pf (v := .bool false) rfl rfl) ?_
         refine q trivial rfl rfl (asg (v := .bool false) rfl) ?_
         refine nl ?_
         refine nN ?_
         refine rt (bR (tR ?_))
         refine fret (v := .bool false) (.tmp .nil) rfl ?_
         have e5 : false = addrOk ak aq an apt := by first | (rw [addr_is1 (by assumption)]; simp [h1, h4, h5, h6]; done) | (rw [addr_is3 (by assumption)]; simp [h1, h4, h5, h6]; done) | (rw [addr_is3 (by assumption)]; have hq0 : aq = [] := List.eq_nil_of_length_eq_zero (by omega); simp [hq0, h1, h4, h5, h6]; done) | (rw [addr_is3 (by assumption)]; have hq0 : ¬ aq = [] := fun he => absurd (by rw [he]; rfl : ((aq.length : Nat) : Int) = 0) (by assumption); simp [hq0, h1, h4, h5, h6]; done) | (rw [addr_is1 (by assumption)]; have hp0 : 0 ≤ apt ∧ apt ≤ 65535 := Decidable.not_not.1 (by assumption); simp [hp0.1, hp0.2, h1, h4, h5, h6]; done) | (rw [addr_is3 (by assumption)]; have hp0 : 0 ≤ apt ∧ apt ≤ 65535 := Decidable.not_not.1 (by assumption); simp [hp0.1, hp0.2, h1, h4, h5, h6]; done) | exact (addr_port _ _ (by assumption)).symm | exact (addr_no _ _ _ (by assumption) (by assumption)).symm
         exact ⟨(congrArg (Value.bool) e5), (hs4.pick [] rfl (by decide))⟩
     · refine gk false rfl rfl rfl rfl rfl ?_
       refine gk false rfl rfl rfl rfl rfl ?_
       refine gk false rfl rfl rfl rfl rfl ?_
       refine gk false rfl rfl rfl rfl rfl ?_
       refine q trivial rfl rfl (pf (v := .bool false) rfl rfl) ?_
       refine q trivial rfl rfl (mv (v := .bool false) rfl) ?_
       refine gk false rfl rfl rfl rfl rfl ?_
       refine gk false rfl rfl rfl rfl rfl ?_
       refine gk false rfl rfl rfl rfl rfl ?_
       refine q trivial rfl rfl (pf (v := .bool false) rfl rfl) ?_
       refine q trivial rfl rfl (asg (v := .bool false) rfl) ?_
       refine nl ?_
       refine nN ?_
       refine rt (bR (tR ?_))
       refine fret (v := .bool false) (.tmp .nil) rfl ?_
       have e6 : false = addrOk ak aq an apt := by first | (rw [addr_is1 (by assumption)]; simp [h1, h4, h5]; done) | (rw [addr_is3 (by assumption)]; simp [h1, h4, h5]; done) | (rw [addr_is3 (by assumption)]; have hq0 : aq = [] := List.eq_nil_of_length_eq_zero (by omega); simp [hq0, h1, h4, h5]; done) | (rw [addr_is3 (by assumption)]; have hq0 : ¬ aq = [] := fun he => absurd (by rw [he]; rfl : ((aq.length : Nat) : Int) = 0) (by assumption); simp [hq0, h1, h4, h5]; done) | (rw [addr_is1 (by assumption)]; have hp0 : 0 ≤ apt ∧ apt ≤ 65535 := Decidable.not_not.1 (by assumption); simp [hp0.1, hp0.2, h1, h4, h5]; done) | (rw [addr_is3 (by assumption)]; have hp0 : 0 ≤ apt ∧ apt ≤ 65535 := Decidable.not_not.1 (by assumption); simp [hp0.1, hp0.2, h1, h4, h5]; done) | exact (addr_port _ _ (by assumption)).symm | exact (addr_no _ _ _ (by assumption) (by assumption)).symm
       exact ⟨(congrArg (Value.bool) e6), (hs4.pick [] rfl (by decide))⟩
   · refine sk ?_
     refine bN ?_
     refine nN ?_
     refine sq ?_
     refine rg ?_
     refine q trivial rfl rfl (asg (v := .bool false) rfl) ?_
     refine nl ?_
     refine nN ?_
     refine rt ?_
     refine fret (v := .bool false) (.tmp .nil) rfl ?_
     have e7 : false = addrOk ak aq an apt := by first | (rw [addr_is1 (by assumption)]; simp [h1, h4]; done) | (rw [addr_is3 (by assumption)]; simp [h1, h4]; done) | (rw [addr_is3 (by assumption)]; have hq0 : aq = [] := List.eq_nil_of_length_eq_zero (by omega); simp [hq0, h1, h4]; done) | (rw [addr_is3 (by assumption)]; have hq0 : ¬ aq = [] := fun he => absurd (by rw [he]; rfl : ((aq.length : Nat) : Int) = 0) (by assumption); simp [hq0, h1, h4]; done) | (rw [addr_is1 (by assumption)]; have hp0 : 0 ≤ apt ∧ apt ≤ 65535 := Decidable.not_not.1 (by assumption); simp [hp0.1, hp0.2, h1, h4]; done) | (rw [addr_is3 (by assumption)]; have hp0 : 0 ≤ apt ∧ apt ≤ 65535 := Decidable.not_not.1 (by assumption); simp [hp0.1, hp0.2, h1, h4]; done) | exact (addr_port _ _ (by assumption)).symm | exact (addr_no _ _ _ (by assumption) (by assumption)).symm
     exact ⟨(congrArg (Value.bool) e7), (hs1.pick [] rfl (by decide))⟩

theorem sAddressValid (ak : Int) {Aaq : Option Addr} {caq : Nat} (aq : List Int) (an : List UInt8) (apt : Int) (w : World) (haq : Sl w [] 1 Aaq aq.length caq (aq.map I)) (han_n : an.length ≤ 1099511627776) : Does Tryd.prog 32 [.agg #[I ak, .slice Aaq aq.length caq, Str an, I apt]] w (fun v w' => v = .bool (addrOk ak aq an apt) ∧ SH w w' [] []) := by
 refine fn_enter (N := 30) Tryd.func32 rfl (by kernel_rfl) rfl rfl rfl ?_
 have hs0 : SH w w [] [] := SH.refl w []
 have haq_m : aq.length ≤ 9223372036854775807 := Nat.le_trans haq.cap haq.capMax
 refine sq ?_
 refine rg ?_
 refine bx (v := .agg #[I ak, .slice Aaq aq.length caq, Str an, I apt]) (cs := [I ak, .slice Aaq aq.length caq, Str an, I apt]) hs0 rfl rfl trivial rfl (fun b1 w1 (hs1 : SH w w1 [] [.blk b1 27 [I ak, .slice Aaq aq.length caq, Str an, I apt]]) => ?_)
 refine q trivial rfl rfl (asg (v := .bool false) rfl) ?_
 refine nl ?_
 refine nN ?_
 refine sq ?_
 refine sq ?_
 refine rg ?_
 refine q trivial rfl rfl (fa 3 fo27_3 rfl) ?_
 refine q trivial rfl rfl (ld (v := I apt) hs1 0 rfl rfl rfl one3) ?_
 refine cl trivial rfl (sIn (x := apt) (lo := 0) (hi := 65535) (w := _)) ?_
 rintro _ w2 ⟨rfl, hs2'⟩
 have hs2 : SH w w2 [] [.blk b1 27 [I ak, .slice Aaq aq.length caq, Str an, I apt]] := hs1.call0 hs2'
 clear hs2'
 refine q trivial rfl rfl (nd (p := 0 ≤ apt ∧ apt ≤ 65535) rfl) ?_
 refine nl ?_
 refine nN ?_
 refine cdd (p := ¬ (0 ≤ apt ∧ apt ≤ 65535)) rfl (fun h1 => ?_) (fun h1 => ?_)
 · refine sq ?_
   refine rg ?_
   refine q trivial rfl rfl (asg (v := .bool false) rfl) ?_
   refine nl ?_
   refine nN ?_
   refine rt (tR ?_)
   refine fret (v := .bool false) (.tmp .nil) rfl ?_
   have e1 : false = addrOk ak aq an apt := by first | (rw [addr_is1 (by assumption)]; simp [h1]; done) | (rw [addr_is3 (by assumption)]; simp [h1]; done) | (rw [addr_is3 (by assumption)]; have hq0 : aq = [] := List.eq_nil_of_length_eq_zero (by omega); simp [hq0, h1]; done) | (rw [addr_is3 (by assumption)]; have hq0 : ¬ aq = [] := fun he => absurd (by rw [he]; rfl : ((aq.length : Nat) : Int) = 0) (by assumption); simp [hq0, h1]; done) | (rw [addr_is1 (by assumption)]; have hp0 : 0 ≤ apt ∧ apt ≤ 65535 := Decidable.not_not.1 (by assumption); simp [hp0.1, hp0.2, h1]; done) | (rw [addr_is3 (by assumption)]; have hp0 : 0 ≤ apt ∧ apt ≤ 65535 := Decidable.not_not.1 (by assumption); simp [hp0.1, hp0.2, h1]; done) | exact (addr_port _ _ (by assumption)).symm | exact (addr_no _ _ _ (by assumption) (by assumption)).symm
   exact ⟨(congrArg (Value.bool) e1), (hs2.pick [] rfl (by decide))⟩
 · refine sk ?_
   refine nN ?_
   refine sq ?_
   refine sq ?_
   refine rg ?_
   refine q trivial rfl rfl (fa 0 fo27_0 rfl) ?_
   refine q trivial rfl rfl (ld (v := I ak) hs2 0 rfl rfl rfl one3) ?_
   refine nl ?_
   refine nN ?_
   refine bl ?_
   refine sq ?_
   refine rg ?_
   refine q trivial rfl rfl (eqi (k := .i64) (a := ak) (b := 1) rfl rfl) ?_
   refine q trivial rfl rfl (asg (v := .bool (decide (ak = 1))) rfl) ?_
   refine nl ?_
   refine nN ?_
   refine cdd (p := ak = 1) rfl (fun h2 => ?_) (fun h2 => ?_)
   · refine sq ?_
     refine rg ?_
     refine q trivial rfl rfl (fa 1 fo27_1 rfl) ?_
     refine q trivial rfl rfl (ld (v := .slice Aaq aq.length caq) hs2 0 rfl rfl rfl one23) ?_
     refine cl trivial rfl (sQuadValid (Aqs := Aaq) (cqs := caq) (qs := aq) (w := _) (hqs := (haq.up0 hs2))) ?_
     rintro _ w3 ⟨rfl, hs3'⟩
     have hs3 : SH w w3 [] [.blk b1 27 [I ak, .slice Aaq aq.length caq, Str an, I apt]] := hs2.call0 hs3'
     clear hs3'
     refine q trivial rfl rfl (mv (v := .bool (quadOk aq)) rfl) ?_
     refine spl (b := quadOk aq) 14 rfl (fun h3 => ?_) (fun h3 => ?_)
     · refine q ⟨_, rfl, rfl⟩ rfl rfl (fa 2 fo27_2 rfl) ?_
       refine q ⟨_, rfl, rfl⟩ rfl rfl (ld (v := Str an) hs3 0 rfl rfl rfl one9) ?_
       refine q ⟨_, rfl, rfl⟩ rfl rfl (eqs (l := an) (m := []) rfl rfl) ?_
       refine q trivial rfl rfl (pt (v := .bool (decide (an = []))) rfl rfl) ?_
       refine q trivial rfl rfl (asg (v := .bool (decide (an = []))) rfl) ?_
       refine nl ?_
       refine nN ?_
       refine rt (bR (tR ?_))
       refine fret (v := .bool (decide (an = []))) (.tmp .nil) rfl ?_
       have e2 : (decide (an = [])) = addrOk ak aq an apt := by first | (rw [addr_is1 (by assumption)]; simp [h1, h2, h3]; done) | (rw [addr_is3 (by assumption)]; simp [h1, h2, h3]; done) | (rw [addr_is3 (by assumption)]; have hq0 : aq = [] := List.eq_nil_of_length_eq_zero (by omega); simp [hq0, h1, h2, h3]; done) | (rw [addr_is3 (by assumption)]; have hq0 : ¬ aq = [] := fun he => absurd (by rw [he]; rfl : ((aq.length : Nat) : Int) = 0) (by assumption); simp [hq0, h1, h2, h3]; done) | (rw [addr_is1 (by assumption)]; have hp0 : 0 ≤ apt ∧ apt ≤ 65535 := Decidable.not_not.1 (by assumption); simp [hp0.1, hp0.2, h1, h2, h3]; done) | (rw [addr_is3 (by assumption)]; have hp0 : 0 ≤ apt ∧ apt ≤ 65535 := Decidable.not_not.1 (by assumption); simp [hp0.1, hp0.2, h1, h2, h3]; done) | exact (addr_port _ _ (by assumption)).symm | exact (addr_no _ _ _ (by assumption) (by assumption)).symm
       exact ⟨(congrArg (Value.bool) e2), (hs3.pick [] rfl (by decide))⟩
     · refine gk false rfl rfl rfl rfl rfl ?_
       refine gk false rfl rfl rfl rfl rfl ?_
       refine gk false rfl rfl rfl rfl rfl ?_
       refine q trivial rfl rfl (pf (v := .bool false) rfl rfl) ?_
       refine q trivial rfl rfl (asg (v := .bool false) rfl) ?_
       refine nl ?_
       refine nN ?_
       refine rt (bR (tR ?_))
       refine fret (v := .bool false) (.tmp .nil) rfl ?_
       have e3 : false = addrOk ak aq an apt := by first | (rw [addr_is1 (by assumption)]; simp [h1, h2, h3]; done) | (rw [addr_is3 (by assumption)]; simp [h1, h2, h3]; done) | (rw [addr_is3 (by assumption)]; have hq0 : aq = [] := List.eq_nil_of_length_eq_zero (by omega); simp [hq0, h1, h2, h3]; done) | (rw [addr_is3 (by assumption)]; have hq0 : ¬ aq = [] := fun he => absurd (by rw [he]; rfl : ((aq.length : Nat) : Int) = 0) (by assumption); simp [hq0, h1, h2, h3]; done) | (rw [addr_is1 (by assumption)]; have hp0 : 0 ≤ apt ∧ apt ≤ 65535 := Decidable.not_not.1 (by assumption); simp [hp0.1, hp0.2, h1, h2, h3]; done) | (rw [addr_is3 (by assumption)]; have hp0 : 0 ≤ apt ∧ apt ≤ 65535 := Decidable.not_not.1 (by assumption); simp [hp0.1, hp0.2, h1, h2, h3]; done) | exact (addr_port _ _ (by assumption)).symm | exact (addr_no _ _ _ (by assumption) (by assumption)).symm
       exact ⟨(congrArg (Value.bool) e3), (hs3.pick [] rfl (by decide))⟩
   · refine sq ?_
     refine rg ?_
     refine q trivial rfl rfl (eqi (k := .i64) (a := ak) (b := 3) rfl rfl) ?_
     refine q trivial rfl rfl (asg (v := .bool (decide (ak = 3))) rfl) ?_
     refine nl ?_
     refine nN ?_
     refine cdd (p := ak = 3) rfl (fun h4 => ?_) (fun h4 => ?_)
     · refine sq ?_
       refine rg ?_
       refine q trivial rfl rfl (fa 2 fo27_2 rfl) ?_
       refine q trivial rfl rfl (ld (v := Str an) hs2 0 rfl rfl rfl one9) ?_
       refine cl trivial rfl (sNameValid (l := an) (w := _) (hl_n := (by first | omega | (simp; done) | (simp; omega)))) ?_
       rintro _ w4 ⟨rfl, hs4'⟩
       have hs4 : SH w w4 [] [.blk b1 27 [I ak, .slice Aaq aq.length caq, Str an, I apt]] := hs2.call0 hs4'
       clear hs4'
       refine q trivial rfl rfl (mv (v := .bool (nameOk an)) rfl) ?_
       refine spl (b := nameOk an) 24 rfl (fun h5 => ?_) (fun h5 => ?_)
       · refine q ⟨_, rfl, rfl⟩ rfl rfl (fa 1 fo27_1 rfl) ?_
         refine q ⟨_, rfl, rfl⟩ rfl rfl (ld (v := .slice Aaq aq.length caq) hs4 0 rfl rfl rfl one23) ?_
         refine q ⟨_, rfl, rfl⟩ rfl rfl (lnA (n := aq.length) sl23 rfl) ?_
         refine q ⟨_, rfl, rfl⟩ rfl rfl (eqi (k := .i64) (a := ((aq.length : Nat) : Int)) (b := 0) rfl rfl) ?_
         refine q trivial rfl rfl (pt (v := .bool (decide (((aq.length : Nat) : Int) = 0))) rfl rfl) ?_
         refine q trivial rfl rfl (asg (v := .bool (decide (((aq.length : Nat) : Int) = 0))) rfl) ?_
         refine nl ?_
         refine nN ?_
         refine rt (bR (tR ?_))
         refine fret (v := .bool (decide (((aq.length : Nat) : Int) = 0))) (.tmp .nil) rfl ?_
         have e4 : (decide (((aq.length : Nat) : Int) = 0)) = addrOk ak aq an apt := by first | (rw [addr_is1 (by assumption)]; simp [h1, h2, h4, h5]; done) | (rw [addr_is3 (by assumption)]; simp [h1, h2, h4, h5]; done) | (rw [addr_is3 (by assumption)]; have hq0 : aq = [] := List.eq_nil_of_length_eq_zero (by omega); simp [hq0, h1, h2, h4, h5]; done) | (rw [addr_is3 (by assumption)]; have hq0 : ¬ aq = [] := fun he => absurd (by rw [he]; rfl : ((aq.length : Nat) : Int) = 0) (by assumption); simp [hq0, h1, h2, h4, h5]; done) | (rw [addr_is1 (by assumption)]; have hp0 : 0 ≤ apt ∧ apt ≤ 65535 := Decidable.not_not.1 (by assumption); simp [hp0.1, hp0.2, h1, h2, h4, h5]; done) | (rw [addr_is3 (by assumption)]; have hp0 : 0 ≤ apt ∧ apt ≤ 65535 := Decidable.not_not.1 (by assumption); simp [hp0.1, hp0.2, h1, h2, h4, h5]; done) | exact (addr_port _ _ (by assumption)).symm | exact (addr_no _ _ _ (by assumption) (by assumption)).symm
         exact ⟨(congrArg (Value.bool) e4), (hs4.pick [] rfl (by decide))⟩
       · refine gk false rfl rfl rfl rfl rfl ?_
         refine gk false rfl rfl rfl rfl rfl ?_
         refine gk false rfl rfl rfl rfl rfl ?_
         refine gk false rfl rfl rfl rfl rfl ?_
         refine q trivial rfl rfl (pf (v := .bool false) rfl rfl) ?_
         refine q trivial rfl rfl (asg (v := .bool false) rfl) ?_
         refine nl ?_
         refine nN ?_
         refine rt (bR (tR ?_))
         refine fret (v := .bool false) (.tmp .nil) rfl ?_
         have e5 : false = addrOk ak aq an apt := by first | (rw [addr_is1 (by assumption)]; simp [h1, h2, h4, h5]; done) | (rw [addr_is3 (by assumption)]; simp [h1, h2, h4, h5]; done) | (rw [addr_is3 (by assumption)]; have hq0 : aq = [] := List.eq_nil_of_length_eq_zero (by omega); simp [hq0, h1, h2, h4, h5]; done) | (rw [addr_is3 (by assumption)]; have hq0 : ¬ aq = [] := fun he => absurd (by rw [he]; rfl : ((aq.length : Nat) : Int) = 0) (by assumption); simp [hq0, h1, h2, h4, h5]; done) | (rw [addr_is1 (by assumption)]; have hp0 : 0 ≤ apt ∧ apt ≤ 65535 := Decidable.not_not.1 (by assumption); simp [hp0.1, hp0.2, h1, h2, h4, h5]; done) | (rw [addr_is3 (by assumption)]; have hp0 : 0 ≤ apt ∧ apt ≤ 65535 := Decidable.not_not.1 (by assumption); simp [hp0.1, hp0.2, h1, h2, h4, h5]; done) | exact (addr_port _ _ (by assumption)).symm | exact (addr_no _ _ _ (by assumption) (by assumption)).symm
         exact ⟨(congrArg (Value.bool) e5), (hs4.pick [] rfl (by decide))⟩
     · refine sk ?_
       refine bN ?_
       refine nN ?_
       refine sq ?_
       refine rg ?_
       refine q trivial rfl rfl (asg (v := .bool false) rfl) ?_
       refine nl ?_
       refine nN ?_
       refine rt ?_
       refine fret (v := .bool false) (.tmp .nil) rfl ?_
       have e6 : false = addrOk ak aq an apt := by first | (rw [addr_is1 (by assumption)]; simp [h1, h2, h4]; done) | (rw [addr_is3 (by assumption)]; simp [h1, h2, h4]; done) | (rw [addr_is3 (by assumption)]; have hq0 : aq = [] := List.eq_nil_of_length_eq_zero (by omega); simp [hq0, h1, h2, h4]; done) | (rw [addr_is3 (by assumption)]; have hq0 : ¬ aq = [] := fun he => absurd (by rw [he]; rfl : ((aq.length : Nat) : Int) = 0) (by assumption); simp [hq0, h1, h2, h4]; done) | (rw [addr_is1 (by assumption)]; have hp0 : 0 ≤ apt ∧ apt ≤ 65535 := Decidable.not_not.1 (by assumption); simp [hp0.1, hp0.2, h1, h2, h4]; done) | (rw [addr_is3 (by assumption)]; have hp0 : 0 ≤ apt ∧ apt ≤ 65535 := Decidable.not_not.1 (by assumption); simp [hp0.1, hp0.2, h1, h2, h4]; done) | exact (addr_port _ _ (by assumption)).symm | exact (addr_no _ _ _ (by assumption) (by assumption)).symm
       exact ⟨(congrArg (Value.bool) e6), (hs2.pick [] rfl (by decide))⟩

theorem iIsLogin (lu : List UInt8) (lw : List UInt8) (w : World) (hlu_n : lu.length ≤ 2147483648) (hlw_n : lw.length ≤ 2147483648) : Does Tryd.prog 30 [.agg #[Str lu, Str lw]] w (fun v w' => v = .bool (loginOk lu lw) ∧ SH w w' [] []) := by
 refine fn_enter (N := 21) Tryd.func30 rfl (by kernel_rfl) rfl rfl rfl ?_
 have hs0 : SH w w [] [] := SH.refl w []
 refine sq ?_
 refine rg ?_
 refine bx (v := .agg #[Str lu, Str lw]) (cs := [Str lu, Str lw]) hs0 rfl rfl trivial rfl (fun b1 w1 (hs1 : SH w w1 [] [.blk b1 25 [Str lu, Str lw]]) => ?_)
 refine q trivial rfl rfl (asg (v := .bool false) rfl) ?_
 refine nl ?_
 refine nN ?_
 refine sq ?_
 refine rg ?_
 refine q trivial rfl rfl (fa 0 fo25_0 rfl) ?_
 refine q trivial rfl rfl (ld (v := Str lu) hs1 0 rfl rfl rfl one9) ?_
 refine q trivial rfl rfl (nes (l := lu) (m := []) rfl rfl) ?_
 refine q trivial rfl rfl (mv (v := .bool (decide (lu ≠ []))) rfl) ?_
 refine spd (p := lu ≠ []) 6 rfl (fun h1 => ?_) (fun h1 => ?_)
 · refine q ⟨_, rfl, rfl⟩ rfl rfl (fa 1 fo25_1 rfl) ?_
   refine q ⟨_, rfl, rfl⟩ rfl rfl (ld (v := Str lw) hs1 0 rfl rfl rfl one9) ?_
   refine q ⟨_, rfl, rfl⟩ rfl rfl (nes (l := lw) (m := []) rfl rfl) ?_
   refine q trivial rfl rfl (pt (v := .bool (decide (lw ≠ []))) rfl rfl) ?_
   refine q trivial rfl rfl (mv (v := .bool (decide (lw ≠ []))) rfl) ?_
   refine spd (p := lw ≠ []) 11 rfl (fun h2 => ?_) (fun h2 => ?_)
   · refine q ⟨_, rfl, rfl⟩ rfl rfl (fa 0 fo25_0 rfl) ?_
     refine q ⟨_, rfl, rfl⟩ rfl rfl (ld (v := Str lu) hs1 0 rfl rfl rfl one9) ?_
     refine cl ⟨_, rfl, rfl⟩ rfl (iUserValid (s := lu) (w := _) (hs_n := (by first | omega | (simp; done) | (simp; omega)))) ?_
     rintro _ w2 ⟨rfl, hs2'⟩
     have hs2 : SH w w2 [] [.blk b1 25 [Str lu, Str lw]] := hs1.call0 hs2'
     clear hs2'
     refine q trivial rfl rfl (pt (v := .bool (userOk lu)) rfl rfl) ?_
     refine q trivial rfl rfl (mv (v := .bool (userOk lu)) rfl) ?_
     refine spl (b := userOk lu) 16 rfl (fun h3 => ?_) (fun h3 => ?_)
     · refine q ⟨_, rfl, rfl⟩ rfl rfl (fa 1 fo25_1 rfl) ?_
       refine q ⟨_, rfl, rfl⟩ rfl rfl (ld (v := Str lw) hs2 0 rfl rfl rfl one9) ?_
       refine cl ⟨_, rfl, rfl⟩ rfl (iUserValid (s := lw) (w := _) (hs_n := (by first | omega | (simp; done) | (simp; omega)))) ?_
       rintro _ w3 ⟨rfl, hs3'⟩
       have hs3 : SH w w3 [] [.blk b1 25 [Str lu, Str lw]] := hs2.call0 hs3'
       clear hs3'
       refine q trivial rfl rfl (pt (v := .bool (userOk lw)) rfl rfl) ?_
       refine q trivial rfl rfl (asg (v := .bool (userOk lw)) rfl) ?_
       refine nl ?_
       refine nN ?_
       refine rt ?_
       refine fret (v := .bool (userOk lw)) (.tmp .nil) rfl ?_
       have e1 : (userOk lw) = loginOk lu lw := by simp [loginOk, h1, h2, h3]
       exact ⟨(congrArg (Value.bool) e1), (hs3.pick [] rfl (by decide))⟩
     · refine gk false rfl rfl rfl rfl rfl ?_
       refine gk false rfl rfl rfl rfl rfl ?_
       refine gk false rfl rfl rfl rfl rfl ?_
       refine q trivial rfl rfl (pf (v := .bool false) rfl rfl) ?_
       refine q trivial rfl rfl (asg (v := .bool false) rfl) ?_
       refine nl ?_
       refine nN ?_
       refine rt ?_
       refine fret (v := .bool false) (.tmp .nil) rfl ?_
       have e2 : false = loginOk lu lw := by simp [loginOk, h1, h2, h3]
       exact ⟨(congrArg (Value.bool) e2), (hs2.pick [] rfl (by decide))⟩
   · refine gk false rfl rfl rfl rfl rfl ?_
     refine gk false rfl rfl rfl rfl rfl ?_
     refine gk false rfl rfl rfl rfl rfl ?_
     refine q trivial rfl rfl (pf (v := .bool false) rfl rfl) ?_
     refine q trivial rfl rfl (mv (v := .bool false) rfl) ?_
     refine gk false rfl rfl rfl rfl rfl ?_
     refine gk false rfl rfl rfl rfl rfl ?_
     refine gk false rfl rfl rfl rfl rfl ?_
     refine q trivial rfl rfl (pf (v := .bool false) rfl rfl) ?_
     refine q trivial rfl rfl (asg (v := .bool false) rfl) ?_
     refine nl ?_
     refine nN ?_
     refine rt ?_
     refine fret (v := .bool false) (.tmp .nil) rfl ?_
     have e3 : false = loginOk lu lw := by simp [loginOk, h1, h2]
     exact ⟨(congrArg (Value.bool) e3), (hs1.pick [] rfl (by decide))⟩
 · refine gk false rfl rfl rfl rfl rfl ?_
   refine gk false rfl rfl rfl rfl rfl ?_
   refine gk false rfl rfl rfl rfl rfl ?_
   refine q trivial rfl rfl (pf (v := .bool false) rfl rfl) ?_
   refine q trivial rfl rfl (mv (v := .bool false) rfl) ?_
   refine gk false rfl rfl rfl rfl rfl ?_
   refine gk false rfl rfl rfl rfl rfl ?_
   refine gk false rfl rfl rfl rfl rfl ?_
   refine q trivial rfl rfl (pf (v := .bool false) rfl rfl) ?_
   refine q trivial rfl rfl (mv (v := .bool false) rfl) ?_
   refine gk false rfl rfl rfl rfl rfl ?_
   refine gk false rfl rfl rfl rfl rfl ?_
   refine gk false rfl rfl rfl rfl rfl ?_
   refine q trivial rfl rfl (pf (v := .bool false) rfl rfl) ?_
   refine q trivial rfl rfl (asg (v := .bool false) rfl) ?_
   refine nl ?_
   refine nN ?_
   refine rt ?_
   refine fret (v := .bool false) (.tmp .nil) rfl ?_
   have e4 : false = loginOk lu lw := by simp [loginOk, h1]
   exact ⟨(congrArg (Value.bool) e4), (hs1.pick [] rfl (by decide))⟩

theorem sL11Ok (lu : List UInt8) (lw : List UInt8) (w : World) (hlu_n : lu.length ≤ 2147483648) (hlw_n : lw.length ≤ 2147483648) : Does Tryd.prog 34 [.agg #[Str lu, Str lw]] w (fun v w' => v = .bool (loginOk lu lw) ∧ SH w w' [] []) := by
 refine fn_enter (N := 23) Tryd.func34 rfl (by kernel_rfl) rfl rfl rfl ?_
 have hs0 : SH w w [] [] := SH.refl w []
 refine sq ?_
 refine rg ?_
 refine bx (v := .agg #[Str lu, Str lw]) (cs := [Str lu, Str lw]) hs0 rfl rfl trivial rfl (fun b1 w1 (hs1 : SH w w1 [] [.blk b1 25 [Str lu, Str lw]]) => ?_)
 refine q trivial rfl rfl (asg (v := .bool false) rfl) ?_
 refine nl ?_
 refine nN ?_
 refine sq ?_
 refine rg ?_
 refine q trivial rfl rfl (fa 0 fo25_0 rfl) ?_
 refine q trivial rfl rfl (ld (v := Str lu) hs1 0 rfl rfl rfl one9) ?_
 refine cl trivial rfl (sUserValid (s := lu) (w := _) (hs_n := (by first | omega | (simp; done) | (simp; omega)))) ?_
 rintro _ w2 ⟨rfl, hs2'⟩
 have hs2 : SH w w2 [] [.blk b1 25 [Str lu, Str lw]] := hs1.call0 hs2'
 clear hs2'
 refine q trivial rfl rfl (mv (v := .bool (userOk lu)) rfl) ?_
 refine spl (b := userOk lu) 6 rfl (fun h1 => ?_) (fun h1 => ?_)
 · refine q ⟨_, rfl, rfl⟩ rfl rfl (fa 1 fo25_1 rfl) ?_
   refine q ⟨_, rfl, rfl⟩ rfl rfl (ld (v := Str lw) hs2 0 rfl rfl rfl one9) ?_
   refine cl ⟨_, rfl, rfl⟩ rfl (sUserValid (s := lw) (w := _) (hs_n := (by first | omega | (simp; done) | (simp; omega)))) ?_
   rintro _ w3 ⟨rfl, hs3'⟩
   have hs3 : SH w w3 [] [.blk b1 25 [Str lu, Str lw]] := hs2.call0 hs3'
   clear hs3'
   refine q trivial rfl rfl (pt (v := .bool (userOk lw)) rfl rfl) ?_
   refine q trivial rfl rfl (mv (v := .bool (userOk lw)) rfl) ?_
   refine spl (b := userOk lw) 11 rfl (fun h2 => ?_) (fun h2 => ?_)
   · refine q ⟨_, rfl, rfl⟩ rfl rfl (fa 0 fo25_0 rfl) ?_
     refine q ⟨_, rfl, rfl⟩ rfl rfl (ld (v := Str lu) hs3 0 rfl rfl rfl one9) ?_
     refine q ⟨_, rfl, rfl⟩ rfl rfl (lnS (l := lu) st9 rfl) ?_
     refine q ⟨_, rfl, rfl⟩ rfl rfl (gtr (k := .i64) (a := ((lu.length : Nat) : Int)) (b := 0) rfl rfl) ?_
     refine q trivial rfl rfl (pt (v := .bool (decide ((0 : Int) < ((lu.length : Nat) : Int)))) rfl rfl) ?_
     refine q trivial rfl rfl (mv (v := .bool (decide ((0 : Int) < ((lu.length : Nat) : Int)))) rfl) ?_
     refine spd (p := (0 : Int) < ((lu.length : Nat) : Int)) 17 rfl (fun h3 => ?_) (fun h3 => ?_)
     · refine q ⟨_, rfl, rfl⟩ rfl rfl (fa 1 fo25_1 rfl) ?_
       refine q ⟨_, rfl, rfl⟩ rfl rfl (ld (v := Str lw) hs3 0 rfl rfl rfl one9) ?_
       refine q ⟨_, rfl, rfl⟩ rfl rfl (lnS (l := lw) st9 rfl) ?_
       refine q ⟨_, rfl, rfl⟩ rfl rfl (gtr (k := .i64) (a := ((lw.length : Nat) : Int)) (b := 0) rfl rfl) ?_
       refine q trivial rfl rfl (pt (v := .bool (decide ((0 : Int) < ((lw.length : Nat) : Int)))) rfl rfl) ?_
       refine q trivial rfl rfl (asg (v := .bool (decide ((0 : Int) < ((lw.length : Nat) : Int)))) rfl) ?_
       refine nl ?_
       refine nN ?_
       refine rt ?_
       refine fret (v := .bool (decide ((0 : Int) < ((lw.length : Nat) : Int)))) (.tmp .nil) rfl ?_
       have e1 : (decide ((0 : Int) < ((lw.length : Nat) : Int))) = loginOk lu lw := by simp only [loginOk_len]; simp only [h1, h2, h3, decide_true, decide_false, Bool.and_true, Bool.true_and, Bool.and_false, Bool.false_and]
       exact ⟨(congrArg (Value.bool) e1), (hs3.pick [] rfl (by decide))⟩
     · refine gk false rfl rfl rfl rfl rfl ?_
       refine gk false rfl rfl rfl rfl rfl ?_
       refine gk false rfl rfl rfl rfl rfl ?_
       refine gk false rfl rfl rfl rfl rfl ?_
       refine q trivial rfl rfl (pf (v := .bool false) rfl rfl) ?_
       refine q trivial rfl rfl (asg (v := .bool false) rfl) ?_
       refine nl ?_
       refine nN ?_
       refine rt ?_
       refine fret (v := .bool false) (.tmp .nil) rfl ?_
       have e2 : false = loginOk lu lw := by simp only [loginOk_len]; simp only [h1, h2, h3, decide_true, decide_false, Bool.and_true, Bool.true_and, Bool.and_false, Bool.false_and]
       exact ⟨(congrArg (Value.bool) e2), (hs3.pick [] rfl (by decide))⟩
   · refine gk false rfl rfl rfl rfl rfl ?_
     refine gk false rfl rfl rfl rfl rfl ?_
     refine gk false rfl rfl rfl rfl rfl ?_
     refine gk false rfl rfl rfl rfl rfl ?_
     refine q trivial rfl rfl (pf (v := .bool false) rfl rfl) ?_
     refine q trivial rfl rfl (mv (v := .bool false) rfl) ?_
     refine gk false rfl rfl rfl rfl rfl ?_
     refine gk false rfl rfl rfl rfl rfl ?_
     refine gk false rfl rfl rfl rfl rfl ?_
     refine gk false rfl rfl rfl rfl rfl ?_
     refine q trivial rfl rfl (pf (v := .bool false) rfl rfl) ?_
     refine q trivial rfl rfl (asg (v := .bool false) rfl) ?_
     refine nl ?_
     refine nN ?_
     refine rt ?_
     refine fret (v := .bool false) (.tmp .nil) rfl ?_
     have e3 : false = loginOk lu lw := by simp only [loginOk_len]; simp only [h1, h2, decide_true, decide_false, Bool.and_true, Bool.true_and, Bool.and_false, Bool.false_and]
     exact ⟨(congrArg (Value.bool) e3), (hs3.pick [] rfl (by decide))⟩
 · refine gk false rfl rfl rfl rfl rfl ?_
   refine gk false rfl rfl rfl rfl rfl ?_
   refine gk false rfl rfl rfl rfl rfl ?_
   refine q trivial rfl rfl (pf (v := .bool false) rfl rfl) ?_
   refine q trivial rfl rfl (mv (v := .bool false) rfl) ?_
   refine gk false rfl rfl rfl rfl rfl ?_
   refine gk false rfl rfl rfl rfl rfl ?_
   refine gk false rfl rfl rfl rfl rfl ?_
   refine gk false rfl rfl rfl rfl rfl ?_
   refine q trivial rfl rfl (pf (v := .bool false) rfl rfl) ?_
   refine q trivial rfl rfl (mv (v := .bool false) rfl) ?_
   refine gk false rfl rfl rfl rfl rfl ?_
   refine gk false rfl rfl rfl rfl rfl ?_
   refine gk false rfl rfl rfl rfl rfl ?_
   refine gk false rfl rfl rfl rfl rfl ?_
   refine q trivial rfl rfl (pf (v := .bool false) rfl rfl) ?_
   refine q trivial rfl rfl (asg (v := .bool false) rfl) ?_
   refine nl ?_
   refine nN ?_
   refine rt ?_
   refine fret (v := .bool false) (.tmp .nil) rfl ?_
   have e4 : false = loginOk lu lw := by simp only [loginOk_len]; simp only [h1, decide_true, decide_false, Bool.and_true, Bool.true_and, Bool.and_false, Bool.false_and]
   exact ⟨(congrArg (Value.bool) e4), (hs2.pick [] rfl (by decide))⟩


end Go.Proofs.YtpddahloogjghaaDoor
