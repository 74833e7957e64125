/-
  Part of the proofs over this seat: what each function of the program computes, function by function (the text is written by a program of this hand-in's own).
  Conditions: each theorem states its own.
-/
import Derived.Test.YtjehmnojfpedjaaProg
import Derived.KernelRfl
import Derived.Test.YtjehmnojfpedjaaPfModel
namespace Go.Proofs.Ytjehmnojfpedjaa
open Go.PF
set_option maxRecDepth 100000
set_option linter.unusedSimpArgs false
set_option linter.unusedVariables false
theorem mixed : Try.prog.follows .mixedOrders = true := by kernel_rfl
theorem one24 : oneOk Try.prog 24 = true := by kernel_rfl
theorem one3 : oneOk Try.prog 3 = true := by kernel_rfl
theorem sl22 : SlT Try.prog 22 24 1 24 (.slice none 0 0) := SlT.mk' (by kernel_rfl) (by kernel_rfl)
theorem sl24 : SlT Try.prog 24 3 1 8 (.int .i64 0) := SlT.mk' (by kernel_rfl) (by kernel_rfl)
theorem st9 : Try.prog.underlying 9 = some .string := by kernel_rfl
theorem ti3 : Try.prog.underlying 3 = some (.int .i64) := by kernel_rfl
theorem ti5 : Try.prog.underlying 5 = some (.int .u8) := by kernel_rfl
theorem sIn (x : Int) (lo : Int) (hi : Int) (w : World)  : Does Try.prog 48 [I x, I lo, I hi] w (fun v w' => v = .bool (decide (lo ≤ x ∧ x ≤ hi)) ∧ SH w w' [] []) := by
 refine fn_enter (N := 15) Try.func48 rfl (by kernel_rfl) rfl rfl rfl ?_
 have hs0 : SH w w [] [] := SH.refl w []
 refine sq ?_
 refine rg ?_
 refine q trivial rfl rfl (asg (v := .bool false) rfl) ?_
 refine nl ?_
 refine nN ?_
 refine sq ?_
 refine rg ?_
 refine q trivial rfl rfl (mv (v := I x) rfl) ?_
 refine q trivial rfl rfl (mv (v := I lo) rfl) ?_
 refine q trivial rfl rfl (geq (k := .i64) (a := x) (b := lo) rfl rfl) ?_
 refine q trivial rfl rfl (mv (v := .bool (decide (lo ≤ x))) rfl) ?_
 refine spd (p := lo ≤ x) 10 rfl (fun h1 => ?_) (fun h1 => ?_)
 · refine q ⟨_, rfl, rfl⟩ rfl rfl (mv (v := I x) rfl) ?_
   refine q ⟨_, rfl, rfl⟩ rfl rfl (mv (v := I hi) rfl) ?_
   refine q ⟨_, rfl, rfl⟩ rfl rfl (leq (k := .i64) (a := x) (b := hi) rfl rfl) ?_
   refine q trivial rfl rfl (pt (v := .bool (decide (x ≤ hi))) rfl rfl) ?_
   refine q trivial rfl rfl (asg (v := .bool (decide (x ≤ hi))) rfl) ?_
   refine nl ?_
   refine nN ?_
   refine rt ?_
   refine fret (v := .bool (decide (x ≤ hi))) (.tmp .nil) rfl ?_
   have e1 : (decide (x ≤ hi)) = (decide (lo ≤ x ∧ x ≤ hi)) := by simp [*]
   exact ⟨(congrArg (Value.bool) e1), hs0⟩
 · refine gk false rfl rfl rfl rfl rfl ?_
   refine gk false rfl rfl rfl rfl rfl ?_
   refine gk false rfl rfl rfl rfl rfl ?_
   refine q trivial rfl rfl (pf (v := .bool false) rfl rfl) ?_
   refine q trivial rfl rfl (asg (v := .bool false) rfl) ?_
   refine nl ?_
   refine nN ?_
   refine rt ?_
   refine fret (v := .bool false) (.tmp .nil) rfl ?_
   have e2 : false = (decide (lo ≤ x ∧ x ≤ hi)) := by simp [*]
   exact ⟨(congrArg (Value.bool) e2), hs0⟩

theorem iWithin (x : Int) (lo : Int) (hi : Int) (w : World)  : Does Try.prog 46 [I x, I lo, I hi] w (fun v w' => v = .bool (decide (lo ≤ x ∧ x ≤ hi)) ∧ SH w w' [] []) := by
 refine fn_enter (N := 15) Try.func46 rfl (by kernel_rfl) rfl rfl rfl ?_
 have hs0 : SH w w [] [] := SH.refl w []
 refine sq ?_
 refine rg ?_
 refine q trivial rfl rfl (asg (v := .bool false) rfl) ?_
 refine nl ?_
 refine nN ?_
 refine sq ?_
 refine rg ?_
 refine q trivial rfl rfl (mv (v := I x) rfl) ?_
 refine q trivial rfl rfl (mv (v := I lo) rfl) ?_
 refine q trivial rfl rfl (geq (k := .i64) (a := x) (b := lo) rfl rfl) ?_
 refine q trivial rfl rfl (mv (v := .bool (decide (lo ≤ x))) rfl) ?_
 refine spd (p := lo ≤ x) 10 rfl (fun h1 => ?_) (fun h1 => ?_)
 · refine q ⟨_, rfl, rfl⟩ rfl rfl (mv (v := I x) rfl) ?_
   refine q ⟨_, rfl, rfl⟩ rfl rfl (mv (v := I hi) rfl) ?_
   refine q ⟨_, rfl, rfl⟩ rfl rfl (leq (k := .i64) (a := x) (b := hi) rfl rfl) ?_
   refine q trivial rfl rfl (pt (v := .bool (decide (x ≤ hi))) rfl rfl) ?_
   refine q trivial rfl rfl (asg (v := .bool (decide (x ≤ hi))) rfl) ?_
   refine nl ?_
   refine nN ?_
   refine rt ?_
   refine fret (v := .bool (decide (x ≤ hi))) (.tmp .nil) rfl ?_
   have e1 : (decide (x ≤ hi)) = (decide (lo ≤ x ∧ x ≤ hi)) := by simp [*]
   exact ⟨(congrArg (Value.bool) e1), hs0⟩
 · refine gk false rfl rfl rfl rfl rfl ?_
   refine gk false rfl rfl rfl rfl rfl ?_
   refine gk false rfl rfl rfl rfl rfl ?_
   refine q trivial rfl rfl (pf (v := .bool false) rfl rfl) ?_
   refine q trivial rfl rfl (asg (v := .bool false) rfl) ?_
   refine nl ?_
   refine nN ?_
   refine rt ?_
   refine fret (v := .bool false) (.tmp .nil) rfl ?_
   have e2 : false = (decide (lo ≤ x ∧ x ≤ hi)) := by simp [*]
   exact ⟨(congrArg (Value.bool) e2), hs0⟩

theorem iBV1 (x : Int) (w : World)  : Does Try.prog 45 [I x] w (fun v w' => v = .bool (decide (¬ (0 ≤ x ∧ x ≤ 255))) ∧ SH w w' [] []) := by
 refine fn_enter (N := 6) Try.func45 rfl (by kernel_rfl) rfl rfl rfl ?_
 have hs0 : SH w w [] [] := SH.refl w []
 refine sq ?_
 refine rg ?_
 refine q trivial rfl rfl (asg (v := .bool false) rfl) ?_
 refine nl ?_
 refine nN ?_
 refine sq ?_
 refine rg ?_
 refine q trivial rfl rfl (mv (v := I x) rfl) ?_
 refine cl trivial rfl (iWithin (x := x) (lo := 0) (hi := 255) (w := _)) ?_
 rintro _ w1 ⟨rfl, hs1'⟩
 have hs1 : SH w w1 [] [] := hs0.call0 hs1'
 clear hs1'
 refine q trivial rfl rfl (nd (p := 0 ≤ x ∧ x ≤ 255) rfl) ?_
 refine q trivial rfl rfl (asg (v := .bool (decide (¬ (0 ≤ x ∧ x ≤ 255)))) rfl) ?_
 refine nl ?_
 refine nN ?_
 refine rt ?_
 refine fret (v := .bool (decide (¬ (0 ≤ x ∧ x ≤ 255)))) (.tmp .nil) rfl ?_
 exact ⟨rfl, hs1⟩

theorem sBytesValid {Azs : Option Addr} {czs : Nat} (zs : List Int) (w : World) (hzs : Sl w [] 1 Azs zs.length czs (zs.map I)) : Does Try.prog 29 [.slice Azs zs.length czs] w (fun v w' => v = .bool (isBytes zs) ∧ SH w w' [] []) := by
 refine fn_enter (N := 19) Try.func29 rfl (by kernel_rfl) rfl rfl rfl ?_
 have hs0 : SH w w [] [] := SH.refl w []
 have hzs_m : zs.length ≤ 9223372036854775807 := Nat.le_trans hzs.cap hzs.capMax
 refine sq ?_
 refine rg ?_
 refine q trivial rfl rfl (asg (v := .bool false) rfl) ?_
 refine nl ?_
 refine nN ?_
 refine sq ?_
 refine sq ?_
 refine rg ?_
 refine q trivial rfl rfl (asg (v := I 0) rfl) ?_
 refine nl ?_
 refine nN ?_
 refine bl ?_
 refine lp (σ := Nat) (fun (k : Nat) f w' => Has f [(0, .slice Azs zs.length czs), (3, I ((k : Nat) : Int))] ∧ (k ≤ zs.length) ∧ (allB (zs.take k) = true) ∧ SH w w' [] []) (fun k => zs.length - k) 0 ⟨⟨rfl, rfl, trivial⟩, (by simp), (by simp [allB]), hs0⟩ ?_
 rintro k f w1 ⟨hf, hk, ha, hs1⟩
 obtain ⟨g1, rfl⟩ := has_upd hf
 clear hf
 refine sq ?_
 refine sq ?_
 refine rg ?_
 refine q trivial rfl rfl (mv (v := I ((k : Nat) : Int)) rfl) ?_
 refine q trivial rfl rfl (mv (v := .slice Azs zs.length czs) rfl) ?_
 refine q trivial rfl rfl (lnA (n := zs.length) sl24 rfl) ?_
 refine q trivial rfl rfl (lss (k := .i64) (a := ((k : Nat) : Int)) (b := ((zs.length : Nat) : Int)) rfl rfl) ?_
 refine nl ?_
 refine nN ?_
 refine cdd (p := ((k : Nat) : Int) < ((zs.length : Nat) : Int)) rfl (fun h1 => ?_) (fun h1 => ?_)
 · refine sk ?_
   refine nN ?_
   refine sq ?_
   refine bl ?_
   refine sq ?_
   refine rg ?_
   refine q trivial rfl rfl (mv (v := .slice Azs zs.length czs) rfl) ?_
   refine q trivial rfl rfl (mv (v := I ((k : Nat) : Int)) rfl) ?_
   refine ixw1 k sl24 rfl rfl hzs (by first | omega | (simp; done) | (simp; omega)) (getm I 0 (by first | omega | (simp; done) | (simp; omega))) trivial rfl (fun a1 ha1 => ?_)
   refine q trivial rfl rfl (lda (v := I (zs.getD k 0)) hs1 ha1 (fun _ h => h) rfl rfl one3) ?_
   refine cl trivial rfl (sIn (x := zs.getD k 0) (lo := 0) (hi := 255) (w := _)) ?_
   rintro _ w2 ⟨rfl, hs2'⟩
   have hs2 : SH w w2 [] [] := hs1.call0 hs2'
   clear hs2'
   refine q trivial rfl rfl (nd (p := 0 ≤ (zs.getD k 0) ∧ (zs.getD k 0) ≤ 255) rfl) ?_
   refine nl ?_
   refine nN ?_
   refine cdd (p := ¬ (0 ≤ (zs.getD k 0) ∧ (zs.getD k 0) ≤ 255)) rfl (fun h2 => ?_) (fun h2 => ?_)
   · refine sq ?_
     refine rg ?_
     refine q trivial rfl rfl (asg (v := .bool false) rfl) ?_
     refine nl ?_
     refine nN ?_
     refine rt (bR (tR (tR (bR (tR ?_)))))
     refine fret (v := .bool false) (.tmp .nil) rfl ?_
     have e1 : false = isBytes zs := by exact bytes_no1 (k := k) (by omega) (by simpa using h2)
     exact ⟨(congrArg (Value.bool) e1), hs2⟩
   · refine sk ?_
     refine bN ?_
     refine nN ?_
     refine rg ?_
     refine q trivial rfl rfl (mv (v := I ((k : Nat) : Int)) rfl) ?_
     refine q trivial rfl rfl (add (a := ((k : Nat) : Int)) (b := 1) rfl rfl (by exact ⟨by omega, by omega⟩)) ?_
     refine q trivial rfl rfl (asg (v := I (((k : Nat) : Int) + 1)) rfl) ?_
     refine nl ?_
     refine nN ?_
     refine ⟨(k + 1), ⟨⟨rfl, rfl, trivial⟩, (by omega), (allB_step (by omega) ha (by simpa using h2)), hs2⟩, ?_⟩
     omega
 · refine ex (tE (tE (bE ?_)))
   refine nN ?_
   refine sq ?_
   refine rg ?_
   refine q trivial rfl rfl (mv (v := .slice Azs zs.length czs) rfl) ?_
   refine q trivial rfl rfl (lnA (n := zs.length) sl24 rfl) ?_
   refine q trivial rfl rfl (leq (k := .i64) (a := ((zs.length : Nat) : Int)) (b := 120) rfl rfl) ?_
   refine q trivial rfl rfl (asg (v := .bool (decide (((zs.length : Nat) : Int) ≤ 120))) rfl) ?_
   refine nl ?_
   refine nN ?_
   refine rt ?_
   refine fret (v := .bool (decide (((zs.length : Nat) : Int) ≤ 120))) (.tmp .nil) rfl ?_
   have e2 : (decide (((zs.length : Nat) : Int) ≤ 120)) = isBytes zs := by exact bytes_yes (k := k) (by omega) ha
   exact ⟨(congrArg (Value.bool) e2), hs1⟩

theorem slIndexFunc (p : Int → Bool) {Azs : Option Addr} {czs : Nat} (zs : List Int) (kf : FuncId) (w : World) (hzs : Sl w [] 1 Azs zs.length czs (zs.map I)) (hf : ∀ (x : Int) (w : World), Does Try.prog kf [.int .i64 x] w (fun v w' => v = .bool (p x) ∧ SH w w' [] [])) : Does Try.prog 65 [.slice Azs zs.length czs, .func (.func kf) #[] #[]] w (fun v w' => v = .int .i64 (idxF p zs) ∧ SH w w' [] []) := by
 refine fn_enter (N := 19) Try.func65 rfl (by kernel_rfl) rfl rfl rfl ?_
 have hs0 : SH w w [] [] := SH.refl w []
 have hzs_m : zs.length ≤ 9223372036854775807 := Nat.le_trans hzs.cap hzs.capMax
 refine sq ?_
 refine rg ?_
 refine q trivial rfl rfl (asg (v := I 0) rfl) ?_
 refine nl ?_
 refine nN ?_
 refine sq ?_
 refine sq ?_
 refine rg ?_
 refine q trivial rfl rfl (mv (v := .slice Azs zs.length czs) rfl) ?_
 refine q trivial rfl rfl (lnA (n := zs.length) sl24 rfl) ?_
 refine q trivial rfl rfl (mv (v := I 0) rfl) ?_
 refine nl ?_
 refine nN ?_
 refine bl ?_
 refine lp (σ := Nat) (fun (k : Nat) f w' => Has f [(0, .slice Azs zs.length czs), (1, .func (.func kf) #[] #[]), (7, I ((zs.length : Nat) : Int)), (8, I ((k : Nat) : Int))] ∧ (k ≤ zs.length) ∧ (∀ j, j < k → p (zs.getD j 0) = false) ∧ SH w w' [] []) (fun k => zs.length - k) 0 ⟨⟨rfl, rfl, rfl, rfl, trivial⟩, (by simp), (by intro j hj; omega), hs0⟩ ?_
 rintro k f w1 ⟨hf, hk, hn, hs1⟩
 obtain ⟨g1, rfl⟩ := has_upd hf
 clear hf
 refine sq ?_
 refine rg ?_
 refine q trivial rfl rfl (lss (k := .i64) (a := ((k : Nat) : Int)) (b := ((zs.length : Nat) : Int)) rfl rfl) ?_
 refine nl ?_
 refine nN ?_
 refine sq ?_
 refine cdd (p := ((k : Nat) : Int) < ((zs.length : Nat) : Int)) rfl (fun h1 => ?_) (fun h1 => ?_)
 · refine sk ?_
   refine nN ?_
   refine sq ?_
   refine bl ?_
   refine sq ?_
   refine rg ?_
   refine q trivial rfl rfl (mv (v := I ((k : Nat) : Int)) rfl) ?_
   refine q trivial rfl rfl (asg (v := I ((k : Nat) : Int)) rfl) ?_
   refine nl ?_
   refine nN ?_
   refine sq ?_
   refine rg ?_
   refine q trivial rfl rfl (mv (v := .func (.func kf) #[] #[]) rfl) ?_
   refine q trivial rfl rfl (mv (v := .slice Azs zs.length czs) rfl) ?_
   refine q trivial rfl rfl (mv (v := I ((k : Nat) : Int)) rfl) ?_
   refine ixw1 k sl24 rfl rfl hzs (by first | omega | (simp; done) | (simp; omega)) (getm I 0 (by first | omega | (simp; done) | (simp; omega))) trivial rfl (fun a1 ha1 => ?_)
   refine q trivial rfl rfl (lda (v := I (zs.getD k 0)) hs1 ha1 (fun _ h => h) rfl rfl one3) ?_
   refine clv (k := kf) trivial rfl rfl (hf (zs.getD k 0) _) ?_
   rintro _ w2 ⟨rfl, hs2'⟩
   have hs2 : SH w w2 [] [] := hs1.call0 hs2'
   clear hs2'
   refine nl ?_
   refine nN ?_
   refine cd (b := p (zs.getD k 0)) rfl (fun h2 => ?_) (fun h2 => ?_)
   · refine sq ?_
     refine rg ?_
     refine q trivial rfl rfl (mv (v := I ((k : Nat) : Int)) rfl) ?_
     refine q trivial rfl rfl (asg (v := I ((k : Nat) : Int)) rfl) ?_
     refine nl ?_
     refine nN ?_
     refine rt (bR (tR (tR (bR (tR ?_)))))
     refine fret (v := I ((k : Nat) : Int)) (.tmp .nil) rfl ?_
     have e1 : ((k : Nat) : Int) = idxF p zs := by exact idxF_eq (by omega) hn h2
     exact ⟨(congrArg (Value.int .i64) e1), hs2⟩
   · refine sk ?_
     refine bN ?_
     refine nN ?_
     refine rg ?_
     refine q trivial rfl rfl (add (a := ((k : Nat) : Int)) (b := 1) rfl rfl (by exact ⟨by omega, by omega⟩)) ?_
     refine q trivial rfl rfl (mv (v := I (((k : Nat) : Int) + 1)) rfl) ?_
     refine nl ?_
     refine nN ?_
     refine ⟨(k + 1), ⟨⟨rfl, rfl, rfl, rfl, trivial⟩, (by omega), (by intro j hj; rcases Nat.lt_succ_iff_lt_or_eq.1 hj with h | h; exact hn j h; subst h; exact h2), hs2⟩, ?_⟩
     omega
 · refine ex (tE (tE (bE ?_)))
   refine nN ?_
   refine sq ?_
   refine rg ?_
   refine q trivial rfl rfl (asg (v := I (-1)) rfl) ?_
   refine nl ?_
   refine nN ?_
   refine rt ?_
   refine fret (v := I (-1)) (.tmp .nil) rfl ?_
   have e2 : (-1) = idxF p zs := by exact idxF_none (fun j hj => hn j (by omega))
   exact ⟨(congrArg (Value.int .i64) e2), hs1⟩

theorem slContainsFunc (p : Int → Bool) {Azs : Option Addr} {czs : Nat} (zs : List Int) (kf : FuncId) (w : World) (hzs : Sl w [] 1 Azs zs.length czs (zs.map I)) (hf : ∀ (x : Int) (w : World), Does Try.prog kf [.int .i64 x] w (fun v w' => v = .bool (p x) ∧ SH w w' [] [])) : Does Try.prog 44 [.slice Azs zs.length czs, .func (.func kf) #[] #[]] w (fun v w' => v = .bool (zs.any p) ∧ SH w w' [] []) := by
 refine fn_enter (N := 9) Try.func44 rfl (by kernel_rfl) rfl rfl rfl ?_
 have hs0 : SH w w [] [] := SH.refl w []
 have hzs_m : zs.length ≤ 9223372036854775807 := Nat.le_trans hzs.cap hzs.capMax
 refine sq ?_
 refine rg ?_
 refine q trivial rfl rfl (asg (v := .bool false) rfl) ?_
 refine nl ?_
 refine nN ?_
 refine sq ?_
 refine rg ?_
 refine q trivial rfl rfl (mv (v := .slice Azs zs.length czs) rfl) ?_
 refine q trivial rfl rfl (mv (v := .func (.func kf) #[] #[]) rfl) ?_
 refine cl trivial rfl (slIndexFunc (p := p) (Azs := Azs) (czs := czs) (zs := zs) (kf := kf) (w := _) (hzs := (hzs.up0 hs0)) (hf := hf)) ?_
 rintro _ w1 ⟨rfl, hs1'⟩
 have hs1 : SH w w1 [] [] := hs0.call0 hs1'
 clear hs1'
 refine q trivial rfl rfl (geq (k := .i64) (a := idxF p zs) (b := 0) rfl rfl) ?_
 refine q trivial rfl rfl (asg (v := .bool (decide ((0 : Int) ≤ (idxF p zs)))) rfl) ?_
 refine nl ?_
 refine nN ?_
 refine rt ?_
 refine fret (v := .bool (decide ((0 : Int) ≤ (idxF p zs)))) (.tmp .nil) rfl ?_
 have e1 : (decide ((0 : Int) ≤ (idxF p zs))) = zs.any p := by exact idxF_any p zs
 exact ⟨(congrArg (Value.bool) e1), hs1⟩

theorem iBytesValid {Azs : Option Addr} {czs : Nat} (zs : List Int) (w : World) (hzs : Sl w [] 1 Azs zs.length czs (zs.map I)) : Does Try.prog 25 [.slice Azs zs.length czs] w (fun v w' => v = .bool (isBytes zs) ∧ SH w w' [] []) := by
 refine fn_enter (N := 11) Try.func25 rfl (by kernel_rfl) rfl rfl rfl ?_
 have hs0 : SH w w [] [] := SH.refl w []
 have hzs_m : zs.length ≤ 9223372036854775807 := Nat.le_trans hzs.cap hzs.capMax
 refine sq ?_
 refine rg ?_
 refine q trivial rfl rfl (asg (v := .bool false) rfl) ?_
 refine nl ?_
 refine nN ?_
 refine sq ?_
 refine rg ?_
 refine q trivial rfl rfl (mv (v := .slice Azs zs.length czs) rfl) ?_
 refine q trivial rfl rfl (lnA (n := zs.length) sl24 rfl) ?_
 refine q trivial rfl rfl (leq (k := .i64) (a := ((zs.length : Nat) : Int)) (b := 120) rfl rfl) ?_
 refine q trivial rfl rfl (mv (v := .bool (decide (((zs.length : Nat) : Int) ≤ 120))) rfl) ?_
 refine spd (p := ((zs.length : Nat) : Int) ≤ 120) 6 rfl (fun h1 => ?_) (fun h1 => ?_)
 · refine q ⟨_, rfl, rfl⟩ rfl rfl (mv (v := .slice Azs zs.length czs) rfl) ?_
   refine cl ⟨_, rfl, rfl⟩ rfl (slContainsFunc (p := (fun x => (decide (¬ (0 ≤ x ∧ x ≤ 255))))) (Azs := Azs) (czs := czs) (zs := zs) (kf := 45) (w := _) (hzs := (hzs.up0 hs0)) (hf := (fun x w => iBV1 x w))) ?_
   rintro _ w1 ⟨rfl, hs1'⟩
   have hs1 : SH w w1 [] [] := hs0.call0 hs1'
   clear hs1'
   refine q ⟨_, rfl, rfl⟩ rfl rfl (nt (b := zs.any (fun x => (decide (¬ (0 ≤ x ∧ x ≤ 255))))) rfl) ?_
   refine q trivial rfl rfl (pt (v := .bool (!(zs.any (fun x => (decide (¬ (0 ≤ x ∧ x ≤ 255))))))) rfl rfl) ?_
   refine q trivial rfl rfl (asg (v := .bool (!(zs.any (fun x => (decide (¬ (0 ≤ x ∧ x ≤ 255))))))) rfl) ?_
   refine nl ?_
   refine nN ?_
   refine rt ?_
   refine fret (v := .bool (!(zs.any (fun x => (decide (¬ (0 ≤ x ∧ x ≤ 255))))))) (.tmp .nil) rfl ?_
   have e1 : (!(zs.any (fun x => (decide (¬ (0 ≤ x ∧ x ≤ 255)))))) = isBytes zs := by rw [← isBytes_not]; simp [*]
   exact ⟨(congrArg (Value.bool) e1), hs1⟩
 · refine gk false rfl rfl rfl rfl rfl ?_
   refine gk false rfl rfl rfl rfl rfl ?_
   refine gk false rfl rfl rfl rfl rfl ?_
   refine q trivial rfl rfl (pf (v := .bool false) rfl rfl) ?_
   refine q trivial rfl rfl (asg (v := .bool false) rfl) ?_
   refine nl ?_
   refine nN ?_
   refine rt ?_
   refine fret (v := .bool false) (.tmp .nil) rfl ?_
   have e2 : false = isBytes zs := by rw [← isBytes_not]; simp [*]
   exact ⟨(congrArg (Value.bool) e2), hs0⟩

theorem eqIntS {Axs : Option Addr} {cxs : Nat} (xs : List Int) {Abs : Option Addr} {cbs : Nat} (bs : List Int) (w : World) (hxs : Sl w [] 1 Axs xs.length cxs (xs.map I)) (hbs : Sl w [] 1 Abs bs.length cbs (bs.map I)) : Does Try.prog 10 [.slice Axs xs.length cxs, .slice Abs bs.length cbs] w (fun v w' => v = .bool (decide (xs = bs)) ∧ SH w w' [] []) := by
 refine fn_enter (N := 26) Try.func10 rfl (by kernel_rfl) rfl rfl rfl ?_
 have hs0 : SH w w [] [] := SH.refl w []
 have hxs_m : xs.length ≤ 9223372036854775807 := Nat.le_trans hxs.cap hxs.capMax
 have hbs_m : bs.length ≤ 9223372036854775807 := Nat.le_trans hbs.cap hbs.capMax
 refine sq ?_
 refine rg ?_
 refine q trivial rfl rfl (asg (v := .bool false) rfl) ?_
 refine nl ?_
 refine nN ?_
 refine sq ?_
 refine sq ?_
 refine rg ?_
 refine q trivial rfl rfl (mv (v := .slice Axs xs.length cxs) rfl) ?_
 refine q trivial rfl rfl (lnA (n := xs.length) sl24 rfl) ?_
 refine q trivial rfl rfl (mv (v := .slice Abs bs.length cbs) rfl) ?_
 refine q trivial rfl rfl (lnA (n := bs.length) sl24 rfl) ?_
 refine q trivial rfl rfl (nei (k := .i64) (a := ((xs.length : Nat) : Int)) (b := ((bs.length : Nat) : Int)) rfl rfl) ?_
 refine nl ?_
 refine nN ?_
 refine cdd (p := ((xs.length : Nat) : Int) ≠ ((bs.length : Nat) : Int)) rfl (fun h1 => ?_) (fun h1 => ?_)
 · refine sq ?_
   refine rg ?_
   refine q trivial rfl rfl (asg (v := .bool false) rfl) ?_
   refine nl ?_
   refine nN ?_
   refine rt (tR ?_)
   refine fret (v := .bool false) (.tmp .nil) rfl ?_
   have e1 : false = (decide (xs = bs)) := by simp; intro h; subst h; exact h1 rfl
   exact ⟨(congrArg (Value.bool) e1), hs0⟩
 · refine sk ?_
   refine nN ?_
   refine sq ?_
   refine sq ?_
   refine rg ?_
   refine q trivial rfl rfl (asg (v := I 0) rfl) ?_
   refine nl ?_
   refine nN ?_
   refine bl ?_
   refine lp (σ := Nat) (fun (k : Nat) f w' => Has f [(0, .slice Axs xs.length cxs), (1, .slice Abs bs.length cbs), (5, I ((k : Nat) : Int))] ∧ (xs.length = bs.length) ∧ (k ≤ xs.length) ∧ (xs.take k = bs.take k) ∧ SH w w' [] []) (fun k => xs.length - k) 0 ⟨⟨rfl, rfl, rfl, trivial⟩, (by omega), (by simp), (by simp), hs0⟩ ?_
   rintro k f w1 ⟨hf, hl, hk, ha, hs1⟩
   obtain ⟨g1, rfl⟩ := has_upd hf
   clear hf
   refine sq ?_
   refine sq ?_
   refine rg ?_
   refine q trivial rfl rfl (mv (v := I ((k : Nat) : Int)) rfl) ?_
   refine q trivial rfl rfl (mv (v := .slice Axs xs.length cxs) rfl) ?_
   refine q trivial rfl rfl (lnA (n := xs.length) sl24 rfl) ?_
   refine q trivial rfl rfl (lss (k := .i64) (a := ((k : Nat) : Int)) (b := ((xs.length : Nat) : Int)) rfl rfl) ?_
   refine nl ?_
   refine nN ?_
   refine cdd (p := ((k : Nat) : Int) < ((xs.length : Nat) : Int)) rfl (fun h2 => ?_) (fun h2 => ?_)
   · refine sk ?_
     refine nN ?_
     refine sq ?_
     refine bl ?_
     refine sq ?_
     refine rq (fun w' => SH w w' [] []) mixed (by kernel_rfl) hs1.drew ?_
     refine qq trivial rfl rfl (fun wq hsq => mv (v := .slice Axs xs.length cxs) rfl) ?_
     refine qq trivial rfl rfl (fun wq hsq => mv (v := I ((k : Nat) : Int)) rfl) ?_
     refine ixq1 k sl24 rfl rfl hxs (by first | omega | (simp; done) | (simp; omega)) (getm I 0 (by first | omega | (simp; done) | (simp; omega))) trivial rfl (fun a1 ha1 => ?_)
     refine qq trivial rfl rfl (fun wq hsq => lda (v := I (xs.getD k 0)) hsq ha1 (fun _ h => h) rfl rfl one3) ?_
     refine qq trivial rfl rfl (fun wq hsq => mv (v := .slice Abs bs.length cbs) rfl) ?_
     refine qq trivial rfl rfl (fun wq hsq => mv (v := I ((k : Nat) : Int)) rfl) ?_
     refine ixq1 k sl24 rfl rfl hbs (by first | omega | (simp; done) | (simp; omega)) (getm I 0 (by first | omega | (simp; done) | (simp; omega))) trivial rfl (fun a2 ha2 => ?_)
     refine qq trivial rfl rfl (fun wq hsq => lda (v := I (bs.getD k 0)) hsq ha2 (fun _ h => h) rfl rfl one3) ?_
     refine qq trivial rfl rfl (fun wq hsq => nei (k := .i64) (a := xs.getD k 0) (b := bs.getD k 0) rfl rfl) ?_
     refine qn (fun w2 hs2 => ?_)
     refine nN ?_
     refine cdd (p := (xs.getD k 0) ≠ (bs.getD k 0)) rfl (fun h3 => ?_) (fun h3 => ?_)
     · refine sq ?_
       refine rg ?_
       refine q trivial rfl rfl (asg (v := .bool false) rfl) ?_
       refine nl ?_
       refine nN ?_
       refine rt (bR (tR (tR (bR (tR ?_)))))
       refine fret (v := .bool false) (.tmp .nil) rfl ?_
       have e2 : false = (decide (xs = bs)) := by simp; intro h; subst h; exact h3 rfl
       exact ⟨(congrArg (Value.bool) e2), hs2⟩
     · refine sk ?_
       refine bN ?_
       refine nN ?_
       refine rg ?_
       refine q trivial rfl rfl (mv (v := I ((k : Nat) : Int)) rfl) ?_
       refine q trivial rfl rfl (add (a := ((k : Nat) : Int)) (b := 1) rfl rfl (by exact ⟨by omega, by omega⟩)) ?_
       refine q trivial rfl rfl (asg (v := I (((k : Nat) : Int) + 1)) rfl) ?_
       refine nl ?_
       refine nN ?_
       refine ⟨(k + 1), ⟨⟨rfl, rfl, rfl, trivial⟩, (hl), (by omega), (take_succ_eq (by omega) (by omega) ha (by simpa using h3)), hs2⟩, ?_⟩
       omega
   · refine ex (tE (tE (bE ?_)))
     refine nN ?_
     refine sq ?_
     refine rg ?_
     refine q trivial rfl rfl (asg (v := .bool true) rfl) ?_
     refine nl ?_
     refine nN ?_
     refine rt ?_
     refine fret (v := .bool true) (.tmp .nil) rfl ?_
     have e3 : true = (decide (xs = bs)) := by simp; exact take_all_eq hl (by omega) ha
     exact ⟨(congrArg (Value.bool) e3), hs1⟩

theorem heldIntS {Axs : Option Addr} {cxs : Nat} (xs : List Int) (k0 : Int) (w : World) (hxs : Sl w [] 1 Axs xs.length cxs (xs.map I)) (hxs_n : xs.length ≤ 1099511627776) (hk0 : 0 ≤ k0 ∧ k0 ≤ 4294967296) : Does Try.prog 14 [.slice Axs xs.length cxs, I k0] w (fun v w' => v = .int .i64 (heldI xs k0) ∧ SH w w' [] []) := by
 refine fn_enter (N := 21) Try.func14 rfl (by kernel_rfl) rfl rfl rfl ?_
 have hs0 : SH w w [] [] := SH.refl w []
 have hxs_m : xs.length ≤ 9223372036854775807 := Nat.le_trans hxs.cap hxs.capMax
 refine sq ?_
 refine rg ?_
 refine q trivial rfl rfl (asg (v := I 0) rfl) ?_
 refine nl ?_
 refine nN ?_
 refine sq ?_
 refine sq ?_
 refine rg ?_
 refine q trivial rfl rfl (asg (v := I 0) rfl) ?_
 refine nl ?_
 refine nN ?_
 refine bl ?_
 refine lp (σ := Nat) (fun (k : Nat) f w' => Has f [(0, .slice Axs xs.length cxs), (1, I (k0 + (k : Nat))), (5, I ((k : Nat) : Int))] ∧ (k ≤ xs.length) ∧ (xs.take k = marks k0 k) ∧ SH w w' [] []) (fun k => xs.length - k) 0 ⟨⟨rfl, (show (I k0 : Value) = I (k0 + (0 : Nat)) from congrArg (Value.int .i64) (by simp)), rfl, trivial⟩, (by simp), (by simp [marks]), hs0⟩ ?_
 rintro k f w1 ⟨hf, hk, hm, hs1⟩
 obtain ⟨g1, rfl⟩ := has_upd hf
 clear hf
 refine sq ?_
 refine sq ?_
 refine rg ?_
 refine q trivial rfl rfl (mv (v := I ((k : Nat) : Int)) rfl) ?_
 refine q trivial rfl rfl (mv (v := .slice Axs xs.length cxs) rfl) ?_
 refine q trivial rfl rfl (lnA (n := xs.length) sl24 rfl) ?_
 refine q trivial rfl rfl (lss (k := .i64) (a := ((k : Nat) : Int)) (b := ((xs.length : Nat) : Int)) rfl rfl) ?_
 refine nl ?_
 refine nN ?_
 refine cdd (p := ((k : Nat) : Int) < ((xs.length : Nat) : Int)) rfl (fun h1 => ?_) (fun h1 => ?_)
 · refine sk ?_
   refine nN ?_
   refine sq ?_
   refine bl ?_
   refine sq ?_
   refine sq ?_
   refine rg ?_
   refine q trivial rfl rfl (mv (v := .slice Axs xs.length cxs) rfl) ?_
   refine q trivial rfl rfl (mv (v := I ((k : Nat) : Int)) rfl) ?_
   refine ixw1 k sl24 rfl rfl hxs (by first | omega | (simp; done) | (simp; omega)) (getm I 0 (by first | omega | (simp; done) | (simp; omega))) trivial rfl (fun a1 ha1 => ?_)
   refine q trivial rfl rfl (lda (v := I (xs.getD k 0)) hs1 ha1 (fun _ h => h) rfl rfl one3) ?_
   refine q trivial rfl rfl (mv (v := I (k0 + (k : Nat))) rfl) ?_
   refine q trivial rfl rfl (nei (k := .i64) (a := xs.getD k 0) (b := k0 + (k : Nat)) rfl rfl) ?_
   refine nl ?_
   refine nN ?_
   refine cdd (p := (xs.getD k 0) ≠ (k0 + (k : Nat))) rfl (fun h2 => ?_) (fun h2 => ?_)
   · refine sq ?_
     refine rg ?_
     refine q trivial rfl rfl (asg (v := I (-1)) rfl) ?_
     refine nl ?_
     refine nN ?_
     refine rt (tR (bR (tR (tR (bR (tR ?_))))))
     refine fret (v := I (-1)) (.tmp .nil) rfl ?_
     have e1 : (-1) = heldI xs k0 := by exact held_no (by omega) hm (by omega)
     exact ⟨(congrArg (Value.int .i64) e1), hs1⟩
   · refine sk ?_
     refine nN ?_
     refine rg ?_
     refine q trivial rfl rfl (mv (v := I (k0 + (k : Nat))) rfl) ?_
     refine q trivial rfl rfl (add (a := k0 + (k : Nat)) (b := 1) rfl rfl (by exact ⟨by omega, by omega⟩)) ?_
     refine q trivial rfl rfl (asg (v := I ((k0 + (k : Nat)) + 1)) rfl) ?_
     refine nl ?_
     refine bN ?_
     refine nN ?_
     refine rg ?_
     refine q trivial rfl rfl (mv (v := I ((k : Nat) : Int)) rfl) ?_
     refine q trivial rfl rfl (add (a := ((k : Nat) : Int)) (b := 1) rfl rfl (by exact ⟨by omega, by omega⟩)) ?_
     refine q trivial rfl rfl (asg (v := I (((k : Nat) : Int) + 1)) rfl) ?_
     refine nl ?_
     refine nN ?_
     refine ⟨(k + 1), ⟨⟨rfl, (show (I ((k0 + (k : Nat)) + 1) : Value) = I (k0 + ((k + 1) : Nat)) from congrArg (Value.int .i64) (by omega)), rfl, trivial⟩, (by omega), (marks_take (by omega) hm (by omega)), hs1⟩, ?_⟩
     omega
 · refine ex (tE (tE (bE ?_)))
   refine nN ?_
   refine sq ?_
   refine rg ?_
   refine q trivial rfl rfl (mv (v := I (k0 + (k : Nat))) rfl) ?_
   refine q trivial rfl rfl (asg (v := I (k0 + (k : Nat))) rfl) ?_
   refine nl ?_
   refine nN ?_
   refine rt ?_
   refine fret (v := I (k0 + (k : Nat))) (.tmp .nil) rfl ?_
   have e2 : k0 + (k : Nat) = heldI xs k0 := by have : k = xs.length := (by omega); subst this; exact held_yes (by simpa using hm)
   exact ⟨(congrArg (Value.int .i64) e2), hs1⟩

theorem markIntS {Axs : Option Addr} {cxs : Nat} (xs : List Int) (k0 : Int) (w : World) (hxs : OwnR w Axs xs.length cxs 3 1 (xs.map I)) (hxs_n : xs.length ≤ 1099511627776) (hk0 : 0 ≤ k0 ∧ k0 ≤ 4294967296) : Does Try.prog 13 [.slice Axs xs.length cxs, I k0] w (fun v w' => v = .int .i64 (k0 + ((xs.length : Nat) : Int)) ∧ SH w w' (ownM Axs cxs ++ []) [.own Axs xs.length cxs 3 1 ((marks k0 xs.length).map I)]) := by
 refine fn_enter (N := 19) Try.func13 rfl (by kernel_rfl) rfl rfl rfl ?_
 have hs0 : SH w w (ownM Axs cxs ++ []) [.own Axs xs.length cxs 3 1 (xs.map I)] := entry1o hxs
 have hxs_m : xs.length ≤ 9223372036854775807 := Nat.le_trans hxs.2.1 hxs.2.2.1
 refine sq ?_
 refine rg ?_
 refine q trivial rfl rfl (asg (v := I 0) rfl) ?_
 refine nl ?_
 refine nN ?_
 refine sq ?_
 refine sq ?_
 refine rg ?_
 refine q trivial rfl rfl (asg (v := I 0) rfl) ?_
 refine nl ?_
 refine nN ?_
 refine bl ?_
 have e1 : xs = marks k0 0 ++ xs.drop 0 := by simp [marks]
 refine lp (σ := (Option Addr) × Nat × Nat) (fun ⟨Ag0, cg0, k⟩ f w' => Has f [(0, .slice Ag0 xs.length cg0), (1, I (k0 + (k : Nat))), (5, I ((k : Nat) : Int))] ∧ (k ≤ xs.length) ∧ (Ag0 = Axs) ∧ (cg0 = cxs) ∧ SH w w' (ownM Axs cxs ++ []) [.own Ag0 xs.length cg0 3 1 ((marks k0 k ++ xs.drop k).map I)]) (fun ⟨Ag0, cg0, k⟩ => xs.length - k) (Axs, cxs, 0) ⟨⟨rfl, (show (I k0 : Value) = I (k0 + (0 : Nat)) from congrArg (Value.int .i64) (by simp)), rfl, trivial⟩, (by simp), (rfl), (rfl), (hs0.cast (lc (own_eq (g := I) rfl rfl rfl e1) rfl))⟩ ?_
 rintro ⟨Ag0, cg0, k⟩ f w1 ⟨hf, hk, hA, hC, hs1⟩
 obtain ⟨g1, rfl⟩ := has_upd hf
 clear hf
 refine sq ?_
 refine sq ?_
 refine rg ?_
 refine q trivial rfl rfl (mv (v := I ((k : Nat) : Int)) rfl) ?_
 refine q trivial rfl rfl (mv (v := .slice Ag0 xs.length cg0) rfl) ?_
 refine q trivial rfl rfl (lnA (n := xs.length) sl24 rfl) ?_
 refine q trivial rfl rfl (lss (k := .i64) (a := ((k : Nat) : Int)) (b := ((xs.length : Nat) : Int)) rfl rfl) ?_
 refine nl ?_
 refine nN ?_
 refine cdd (p := ((k : Nat) : Int) < ((xs.length : Nat) : Int)) rfl (fun h1 => ?_) (fun h1 => ?_)
 · refine sk ?_
   refine nN ?_
   refine sq ?_
   refine bl ?_
   refine sq ?_
   refine rg ?_
   refine q trivial rfl rfl (mv (v := .slice Ag0 xs.length cg0) rfl) ?_
   refine q trivial rfl rfl (mv (v := I ((k : Nat) : Int)) rfl) ?_
   refine q trivial rfl rfl (mv (v := I (k0 + (k : Nat))) rfl) ?_
   obtain ⟨b1, rfl⟩ := own_form hs1 0 rfl (by first | omega | (simp; done) | (simp; omega))
   refine q trivial rfl rfl (ixo k sl24 rfl rfl (by first | omega | (simp; done) | (simp; omega))) ?_
   refine stomn (g := I) (ys := marks k0 k ++ xs.drop k) (o := k) (u := k0 + (k : Nat)) hs1 0 rfl rfl rfl rfl (by omega) rfl one3 trivial (fun w2 (hs2 : SH w w2 (ownM Axs cxs ++ []) [.own (some ⟨b1, 0, none⟩) xs.length cg0 3 1 (((marks k0 k ++ xs.drop k).set k (k0 + (k : Nat))).map I)]) => ?_)
   refine nl ?_
   refine nN ?_
   refine rg ?_
   refine q trivial rfl rfl (mv (v := I (k0 + (k : Nat))) rfl) ?_
   refine q trivial rfl rfl (add (a := k0 + (k : Nat)) (b := 1) rfl rfl (by exact ⟨by omega, by omega⟩)) ?_
   refine q trivial rfl rfl (asg (v := I ((k0 + (k : Nat)) + 1)) rfl) ?_
   refine nl ?_
   refine bN ?_
   refine nN ?_
   refine rg ?_
   refine q trivial rfl rfl (mv (v := I ((k : Nat) : Int)) rfl) ?_
   refine q trivial rfl rfl (add (a := ((k : Nat) : Int)) (b := 1) rfl rfl (by exact ⟨by omega, by omega⟩)) ?_
   refine q trivial rfl rfl (asg (v := I (((k : Nat) : Int) + 1)) rfl) ?_
   refine nl ?_
   refine nN ?_
   have e2 : (marks k0 k ++ xs.drop k).set k (k0 + (k : Nat)) = marks k0 (k + 1) ++ xs.drop (k + 1) := by exact marks_set (by omega)
   refine ⟨((some ⟨b1, 0, none⟩), cg0, k + 1), ⟨⟨rfl, (show (I ((k0 + (k : Nat)) + 1) : Value) = I (k0 + ((k + 1) : Nat)) from congrArg (Value.int .i64) (by omega)), rfl, trivial⟩, (by omega), (hA), (hC), (hs2.cast (lc (own_eq (g := I) rfl rfl rfl e2) rfl))⟩, ?_⟩
   show xs.length - (k + 1) < xs.length - k
   omega
 · refine ex (tE (tE (bE ?_)))
   refine nN ?_
   refine sq ?_
   refine rg ?_
   refine q trivial rfl rfl (mv (v := I (k0 + (k : Nat))) rfl) ?_
   refine q trivial rfl rfl (asg (v := I (k0 + (k : Nat))) rfl) ?_
   refine nl ?_
   refine nN ?_
   refine rt ?_
   refine fret (v := I (k0 + (k : Nat))) (.tmp .nil) rfl ?_
   have e3 : k0 + (k : Nat) = k0 + ((xs.length : Nat) : Int) := by have : k = xs.length := (by omega); subst this; rfl
   have e4 : Ag0 = Axs := by assumption
   have e5 : cg0 = cxs := by assumption
   have e6 : marks k0 k ++ xs.drop k = marks k0 xs.length := by have : k = xs.length := (by omega); subst this; simp
   exact ⟨(congrArg (Value.int .i64) e3), (hs1.cast (lc (own_eq (g := I) e4 rfl e5 e6) rfl))⟩

theorem toIntS {Axs : Option Addr} {cxs : Nat} (xs : List Int) (w : World) (hxs : Sl w [] 1 Axs xs.length cxs (xs.map I)) (hxs_n : xs.length ≤ 1099511627776) : Does Try.prog 20 [.slice Axs xs.length cxs] w (fun v w' => ∃ Ar : Option Addr, ∃ cr : Nat, v = .slice Ar xs.length cr ∧ SH w w' [] [.own Ar xs.length cr 3 1 (xs.map I)]) := by
 refine fn_enter (N := 22) Try.func20 rfl (by kernel_rfl) rfl rfl rfl ?_
 have hs0 : SH w w [] [] := SH.refl w []
 have hxs_m : xs.length ≤ 9223372036854775807 := Nat.le_trans hxs.cap hxs.capMax
 refine sq ?_
 refine rg ?_
 refine q trivial rfl rfl (asg (v := ns) rfl) ?_
 refine nl ?_
 refine nN ?_
 refine sq ?_
 refine rg ?_
 refine q trivial rfl rfl (mv (v := .slice Axs xs.length cxs) rfl) ?_
 refine q trivial rfl rfl (lnA (n := xs.length) sl24 rfl) ?_
 refine mkm (g := I) (z := 0) (n := xs.length) hs0 sl24 rfl rfl rfl (by omega) (by unfold maxLen; omega) trivial rfl (fun b1 w1 (hs1 : SH w w1 [] [oI b1 (List.replicate xs.length (0 : Int)) xs.length 3]) => ?_)
 refine q trivial rfl rfl (asg (v := sb b1 ((List.replicate xs.length (0 : Int)).length) xs.length) rfl) ?_
 refine nl ?_
 refine nN ?_
 refine sq ?_
 refine sq ?_
 refine rg ?_
 refine q trivial rfl rfl (asg (v := I 0) rfl) ?_
 refine nl ?_
 refine nN ?_
 refine bl ?_
 have e1 : List.replicate xs.length (0 : Int) = xs.take 0 ++ List.replicate (xs.length - 0) (0 : Int) := by simp
 have e2 : (List.replicate xs.length (0 : Int)).length = xs.length := by first | rfl | (simp; done) | (simp; omega) | omega
 refine lp (σ := (Option Addr) × Nat × Nat) (fun ⟨Ag3, cg3, k⟩ f w' => Has f [(0, .slice Axs xs.length cxs), (3, .slice Ag3 xs.length cg3), (4, I ((k : Nat) : Int))] ∧ (k ≤ xs.length) ∧ SH w w' [] [.own Ag3 xs.length cg3 3 1 ((xs.take k ++ List.replicate (xs.length - k) (0 : Int)).map I)]) (fun ⟨Ag3, cg3, k⟩ => xs.length - k) ((some ⟨b1, 0, none⟩), xs.length, 0) ⟨⟨rfl, (show (.slice (some ⟨b1, 0, none⟩) ((List.replicate xs.length (0 : Int)).length) xs.length : Value) = .slice (some ⟨b1, 0, none⟩) xs.length xs.length from slv rfl e2 rfl), rfl, trivial⟩, (by simp), (hs1.cast (lc (own_eq (g := I) rfl e2 rfl e1) rfl))⟩ ?_
 rintro ⟨Ag3, cg3, k⟩ f w2 ⟨hf, hk, hs2⟩
 obtain ⟨g1, rfl⟩ := has_upd hf
 clear hf
 refine sq ?_
 refine sq ?_
 refine rg ?_
 refine q trivial rfl rfl (mv (v := I ((k : Nat) : Int)) rfl) ?_
 refine q trivial rfl rfl (mv (v := .slice Axs xs.length cxs) rfl) ?_
 refine q trivial rfl rfl (lnA (n := xs.length) sl24 rfl) ?_
 refine q trivial rfl rfl (lss (k := .i64) (a := ((k : Nat) : Int)) (b := ((xs.length : Nat) : Int)) rfl rfl) ?_
 refine nl ?_
 refine nN ?_
 refine cdd (p := ((k : Nat) : Int) < ((xs.length : Nat) : Int)) rfl (fun h1 => ?_) (fun h1 => ?_)
 · refine sk ?_
   refine nN ?_
   refine sq ?_
   refine bl ?_
   refine rg ?_
   refine q trivial rfl rfl (mv (v := .slice Ag3 xs.length cg3) rfl) ?_
   refine q trivial rfl rfl (mv (v := I ((k : Nat) : Int)) rfl) ?_
   refine q trivial rfl rfl (mv (v := .slice Axs xs.length cxs) rfl) ?_
   refine q trivial rfl rfl (mv (v := I ((k : Nat) : Int)) rfl) ?_
   refine ixw1 k sl24 rfl rfl hxs (by first | omega | (simp; done) | (simp; omega)) (getm I 0 (by first | omega | (simp; done) | (simp; omega))) trivial rfl (fun a1 ha1 => ?_)
   refine q trivial rfl rfl (lda (v := I (xs.getD k 0)) hs2 ha1 (fun _ h => h) rfl rfl one3) ?_
   obtain ⟨b2, rfl⟩ := own_form hs2 0 rfl (by first | omega | (simp; done) | (simp; omega))
   refine q trivial rfl rfl (ixo k sl24 rfl rfl (by first | omega | (simp; done) | (simp; omega))) ?_
   refine stomn (g := I) (ys := xs.take k ++ List.replicate (xs.length - k) (0 : Int)) (o := k) (u := xs.getD k 0) hs2 0 rfl rfl rfl rfl (by first | omega | (simp; done) | (simp; omega)) rfl one3 trivial (fun w3 (hs3 : SH w w3 [] [.own (some ⟨b2, 0, none⟩) xs.length cg3 3 1 (((xs.take k ++ List.replicate (xs.length - k) (0 : Int)).set k (xs.getD k 0)).map I)]) => ?_)
   refine nl ?_
   refine bN ?_
   refine nN ?_
   refine rg ?_
   refine q trivial rfl rfl (mv (v := I ((k : Nat) : Int)) rfl) ?_
   refine q trivial rfl rfl (add (a := ((k : Nat) : Int)) (b := 1) rfl rfl (by exact ⟨by omega, by omega⟩)) ?_
   refine q trivial rfl rfl (asg (v := I (((k : Nat) : Int) + 1)) rfl) ?_
   refine nl ?_
   refine nN ?_
   have e3 : (xs.take k ++ List.replicate (xs.length - k) (0 : Int)).set k (xs.getD k 0) = xs.take (k + 1) ++ List.replicate (xs.length - (k + 1)) (0 : Int) := by exact copy_set (by omega)
   refine ⟨((some ⟨b2, 0, none⟩), cg3, k + 1), ⟨⟨rfl, rfl, rfl, trivial⟩, (by omega), (hs3.cast (lc (own_eq (g := I) rfl rfl rfl e3) rfl))⟩, ?_⟩
   show xs.length - (k + 1) < xs.length - k
   omega
 · refine ex (tE (tE (bE ?_)))
   refine nN ?_
   refine sq ?_
   refine rg ?_
   refine q trivial rfl rfl (mv (v := .slice Ag3 xs.length cg3) rfl) ?_
   refine q trivial rfl rfl (asg (v := .slice Ag3 xs.length cg3) rfl) ?_
   refine nl ?_
   refine nN ?_
   refine rt ?_
   refine fret (v := .slice Ag3 xs.length cg3) (.tmp .nil) rfl ?_
   have e4 : xs.take k ++ List.replicate (xs.length - k) (0 : Int) = xs := by have : k = xs.length := (by omega); subst this; simp
   exact ⟨Ag3, cg3, rfl, (hs2.cast (lc (own_eq (g := I) rfl rfl rfl e4) rfl))⟩

theorem szIntS {Axs : Option Addr} {cxs : Nat} (xs : List Int) (z : Int) (w : World) (hxs : Sl w [] 1 Axs xs.length cxs (xs.map I)) (hz : 0 ≤ z ∧ z ≤ 1099511627776) : Does Try.prog 18 [.slice Axs xs.length cxs, I z] w (fun v w' => v = .int .i64 (szI xs.length z) ∧ SH w w' [] []) := by
 refine fn_enter (N := 12) Try.func18 rfl (by kernel_rfl) rfl rfl rfl ?_
 have hs0 : SH w w [] [] := SH.refl w []
 have hxs_m : xs.length ≤ 9223372036854775807 := Nat.le_trans hxs.cap hxs.capMax
 refine sq ?_
 refine rg ?_
 refine q trivial rfl rfl (asg (v := I 0) rfl) ?_
 refine nl ?_
 refine nN ?_
 refine sq ?_
 refine rg ?_
 refine q trivial rfl rfl (mv (v := I z) rfl) ?_
 refine q trivial rfl rfl (mv (v := .slice Axs xs.length cxs) rfl) ?_
 refine q trivial rfl rfl (lnA (n := xs.length) sl24 rfl) ?_
 refine q trivial rfl rfl (sub (a := z) (b := ((xs.length : Nat) : Int)) rfl rfl (by exact ⟨by omega, by omega⟩)) ?_
 refine q trivial rfl rfl (asg (v := I (z - ((xs.length : Nat) : Int))) rfl) ?_
 refine nl ?_
 refine nN ?_
 refine sq ?_
 refine sq ?_
 refine rg ?_
 refine q trivial rfl rfl (mv (v := I (z - ((xs.length : Nat) : Int))) rfl) ?_
 refine q trivial rfl rfl (lss (k := .i64) (a := z - ((xs.length : Nat) : Int)) (b := 0) rfl rfl) ?_
 refine nl ?_
 refine nN ?_
 refine cdd (p := (z - ((xs.length : Nat) : Int)) < 0) rfl (fun h1 => ?_) (fun h1 => ?_)
 · refine sq ?_
   refine rg ?_
   refine q trivial rfl rfl (asg (v := I (-1)) rfl) ?_
   refine nl ?_
   refine nN ?_
   refine rt (tR ?_)
   refine fret (v := I (-1)) (.tmp .nil) rfl ?_
   have e1 : (-1) = szI xs.length z := by simp [szI] <;> omega
   exact ⟨(congrArg (Value.int .i64) e1), hs0⟩
 · refine sk ?_
   refine nN ?_
   refine sq ?_
   refine rg ?_
   refine q trivial rfl rfl (mv (v := I (z - ((xs.length : Nat) : Int))) rfl) ?_
   refine q trivial rfl rfl (asg (v := I (z - ((xs.length : Nat) : Int))) rfl) ?_
   refine nl ?_
   refine nN ?_
   refine rt ?_
   refine fret (v := I (z - ((xs.length : Nat) : Int))) (.tmp .nil) rfl ?_
   have e2 : z - ((xs.length : Nat) : Int) = szI xs.length z := by simp [szI] <;> omega
   exact ⟨(congrArg (Value.int .i64) e2), hs0⟩

theorem iTextBytes (s : List UInt8) (w : World) (hs_n : s.length ≤ 2147483648) : Does Try.prog 26 [Str s] w (fun v w' => ∃ Ar : Option Addr, ∃ cr : Nat, v = .slice Ar (textI s).length cr ∧ SH w w' [] [.own Ar ((textI s).length) cr 3 1 ((textI s).map I)]) := by
 refine fn_enter (N := 22) Try.func26 rfl (by kernel_rfl) rfl rfl rfl ?_
 have hs0 : SH w w [] [] := SH.refl w []
 refine sq ?_
 refine rg ?_
 refine q trivial rfl rfl (asg (v := ns) rfl) ?_
 refine nl ?_
 refine nN ?_
 refine sq ?_
 refine rg ?_
 refine q trivial rfl rfl (mv (v := Str s) rfl) ?_
 refine q trivial rfl rfl (lnS (l := s) st9 rfl) ?_
 refine mkm (g := I) (z := 0) (n := s.length) hs0 sl24 rfl rfl rfl (by omega) (by unfold maxLen; omega) trivial rfl (fun b1 w1 (hs1 : SH w w1 [] [oI b1 (List.replicate s.length (0 : Int)) s.length 3]) => ?_)
 refine q trivial rfl rfl (asg (v := sb b1 ((List.replicate s.length (0 : Int)).length) s.length) rfl) ?_
 refine nl ?_
 refine nN ?_
 refine sq ?_
 refine sq ?_
 refine rg ?_
 refine q trivial rfl rfl (mv (v := sb b1 ((List.replicate s.length (0 : Int)).length) s.length) rfl) ?_
 refine q trivial rfl rfl (lnA (n := (List.replicate s.length (0 : Int)).length) sl24 rfl) ?_
 refine q trivial rfl rfl (mv (v := I 0) rfl) ?_
 refine nl ?_
 refine nN ?_
 refine bl ?_
 have e1 : List.replicate s.length (0 : Int) = (textI s).take 0 ++ List.replicate (s.length - 0) (0 : Int) := by simp
 have e2 : (List.replicate s.length (0 : Int)).length = s.length := by first | rfl | (simp; done) | (simp; omega) | omega
 refine lp (σ := (Option Addr) × Nat × Nat) (fun ⟨Ag3, cg3, k⟩ f w' => Has f [(0, Str s), (3, .slice Ag3 s.length cg3), (9, I (((List.replicate s.length (0 : Int)).length : Nat) : Int)), (10, I ((k : Nat) : Int))] ∧ (k ≤ s.length) ∧ SH w w' [] [.own Ag3 s.length cg3 3 1 (((textI s).take k ++ List.replicate (s.length - k) (0 : Int)).map I)]) (fun ⟨Ag3, cg3, k⟩ => s.length - k) ((some ⟨b1, 0, none⟩), s.length, 0) ⟨⟨rfl, (show (.slice (some ⟨b1, 0, none⟩) ((List.replicate s.length (0 : Int)).length) s.length : Value) = .slice (some ⟨b1, 0, none⟩) s.length s.length from slv rfl e2 rfl), rfl, rfl, trivial⟩, (by simp), (hs1.cast (lc (own_eq (g := I) rfl e2 rfl e1) rfl))⟩ ?_
 rintro ⟨Ag3, cg3, k⟩ f w2 ⟨hf, hk, hs2⟩
 obtain ⟨g1, rfl⟩ := has_upd hf
 clear hf
 refine sq ?_
 refine rg ?_
 refine q trivial rfl rfl (lss (k := .i64) (a := ((k : Nat) : Int)) (b := (((List.replicate s.length (0 : Int)).length : Nat) : Int)) rfl rfl) ?_
 refine nl ?_
 refine nN ?_
 refine sq ?_
 refine cdd (p := ((k : Nat) : Int) < (((List.replicate s.length (0 : Int)).length : Nat) : Int)) rfl (fun h1 => ?_) (fun h1 => ?_)
 · refine sk ?_
   refine nN ?_
   refine sq ?_
   refine bl ?_
   refine sq ?_
   refine rg ?_
   refine q trivial rfl rfl (mv (v := I ((k : Nat) : Int)) rfl) ?_
   refine q trivial rfl rfl (asg (v := I ((k : Nat) : Int)) rfl) ?_
   refine nl ?_
   refine nN ?_
   refine rg ?_
   refine q trivial rfl rfl (mv (v := .slice Ag3 s.length cg3) rfl) ?_
   refine q trivial rfl rfl (mv (v := I ((k : Nat) : Int)) rfl) ?_
   refine q trivial rfl rfl (mv (v := Str s) rfl) ?_
   refine q trivial rfl rfl (mv (v := I ((k : Nat) : Int)) rfl) ?_
   refine q trivial rfl rfl (ixs (l := s) k st9 rfl rfl (by first | omega | (simp; done) | (simp; omega))) ?_
   refine q trivial rfl rfl (cvI (a := (((s.getD k 0).toNat : Nat) : Int)) (s := .u8) ti5 ti3 rfl (by have := u8_bd ((s.getD k 0)); exact ⟨by omega, by omega⟩)) ?_
   obtain ⟨b2, rfl⟩ := own_form hs2 0 rfl (by first | omega | (simp; done) | (simp; omega))
   refine q trivial rfl rfl (ixo k sl24 rfl rfl (by first | omega | (simp; done) | (simp; omega))) ?_
   refine stomn (g := I) (ys := (textI s).take k ++ List.replicate (s.length - k) (0 : Int)) (o := k) (u := (((s.getD k 0).toNat : Nat) : Int)) hs2 0 rfl rfl rfl rfl (by first | omega | (simp; done) | (simp; omega)) rfl one3 trivial (fun w3 (hs3 : SH w w3 [] [.own (some ⟨b2, 0, none⟩) s.length cg3 3 1 ((((textI s).take k ++ List.replicate (s.length - k) (0 : Int)).set k (((s.getD k 0).toNat : Nat) : Int)).map I)]) => ?_)
   refine nl ?_
   refine bN ?_
   refine nN ?_
   refine rg ?_
   refine q trivial rfl rfl (add (a := ((k : Nat) : Int)) (b := 1) rfl rfl (by exact ⟨by omega, by omega⟩)) ?_
   refine q trivial rfl rfl (mv (v := I (((k : Nat) : Int) + 1)) rfl) ?_
   refine nl ?_
   refine nN ?_
   have e3 : ((textI s).take k ++ List.replicate (s.length - k) (0 : Int)).set k (((s.getD k 0).toNat : Nat) : Int) = (textI s).take (k + 1) ++ List.replicate (s.length - (k + 1)) (0 : Int) := by exact textI_set (by omega)
   refine ⟨((some ⟨b2, 0, none⟩), cg3, k + 1), ⟨⟨rfl, rfl, rfl, rfl, trivial⟩, (by omega), (hs3.cast (lc (own_eq (g := I) rfl rfl rfl e3) rfl))⟩, ?_⟩
   show s.length - (k + 1) < s.length - k
   omega
 · refine ex (tE (tE (bE ?_)))
   refine nN ?_
   refine sq ?_
   refine rg ?_
   refine q trivial rfl rfl (mv (v := .slice Ag3 s.length cg3) rfl) ?_
   refine q trivial rfl rfl (asg (v := .slice Ag3 s.length cg3) rfl) ?_
   refine nl ?_
   refine nN ?_
   refine rt ?_
   refine fret (v := .slice Ag3 s.length cg3) (.tmp .nil) rfl ?_
   have e4 : (textI s).take k ++ List.replicate (s.length - k) (0 : Int) = textI s := by have : k = s.length := (by omega); subst this; rw [textI_all (Nat.le_refl _)]; simp
   have e5 : s.length = (textI s).length := by exact (show s.length = ((textI s).take k ++ List.replicate (s.length - k) (0 : Int)).length by (simp [textI_len]; omega)).trans (congrArg List.length e4)
   exact ⟨Ag3, cg3, (slv rfl e5 rfl), (hs2.cast (lc (own_eq (g := I) rfl e5 rfl e4) rfl))⟩

theorem slEqual {Axs : Option Addr} {cxs : Nat} (xs : List Int) {Abs : Option Addr} {cbs : Nat} (bs : List Int) (w : World) (hxs : Sl w [] 1 Axs xs.length cxs (xs.map I)) (hbs : Sl w [] 1 Abs bs.length cbs (bs.map I)) : Does Try.prog 47 [.slice Axs xs.length cxs, .slice Abs bs.length cbs] w (fun v w' => v = .bool (decide (xs = bs)) ∧ SH w w' [] []) := by
 refine fn_enter (N := 26) Try.func47 rfl (by kernel_rfl) rfl rfl rfl ?_
 have hs0 : SH w w [] [] := SH.refl w []
 have hxs_m : xs.length ≤ 9223372036854775807 := Nat.le_trans hxs.cap hxs.capMax
 have hbs_m : bs.length ≤ 9223372036854775807 := Nat.le_trans hbs.cap hbs.capMax
 refine sq ?_
 refine rg ?_
 refine q trivial rfl rfl (asg (v := .bool false) rfl) ?_
 refine nl ?_
 refine nN ?_
 refine sq ?_
 refine sq ?_
 refine rg ?_
 refine q trivial rfl rfl (mv (v := .slice Axs xs.length cxs) rfl) ?_
 refine q trivial rfl rfl (lnA (n := xs.length) sl24 rfl) ?_
 refine q trivial rfl rfl (mv (v := .slice Abs bs.length cbs) rfl) ?_
 refine q trivial rfl rfl (lnA (n := bs.length) sl24 rfl) ?_
 refine q trivial rfl rfl (nei (k := .i64) (a := ((xs.length : Nat) : Int)) (b := ((bs.length : Nat) : Int)) rfl rfl) ?_
 refine nl ?_
 refine nN ?_
 refine cdd (p := ((xs.length : Nat) : Int) ≠ ((bs.length : Nat) : Int)) rfl (fun h1 => ?_) (fun h1 => ?_)
 · refine sq ?_
   refine rg ?_
   refine q trivial rfl rfl (asg (v := .bool false) rfl) ?_
   refine nl ?_
   refine nN ?_
   refine rt (tR ?_)
   refine fret (v := .bool false) (.tmp .nil) rfl ?_
   have e1 : false = (decide (xs = bs)) := by simp; intro h; subst h; exact h1 rfl
   exact ⟨(congrArg (Value.bool) e1), hs0⟩
 · refine sk ?_
   refine nN ?_
   refine sq ?_
   refine sq ?_
   refine rg ?_
   refine q trivial rfl rfl (mv (v := .slice Axs xs.length cxs) rfl) ?_
   refine q trivial rfl rfl (lnA (n := xs.length) sl24 rfl) ?_
   refine q trivial rfl rfl (mv (v := I 0) rfl) ?_
   refine nl ?_
   refine nN ?_
   refine bl ?_
   refine lp (σ := Nat) (fun (k : Nat) f w' => Has f [(0, .slice Axs xs.length cxs), (1, .slice Abs bs.length cbs), (12, I ((xs.length : Nat) : Int)), (13, I ((k : Nat) : Int))] ∧ (xs.length = bs.length) ∧ (k ≤ xs.length) ∧ (xs.take k = bs.take k) ∧ SH w w' [] []) (fun k => xs.length - k) 0 ⟨⟨rfl, rfl, rfl, rfl, trivial⟩, (by omega), (by simp), (by simp), hs0⟩ ?_
   rintro k f w1 ⟨hf, hl, hk, ha, hs1⟩
   obtain ⟨g1, rfl⟩ := has_upd hf
   clear hf
   refine sq ?_
   refine rg ?_
   refine q trivial rfl rfl (lss (k := .i64) (a := ((k : Nat) : Int)) (b := ((xs.length : Nat) : Int)) rfl rfl) ?_
   refine nl ?_
   refine nN ?_
   refine sq ?_
   refine cdd (p := ((k : Nat) : Int) < ((xs.length : Nat) : Int)) rfl (fun h2 => ?_) (fun h2 => ?_)
   · refine sk ?_
     refine nN ?_
     refine sq ?_
     refine bl ?_
     refine sq ?_
     refine rg ?_
     refine q trivial rfl rfl (mv (v := I ((k : Nat) : Int)) rfl) ?_
     refine q trivial rfl rfl (asg (v := I ((k : Nat) : Int)) rfl) ?_
     refine nl ?_
     refine nN ?_
     refine sq ?_
     refine rq (fun w' => SH w w' [] []) mixed (by kernel_rfl) hs1.drew ?_
     refine qq trivial rfl rfl (fun wq hsq => mv (v := .slice Axs xs.length cxs) rfl) ?_
     refine qq trivial rfl rfl (fun wq hsq => mv (v := I ((k : Nat) : Int)) rfl) ?_
     refine ixq1 k sl24 rfl rfl hxs (by first | omega | (simp; done) | (simp; omega)) (getm I 0 (by first | omega | (simp; done) | (simp; omega))) trivial rfl (fun a1 ha1 => ?_)
     refine qq trivial rfl rfl (fun wq hsq => lda (v := I (xs.getD k 0)) hsq ha1 (fun _ h => h) rfl rfl one3) ?_
     refine qq trivial rfl rfl (fun wq hsq => mv (v := .slice Abs bs.length cbs) rfl) ?_
     refine qq trivial rfl rfl (fun wq hsq => mv (v := I ((k : Nat) : Int)) rfl) ?_
     refine ixq1 k sl24 rfl rfl hbs (by first | omega | (simp; done) | (simp; omega)) (getm I 0 (by first | omega | (simp; done) | (simp; omega))) trivial rfl (fun a2 ha2 => ?_)
     refine qq trivial rfl rfl (fun wq hsq => lda (v := I (bs.getD k 0)) hsq ha2 (fun _ h => h) rfl rfl one3) ?_
     refine qq trivial rfl rfl (fun wq hsq => nei (k := .i64) (a := xs.getD k 0) (b := bs.getD k 0) rfl rfl) ?_
     refine qn (fun w2 hs2 => ?_)
     refine nN ?_
     refine cdd (p := (xs.getD k 0) ≠ (bs.getD k 0)) rfl (fun h3 => ?_) (fun h3 => ?_)
     · refine sq ?_
       refine rg ?_
       refine q trivial rfl rfl (asg (v := .bool false) rfl) ?_
       refine nl ?_
       refine nN ?_
       refine rt (bR (tR (tR (bR (tR ?_)))))
       refine fret (v := .bool false) (.tmp .nil) rfl ?_
       have e2 : false = (decide (xs = bs)) := by simp; intro h; subst h; exact h3 rfl
       exact ⟨(congrArg (Value.bool) e2), hs2⟩
     · refine sk ?_
       refine bN ?_
       refine nN ?_
       refine rg ?_
       refine q trivial rfl rfl (add (a := ((k : Nat) : Int)) (b := 1) rfl rfl (by exact ⟨by omega, by omega⟩)) ?_
       refine q trivial rfl rfl (mv (v := I (((k : Nat) : Int) + 1)) rfl) ?_
       refine nl ?_
       refine nN ?_
       refine ⟨(k + 1), ⟨⟨rfl, rfl, rfl, rfl, trivial⟩, (hl), (by omega), (take_succ_eq (by omega) (by omega) ha (by simpa using h3)), hs2⟩, ?_⟩
       omega
   · refine ex (tE (tE (bE ?_)))
     refine nN ?_
     refine sq ?_
     refine rg ?_
     refine q trivial rfl rfl (asg (v := .bool true) rfl) ?_
     refine nl ?_
     refine nN ?_
     refine rt ?_
     refine fret (v := .bool true) (.tmp .nil) rfl ?_
     have e3 : true = (decide (xs = bs)) := by simp; exact take_all_eq hl (by omega) ha
     exact ⟨(congrArg (Value.bool) e3), hs1⟩

theorem sL16Begin  (w : World)  : Does Try.prog 49 [] w (fun v w' => ∃ Ar : Option Addr, ∃ cr : Nat, v = .slice Ar headP.length cr ∧ SH w w' [] [.own Ar headP.length cr 3 1 (headP.map I)]) := by
 refine fn_enter (N := 2) Try.func49 rfl (by kernel_rfl) rfl rfl rfl ?_
 have hs0 : SH w w [] [] := SH.refl w []
 refine sq ?_
 refine rg ?_
 refine q trivial rfl rfl (asg (v := ns) rfl) ?_
 refine nl ?_
 refine nN ?_
 refine sq ?_
 refine rg ?_
 refine bsk hs0 sl24 [I 13, I 10, I 13, I 10, I 0, I 13, I 10, I 81, I 85, I 73, I 84, I 10, I 33, I 17] [I 13, I 10, I 13, I 10, I 0, I 13, I 10, I 81, I 85, I 73, I 84, I 10, I 33, I 17] trivial rfl (fun b1 w1 (hs1 : SH w w1 [] [oI b1 ([13, 10, 13, 10, 0, 13, 10, 81, 85, 73, 84, 10, 33, 17] : List Int) 14 3]) => ?_)
 refine q trivial rfl rfl (asg (v := sb b1 (([13, 10, 13, 10, 0, 13, 10, 81, 85, 73, 84, 10, 33, 17] : List Int).length) 14) rfl) ?_
 refine nl ?_
 refine nN ?_
 refine rt ?_
 refine fret (v := sb b1 (([13, 10, 13, 10, 0, 13, 10, 81, 85, 73, 84, 10, 33, 17] : List Int).length) 14) (.tmp .nil) rfl ?_
 have e1 : ([13, 10, 13, 10, 0, 13, 10, 81, 85, 73, 84, 10, 33, 17] : List Int) = headP := by rfl
 have e2 : ([13, 10, 13, 10, 0, 13, 10, 81, 85, 73, 84, 10, 33, 17] : List Int).length = headP.length := by exact congrArg List.length e1
 exact ⟨(some ⟨b1, 0, none⟩), 14, (slv rfl e2 rfl), (hs1.cast (lc (own_eq (g := I) rfl e2 rfl e1) rfl))⟩

theorem iHeadStart  (w : World)  : Does Try.prog 27 [] w (fun v w' => ∃ Ar : Option Addr, ∃ cr : Nat, v = .slice Ar headP.length cr ∧ SH w w' [] [.own Ar headP.length cr 3 1 (headP.map I)]) := by
 refine fn_enter (N := 2) Try.func27 rfl (by kernel_rfl) rfl rfl rfl ?_
 have hs0 : SH w w [] [] := SH.refl w []
 refine sq ?_
 refine rg ?_
 refine q trivial rfl rfl (asg (v := ns) rfl) ?_
 refine nl ?_
 refine nN ?_
 refine sq ?_
 refine rg ?_
 refine bsk hs0 sl24 [I 13, I 10, I 13, I 10, I 0, I 13, I 10, I 81, I 85, I 73, I 84, I 10, I 33, I 17] [I 13, I 10, I 13, I 10, I 0, I 13, I 10, I 81, I 85, I 73, I 84, I 10, I 33, I 17] trivial rfl (fun b1 w1 (hs1 : SH w w1 [] [oI b1 ([13, 10, 13, 10, 0, 13, 10, 81, 85, 73, 84, 10, 33, 17] : List Int) 14 3]) => ?_)
 refine q trivial rfl rfl (asg (v := sb b1 (([13, 10, 13, 10, 0, 13, 10, 81, 85, 73, 84, 10, 33, 17] : List Int).length) 14) rfl) ?_
 refine nl ?_
 refine nN ?_
 refine rt ?_
 refine fret (v := sb b1 (([13, 10, 13, 10, 0, 13, 10, 81, 85, 73, 84, 10, 33, 17] : List Int).length) 14) (.tmp .nil) rfl ?_
 have e1 : ([13, 10, 13, 10, 0, 13, 10, 81, 85, 73, 84, 10, 33, 17] : List Int) = headP := by rfl
 have e2 : ([13, 10, 13, 10, 0, 13, 10, 81, 85, 73, 84, 10, 33, 17] : List Int).length = headP.length := by exact congrArg List.length e1
 exact ⟨(some ⟨b1, 0, none⟩), 14, (slv rfl e2 rfl), (hs1.cast (lc (own_eq (g := I) rfl e2 rfl e1) rfl))⟩

theorem sL21Known (f : Bool) (k : Int) (w : World)  : Does Try.prog 31 [.bool f, I k] w (fun v w' => v = .int .i64 (if f = true then k else 0) ∧ SH w w' [] []) := by
 refine fn_enter (N := 7) Try.func31 rfl (by kernel_rfl) rfl rfl rfl ?_
 have hs0 : SH w w [] [] := SH.refl w []
 refine sq ?_
 refine rg ?_
 refine q trivial rfl rfl (asg (v := I 0) rfl) ?_
 refine nl ?_
 refine nN ?_
 refine sq ?_
 refine sq ?_
 refine rg ?_
 refine q trivial rfl rfl (mv (v := .bool f) rfl) ?_
 refine nl ?_
 refine nN ?_
 refine cd (b := f) rfl (fun h1 => ?_) (fun h1 => ?_)
 · refine sq ?_
   refine rg ?_
   refine q trivial rfl rfl (mv (v := I k) rfl) ?_
   refine q trivial rfl rfl (asg (v := I k) rfl) ?_
   refine nl ?_
   refine nN ?_
   refine rt (tR ?_)
   refine fret (v := I k) (.tmp .nil) rfl ?_
   have e1 : k = (if f = true then k else 0) := by simp [h1]
   exact ⟨(congrArg (Value.int .i64) e1), hs0⟩
 · refine sk ?_
   refine nN ?_
   refine sq ?_
   refine rg ?_
   refine q trivial rfl rfl (asg (v := I 0) rfl) ?_
   refine nl ?_
   refine nN ?_
   refine rt ?_
   refine fret (v := I 0) (.tmp .nil) rfl ?_
   have e2 : 0 = (if f = true then k else 0) := by simp [h1]
   exact ⟨(congrArg (Value.int .i64) e2), hs0⟩

theorem sL16Same {Ab : Option Addr} {cb : Nat} (b : List Int) (w : World) (hb : Sl w [] 1 Ab b.length cb (b.map I)) : Does Try.prog 32 [.slice Ab b.length cb] w (fun v w' => v = .bool (alikeB b headP) ∧ SH w w' [] []) := by
 refine fn_enter (N := 27) Try.func32 rfl (by kernel_rfl) rfl rfl rfl ?_
 have hs0 : SH w w [] [] := SH.refl w []
 have hb_m : b.length ≤ 9223372036854775807 := Nat.le_trans hb.cap hb.capMax
 refine sq ?_
 refine rg ?_
 refine q trivial rfl rfl (asg (v := .bool false) rfl) ?_
 refine nl ?_
 refine nN ?_
 refine sq ?_
 refine rg ?_
 refine cl trivial rfl (sL16Begin (w := _)) ?_
 rintro _ w1 ⟨A1, c1, rfl, hs1'⟩
 have hs1 : SH w w1 [] [.own A1 headP.length c1 3 1 (headP.map I)] := hs0.call0 hs1'
 clear hs1'
 refine q trivial rfl rfl (asg (v := .slice A1 headP.length c1) rfl) ?_
 refine nl ?_
 refine nN ?_
 refine sq ?_
 refine sq ?_
 refine rg ?_
 refine q trivial rfl rfl (asg (v := I 0) rfl) ?_
 refine nl ?_
 refine nN ?_
 refine bl ?_
 refine lp (σ := Nat) (fun (k : Nat) f w' => Has f [(0, .slice Ab b.length cb), (3, .slice A1 headP.length c1), (4, I ((k : Nat) : Int))] ∧ (k ≤ b.length ∧ k ≤ headP.length) ∧ (b.take k = headP.take k) ∧ SH w w' [] [.own A1 headP.length c1 3 1 (headP.map I)]) (fun k => b.length - k) 0 ⟨⟨rfl, rfl, rfl, trivial⟩, (by simp), (by simp), hs1⟩ ?_
 rintro k f w2 ⟨hf, hk, hz, hs2⟩
 obtain ⟨g1, rfl⟩ := has_upd hf
 clear hf
 refine sq ?_
 refine sq ?_
 refine rg ?_
 refine q trivial rfl rfl (mv (v := I ((k : Nat) : Int)) rfl) ?_
 refine q trivial rfl rfl (mv (v := .slice Ab b.length cb) rfl) ?_
 refine q trivial rfl rfl (lnA (n := b.length) sl24 rfl) ?_
 refine q trivial rfl rfl (lss (k := .i64) (a := ((k : Nat) : Int)) (b := ((b.length : Nat) : Int)) rfl rfl) ?_
 refine q trivial rfl rfl (mv (v := .bool (decide (((k : Nat) : Int) < ((b.length : Nat) : Int)))) rfl) ?_
 refine spd (p := ((k : Nat) : Int) < ((b.length : Nat) : Int)) 10 rfl (fun h1 => ?_) (fun h1 => ?_)
 · refine q ⟨_, rfl, rfl⟩ rfl rfl (mv (v := I ((k : Nat) : Int)) rfl) ?_
   refine q ⟨_, rfl, rfl⟩ rfl rfl (mv (v := .slice A1 headP.length c1) rfl) ?_
   refine q ⟨_, rfl, rfl⟩ rfl rfl (lnA (n := headP.length) sl24 rfl) ?_
   refine q ⟨_, rfl, rfl⟩ rfl rfl (lss (k := .i64) (a := ((k : Nat) : Int)) (b := ((headP.length : Nat) : Int)) rfl rfl) ?_
   refine q trivial rfl rfl (pt (v := .bool (decide (((k : Nat) : Int) < ((headP.length : Nat) : Int)))) rfl rfl) ?_
   refine nl ?_
   refine nN ?_
   refine cdd (p := ((k : Nat) : Int) < ((headP.length : Nat) : Int)) rfl (fun h2 => ?_) (fun h2 => ?_)
   · refine sk ?_
     refine nN ?_
     refine sq ?_
     refine bl ?_
     refine sq ?_
     obtain ⟨b1, rfl⟩ := own_form hs2 0 rfl (by (have hhl : headP.length = 14 := rfl; omega))
     refine rq (fun w' => SH w w' [] [oI b1 headP c1 3]) mixed (by kernel_rfl) hs2.drew ?_
     refine qq trivial rfl rfl (fun wq hsq => mv (v := .slice Ab b.length cb) rfl) ?_
     refine qq trivial rfl rfl (fun wq hsq => mv (v := I ((k : Nat) : Int)) rfl) ?_
     refine ixq1 k sl24 rfl rfl hb (by first | (first | omega | (simp; done) | (simp; omega)) | (have hhl : headP.length = 14 := rfl; first | omega | (simp; done) | (simp; omega))) (getm I 0 (by first | (first | omega | (simp; done) | (simp; omega)) | (have hhl : headP.length = 14 := rfl; first | omega | (simp; done) | (simp; omega)))) trivial rfl (fun a1 ha1 => ?_)
     refine qq trivial rfl rfl (fun wq hsq => lda (v := I (b.getD k 0)) hsq ha1 (fun _ h => h) rfl rfl one3) ?_
     refine qq trivial rfl rfl (fun wq hsq => mv (v := sb b1 headP.length c1) rfl) ?_
     refine qq trivial rfl rfl (fun wq hsq => mv (v := I ((k : Nat) : Int)) rfl) ?_
     refine qq trivial rfl rfl (fun wq hsq => ixo k sl24 rfl rfl (by first | (first | omega | (simp; done) | (simp; omega)) | (have hhl : headP.length = 14 := rfl; first | omega | (simp; done) | (simp; omega)))) ?_
     refine qq trivial rfl rfl (fun wq hsq => ldo1n (g := I) (ys := headP) (o := k) 0 hsq 0 rfl rfl (by first | (first | omega | (simp; done) | (simp; omega)) | (have hhl : headP.length = 14 := rfl; first | omega | (simp; done) | (simp; omega))) one3) ?_
     refine qq trivial rfl rfl (fun wq hsq => nei (k := .i64) (a := b.getD k 0) (b := headP.getD k 0) rfl rfl) ?_
     refine qn (fun w3 hs3 => ?_)
     refine nN ?_
     refine cdd (p := (b.getD k 0) ≠ (headP.getD k 0)) rfl (fun h3 => ?_) (fun h3 => ?_)
     · refine sq ?_
       refine rg ?_
       refine q trivial rfl rfl (asg (v := .bool false) rfl) ?_
       refine nl ?_
       refine nN ?_
       refine rt (bR (tR (tR (bR (tR ?_)))))
       refine fret (v := .bool false) (.tmp .nil) rfl ?_
       have e1 : false = alikeB b headP := by first | exact (alike_no (k := k) (by omega) (by omega) (by assumption)).symm | exact (alike_yes (k := k) hk.1 hk.2 hz (by omega)).symm
       exact ⟨(congrArg (Value.bool) e1), (hs3.pick [] rfl (by decide))⟩
     · refine sk ?_
       refine bN ?_
       refine nN ?_
       refine rg ?_
       refine q trivial rfl rfl (mv (v := I ((k : Nat) : Int)) rfl) ?_
       refine q trivial rfl rfl (add (a := ((k : Nat) : Int)) (b := 1) rfl rfl (by first | (exact ⟨by omega, by omega⟩) | (have hhl : headP.length = 14 := rfl; exact ⟨by omega, by omega⟩))) ?_
       refine q trivial rfl rfl (asg (v := I (((k : Nat) : Int) + 1)) rfl) ?_
       refine nl ?_
       refine nN ?_
       refine ⟨(k + 1), ⟨⟨rfl, rfl, rfl, trivial⟩, (by omega), (alike_step (by omega) (by omega) hz (by omega)), hs3⟩, ?_⟩
       omega
   · refine ex (tE (tE (bE ?_)))
     refine nN ?_
     refine sq ?_
     refine rg ?_
     refine q trivial rfl rfl (asg (v := .bool true) rfl) ?_
     refine nl ?_
     refine nN ?_
     refine rt ?_
     refine fret (v := .bool true) (.tmp .nil) rfl ?_
     have e2 : true = alikeB b headP := by first | exact (alike_no (k := k) (by omega) (by omega) (by assumption)).symm | exact (alike_yes (k := k) hk.1 hk.2 hz (by omega)).symm
     exact ⟨(congrArg (Value.bool) e2), (hs2.pick [] rfl (by decide))⟩
 · refine gk false rfl rfl rfl rfl rfl ?_
   refine gk false rfl rfl rfl rfl rfl ?_
   refine gk false rfl rfl rfl rfl rfl ?_
   refine gk false rfl rfl rfl rfl rfl ?_
   refine q trivial rfl rfl (pf (v := .bool false) rfl rfl) ?_
   refine nl ?_
   refine nN ?_
   refine cdf rfl ?_
   refine ex (tE (tE (bE ?_)))
   refine nN ?_
   refine sq ?_
   refine rg ?_
   refine q trivial rfl rfl (asg (v := .bool true) rfl) ?_
   refine nl ?_
   refine nN ?_
   refine rt ?_
   refine fret (v := .bool true) (.tmp .nil) rfl ?_
   have e3 : true = alikeB b headP := by first | exact (alike_no (k := k) (by omega) (by omega) (by assumption)).symm | exact (alike_yes (k := k) hk.1 hk.2 hz (by omega)).symm
   exact ⟨(congrArg (Value.bool) e3), (hs2.pick [] rfl (by decide))⟩

theorem sL21Alike {Ab : Option Addr} {cb : Nat} (b : List Int) (s : List UInt8) (w : World) (hb : Sl w [] 1 Ab b.length cb (b.map I)) (hs_n : s.length ≤ 2147483648) : Does Try.prog 30 [.slice Ab b.length cb, Str s] w (fun v w' => v = .bool (alikeB b (textI s)) ∧ SH w w' [] []) := by
 refine fn_enter (N := 27) Try.func30 rfl (by kernel_rfl) rfl rfl rfl ?_
 have hs0 : SH w w [] [] := SH.refl w []
 have hb_m : b.length ≤ 9223372036854775807 := Nat.le_trans hb.cap hb.capMax
 refine sq ?_
 refine rg ?_
 refine q trivial rfl rfl (asg (v := .bool false) rfl) ?_
 refine nl ?_
 refine nN ?_
 refine sq ?_
 refine sq ?_
 refine rg ?_
 refine q trivial rfl rfl (asg (v := I 0) rfl) ?_
 refine nl ?_
 refine nN ?_
 refine bl ?_
 refine lp (σ := Nat) (fun (k : Nat) f w' => Has f [(0, .slice Ab b.length cb), (1, Str s), (5, I ((k : Nat) : Int))] ∧ (k ≤ b.length ∧ k ≤ s.length) ∧ (b.take k = (textI s).take k) ∧ SH w w' [] []) (fun k => b.length - k) 0 ⟨⟨rfl, rfl, rfl, trivial⟩, (by omega), (by simp), hs0⟩ ?_
 rintro k f w1 ⟨hf, hk, hz, hs1⟩
 obtain ⟨g1, rfl⟩ := has_upd hf
 clear hf
 refine sq ?_
 refine sq ?_
 refine rg ?_
 refine q trivial rfl rfl (mv (v := I ((k : Nat) : Int)) rfl) ?_
 refine q trivial rfl rfl (mv (v := .slice Ab b.length cb) rfl) ?_
 refine q trivial rfl rfl (lnA (n := b.length) sl24 rfl) ?_
 refine q trivial rfl rfl (lss (k := .i64) (a := ((k : Nat) : Int)) (b := ((b.length : Nat) : Int)) rfl rfl) ?_
 refine q trivial rfl rfl (mv (v := .bool (decide (((k : Nat) : Int) < ((b.length : Nat) : Int)))) rfl) ?_
 refine spd (p := ((k : Nat) : Int) < ((b.length : Nat) : Int)) 10 rfl (fun h1 => ?_) (fun h1 => ?_)
 · refine q ⟨_, rfl, rfl⟩ rfl rfl (mv (v := I ((k : Nat) : Int)) rfl) ?_
   refine q ⟨_, rfl, rfl⟩ rfl rfl (mv (v := Str s) rfl) ?_
   refine q ⟨_, rfl, rfl⟩ rfl rfl (lnS (l := s) st9 rfl) ?_
   refine q ⟨_, rfl, rfl⟩ rfl rfl (lss (k := .i64) (a := ((k : Nat) : Int)) (b := ((s.length : Nat) : Int)) rfl rfl) ?_
   refine q trivial rfl rfl (pt (v := .bool (decide (((k : Nat) : Int) < ((s.length : Nat) : Int)))) rfl rfl) ?_
   refine nl ?_
   refine nN ?_
   refine cdd (p := ((k : Nat) : Int) < ((s.length : Nat) : Int)) rfl (fun h2 => ?_) (fun h2 => ?_)
   · refine sk ?_
     refine nN ?_
     refine sq ?_
     refine bl ?_
     refine sq ?_
     refine rq (fun w' => SH w w' [] []) mixed (by kernel_rfl) hs1.drew ?_
     refine qq trivial rfl rfl (fun wq hsq => mv (v := .slice Ab b.length cb) rfl) ?_
     refine qq trivial rfl rfl (fun wq hsq => mv (v := I ((k : Nat) : Int)) rfl) ?_
     refine ixq1 k sl24 rfl rfl hb (by first | (first | omega | (simp; done) | (simp; omega)) | (have htl := textI_len s; first | omega | (simp; done) | (simp; omega))) (getm I 0 (by first | (first | omega | (simp; done) | (simp; omega)) | (have htl := textI_len s; first | omega | (simp; done) | (simp; omega)))) trivial rfl (fun a1 ha1 => ?_)
     refine qq trivial rfl rfl (fun wq hsq => lda (v := I (b.getD k 0)) hsq ha1 (fun _ h => h) rfl rfl one3) ?_
     refine qq trivial rfl rfl (fun wq hsq => mv (v := Str s) rfl) ?_
     refine qq trivial rfl rfl (fun wq hsq => mv (v := I ((k : Nat) : Int)) rfl) ?_
     refine qq trivial rfl rfl (fun wq hsq => ixs (l := s) k st9 rfl rfl (by first | (first | omega | (simp; done) | (simp; omega)) | (have htl := textI_len s; first | omega | (simp; done) | (simp; omega)))) ?_
     refine qq trivial rfl rfl (fun wq hsq => cvI (a := (((s.getD k 0).toNat : Nat) : Int)) (s := .u8) ti5 ti3 rfl (by have := u8_bd ((s.getD k 0)); exact ⟨by omega, by omega⟩)) ?_
     refine qq trivial rfl rfl (fun wq hsq => nei (k := .i64) (a := b.getD k 0) (b := (((s.getD k 0).toNat : Nat) : Int)) rfl rfl) ?_
     refine qn (fun w2 hs2 => ?_)
     refine nN ?_
     refine cdd (p := (b.getD k 0) ≠ (((s.getD k 0).toNat : Nat) : Int)) rfl (fun h3 => ?_) (fun h3 => ?_)
     · refine sq ?_
       refine rg ?_
       refine q trivial rfl rfl (asg (v := .bool false) rfl) ?_
       refine nl ?_
       refine nN ?_
       refine rt (bR (tR (tR (bR (tR ?_)))))
       refine fret (v := .bool false) (.tmp .nil) rfl ?_
       have e1 : false = alikeB b (textI s) := by first | exact (alike_no (k := k) (by omega) (by rw [textI_len]; omega) (by rw [textI_get (by omega)]; omega)).symm | exact (alike_yes (k := k) hk.1 (by rw [textI_len]; exact hk.2) hz (by rw [textI_len]; omega)).symm
       exact ⟨(congrArg (Value.bool) e1), hs2⟩
     · refine sk ?_
       refine bN ?_
       refine nN ?_
       refine rg ?_
       refine q trivial rfl rfl (mv (v := I ((k : Nat) : Int)) rfl) ?_
       refine q trivial rfl rfl (add (a := ((k : Nat) : Int)) (b := 1) rfl rfl (by first | (exact ⟨by omega, by omega⟩) | (have htl := textI_len s; exact ⟨by omega, by omega⟩))) ?_
       refine q trivial rfl rfl (asg (v := I (((k : Nat) : Int) + 1)) rfl) ?_
       refine nl ?_
       refine nN ?_
       refine ⟨(k + 1), ⟨⟨rfl, rfl, rfl, trivial⟩, (by omega), (alike_step (by omega) (by rw [textI_len]; omega) hz (by rw [textI_get (by omega)]; omega)), hs2⟩, ?_⟩
       omega
   · refine ex (tE (tE (bE ?_)))
     refine nN ?_
     refine sq ?_
     refine rg ?_
     refine q trivial rfl rfl (asg (v := .bool true) rfl) ?_
     refine nl ?_
     refine nN ?_
     refine rt ?_
     refine fret (v := .bool true) (.tmp .nil) rfl ?_
     have e2 : true = alikeB b (textI s) := by first | exact (alike_no (k := k) (by omega) (by rw [textI_len]; omega) (by rw [textI_get (by omega)]; omega)).symm | exact (alike_yes (k := k) hk.1 (by rw [textI_len]; exact hk.2) hz (by rw [textI_len]; omega)).symm
     exact ⟨(congrArg (Value.bool) e2), hs1⟩
 · refine gk false rfl rfl rfl rfl rfl ?_
   refine gk false rfl rfl rfl rfl rfl ?_
   refine gk false rfl rfl rfl rfl rfl ?_
   refine gk false rfl rfl rfl rfl rfl ?_
   refine q trivial rfl rfl (pf (v := .bool false) rfl rfl) ?_
   refine nl ?_
   refine nN ?_
   refine cdf rfl ?_
   refine ex (tE (tE (bE ?_)))
   refine nN ?_
   refine sq ?_
   refine rg ?_
   refine q trivial rfl rfl (asg (v := .bool true) rfl) ?_
   refine nl ?_
   refine nN ?_
   refine rt ?_
   refine fret (v := .bool true) (.tmp .nil) rfl ?_
   have e3 : true = alikeB b (textI s) := by first | exact (alike_no (k := k) (by omega) (by rw [textI_len]; omega) (by rw [textI_get (by omega)]; omega)).symm | exact (alike_yes (k := k) hk.1 (by rw [textI_len]; exact hk.2) hz (by rw [textI_len]; omega)).symm
   exact ⟨(congrArg (Value.bool) e3), hs1⟩

theorem sSniffKind {Ab : Option Addr} {cb : Nat} (b : List Int) (w : World) (hb : Sl w [] 1 Ab b.length cb (b.map I)) : Does Try.prog 19 [.slice Ab b.length cb] w (fun v w' => v = .int .i64 (sniffK b) ∧ SH w w' [] []) := by
 refine fn_enter (N := 42) Try.func19 rfl (by kernel_rfl) rfl rfl rfl ?_
 have hs0 : SH w w [] [] := SH.refl w []
 have hb_m : b.length ≤ 9223372036854775807 := Nat.le_trans hb.cap hb.capMax
 refine sq ?_
 refine rg ?_
 refine q trivial rfl rfl (asg (v := I 0) rfl) ?_
 refine nl ?_
 refine nN ?_
 refine sq ?_
 refine bl ?_
 refine sq ?_
 refine rg ?_
 refine q trivial rfl rfl (mv (v := .slice Ab b.length cb) rfl) ?_
 refine cl trivial rfl (sBytesValid (Azs := Ab) (czs := cb) (zs := b) (w := _) (hzs := (hb.up0 hs0))) ?_
 rintro _ w1 ⟨rfl, hs1'⟩
 have hs1 : SH w w1 [] [] := hs0.call0 hs1'
 clear hs1'
 refine q trivial rfl rfl (nt (b := isBytes b) rfl) ?_
 refine q trivial rfl rfl (asg (v := .bool (!(isBytes b))) rfl) ?_
 refine nl ?_
 refine nN ?_
 refine cd (b := !(isBytes b)) rfl (fun h1 => ?_) (fun h1 => ?_)
 · have h2 : (isBytes b) = false := by simpa using h1
   refine sq ?_
   refine rg ?_
   refine q trivial rfl rfl (asg (v := I 6) rfl) ?_
   refine nl ?_
   refine nN ?_
   refine rt (bR (tR ?_))
   refine fret (v := I 6) (.tmp .nil) rfl ?_
   have e1 : 6 = sniffK b := by (have y1 := conn_t; have y2 := prox_t; have y3 : connP.length = 8 := rfl; have y4 : proxP.length = 6 := rfl; have y5 : headP.length = 14 := rfl; grind [sniffK, kindW])
   exact ⟨(congrArg (Value.int .i64) e1), hs1⟩
 · have h3 : (isBytes b) = true := by simpa using h1
   refine sq ?_
   refine rg ?_
   refine q trivial rfl rfl (mv (v := .slice Ab b.length cb) rfl) ?_
   refine q trivial rfl rfl (lnA (n := b.length) sl24 rfl) ?_
   refine q trivial rfl rfl (eqi (k := .i64) (a := ((b.length : Nat) : Int)) (b := 0) rfl rfl) ?_
   refine q trivial rfl rfl (asg (v := .bool (decide (((b.length : Nat) : Int) = 0))) rfl) ?_
   refine nl ?_
   refine nN ?_
   refine cdd (p := ((b.length : Nat) : Int) = 0) rfl (fun h4 => ?_) (fun h4 => ?_)
   · refine sq ?_
     refine rg ?_
     refine q trivial rfl rfl (asg (v := I 0) rfl) ?_
     refine nl ?_
     refine nN ?_
     refine rt (bR (tR ?_))
     refine fret (v := I 0) (.tmp .nil) rfl ?_
     have e2 : 0 = sniffK b := by (have y1 := conn_t; have y2 := prox_t; have y3 : connP.length = 8 := rfl; have y4 : proxP.length = 6 := rfl; have y5 : headP.length = 14 := rfl; grind [sniffK, kindW])
     exact ⟨(congrArg (Value.int .i64) e2), hs1⟩
   · refine sq ?_
     refine rg ?_
     refine q trivial rfl rfl (mv (v := .slice Ab b.length cb) rfl) ?_
     refine ixw1 0 sl24 rfl rfl hb (by first | omega | (simp; done) | (simp; omega)) (getm I 0 (by first | omega | (simp; done) | (simp; omega))) trivial rfl (fun a1 ha1 => ?_)
     refine q trivial rfl rfl (lda (v := I (b.getD 0 0)) hs1 ha1 (fun _ h => h) rfl rfl one3) ?_
     refine q trivial rfl rfl (eqi (k := .i64) (a := b.getD 0 0) (b := 4) rfl rfl) ?_
     refine q trivial rfl rfl (asg (v := .bool (decide ((b.getD 0 0) = 4))) rfl) ?_
     refine nl ?_
     refine nN ?_
     refine cdd (p := (b.getD 0 0) = 4) rfl (fun h5 => ?_) (fun h5 => ?_)
     · refine sq ?_
       refine rg ?_
       refine q trivial rfl rfl (asg (v := I 1) rfl) ?_
       refine nl ?_
       refine nN ?_
       refine rt (bR (tR ?_))
       refine fret (v := I 1) (.tmp .nil) rfl ?_
       have e3 : 1 = sniffK b := by (have y1 := conn_t; have y2 := prox_t; have y3 : connP.length = 8 := rfl; have y4 : proxP.length = 6 := rfl; have y5 : headP.length = 14 := rfl; grind [sniffK, kindW])
       exact ⟨(congrArg (Value.int .i64) e3), hs1⟩
     · refine sq ?_
       refine rg ?_
       refine q trivial rfl rfl (mv (v := .slice Ab b.length cb) rfl) ?_
       refine ixw1 0 sl24 rfl rfl hb (by first | omega | (simp; done) | (simp; omega)) (getm I 0 (by first | omega | (simp; done) | (simp; omega))) trivial rfl (fun a2 ha2 => ?_)
       refine q trivial rfl rfl (lda (v := I (b.getD 0 0)) hs1 ha2 (fun _ h => h) rfl rfl one3) ?_
       refine q trivial rfl rfl (eqi (k := .i64) (a := b.getD 0 0) (b := 5) rfl rfl) ?_
       refine q trivial rfl rfl (asg (v := .bool (decide ((b.getD 0 0) = 5))) rfl) ?_
       refine nl ?_
       refine nN ?_
       refine cdd (p := (b.getD 0 0) = 5) rfl (fun h6 => ?_) (fun h6 => ?_)
       · refine sq ?_
         refine rg ?_
         refine q trivial rfl rfl (asg (v := I 2) rfl) ?_
         refine nl ?_
         refine nN ?_
         refine rt (bR (tR ?_))
         refine fret (v := I 2) (.tmp .nil) rfl ?_
         have e4 : 2 = sniffK b := by (have y1 := conn_t; have y2 := prox_t; have y3 : connP.length = 8 := rfl; have y4 : proxP.length = 6 := rfl; have y5 : headP.length = 14 := rfl; grind [sniffK, kindW])
         exact ⟨(congrArg (Value.int .i64) e4), hs1⟩
       · refine sq ?_
         refine rg ?_
         refine q trivial rfl rfl (mv (v := .slice Ab b.length cb) rfl) ?_
         refine cl trivial rfl (sL21Alike (Ab := Ab) (cb := cb) (b := b) (s := [67, 79, 78, 78, 69, 67, 84, 32]) (w := _) (hb := (hb.up0 hs1)) (hs_n := (by first | omega | (simp; done) | (simp; omega)))) ?_
         rintro _ w2 ⟨rfl, hs2'⟩
         have hs2 : SH w w2 [] [] := hs1.call0 hs2'
         clear hs2'
         refine q trivial rfl rfl (asg (v := .bool (alikeB b (textI [67, 79, 78, 78, 69, 67, 84, 32]))) rfl) ?_
         refine nl ?_
         refine nN ?_
         refine cd (b := alikeB b (textI [67, 79, 78, 78, 69, 67, 84, 32])) rfl (fun h7 => ?_) (fun h7 => ?_)
         · refine sq ?_
           refine rg ?_
           refine q trivial rfl rfl (mv (v := .slice Ab b.length cb) rfl) ?_
           refine q trivial rfl rfl (lnA (n := b.length) sl24 rfl) ?_
           refine q trivial rfl rfl (geq (k := .i64) (a := ((b.length : Nat) : Int)) (b := 8) rfl rfl) ?_
           refine cl trivial rfl (sL21Known (f := (decide ((8 : Int) ≤ ((b.length : Nat) : Int)))) (k := 3) (w := _)) ?_
           rintro _ w3 ⟨rfl, hs3'⟩
           have hs3 : SH w w3 [] [] := hs2.call0 hs3'
           clear hs3'
           refine q trivial rfl rfl (asg (v := I (if (decide ((8 : Int) ≤ ((b.length : Nat) : Int))) = true then 3 else 0)) rfl) ?_
           refine nl ?_
           refine nN ?_
           refine rt (bR (tR ?_))
           refine fret (v := I (if (decide ((8 : Int) ≤ ((b.length : Nat) : Int))) = true then 3 else 0)) (.tmp .nil) rfl ?_
           have e5 : (if (decide ((8 : Int) ≤ ((b.length : Nat) : Int))) = true then 3 else 0) = sniffK b := by (have y1 := conn_t; have y2 := prox_t; have y3 : connP.length = 8 := rfl; have y4 : proxP.length = 6 := rfl; have y5 : headP.length = 14 := rfl; grind [sniffK, kindW])
           exact ⟨(congrArg (Value.int .i64) e5), hs3⟩
         · refine sq ?_
           refine rg ?_
           refine q trivial rfl rfl (mv (v := .slice Ab b.length cb) rfl) ?_
           refine cl trivial rfl (sL21Alike (Ab := Ab) (cb := cb) (b := b) (s := [80, 82, 79, 88, 89, 32]) (w := _) (hb := (hb.up0 hs2)) (hs_n := (by first | omega | (simp; done) | (simp; omega)))) ?_
           rintro _ w4 ⟨rfl, hs4'⟩
           have hs4 : SH w w4 [] [] := hs2.call0 hs4'
           clear hs4'
           refine q trivial rfl rfl (asg (v := .bool (alikeB b (textI [80, 82, 79, 88, 89, 32]))) rfl) ?_
           refine nl ?_
           refine nN ?_
           refine cd (b := alikeB b (textI [80, 82, 79, 88, 89, 32])) rfl (fun h8 => ?_) (fun h8 => ?_)
           · refine sq ?_
             refine rg ?_
             refine q trivial rfl rfl (mv (v := .slice Ab b.length cb) rfl) ?_
             refine q trivial rfl rfl (lnA (n := b.length) sl24 rfl) ?_
             refine q trivial rfl rfl (geq (k := .i64) (a := ((b.length : Nat) : Int)) (b := 6) rfl rfl) ?_
             refine cl trivial rfl (sL21Known (f := (decide ((6 : Int) ≤ ((b.length : Nat) : Int)))) (k := 4) (w := _)) ?_
             rintro _ w5 ⟨rfl, hs5'⟩
             have hs5 : SH w w5 [] [] := hs4.call0 hs5'
             clear hs5'
             refine q trivial rfl rfl (asg (v := I (if (decide ((6 : Int) ≤ ((b.length : Nat) : Int))) = true then 4 else 0)) rfl) ?_
             refine nl ?_
             refine nN ?_
             refine rt (bR (tR ?_))
             refine fret (v := I (if (decide ((6 : Int) ≤ ((b.length : Nat) : Int))) = true then 4 else 0)) (.tmp .nil) rfl ?_
             have e6 : (if (decide ((6 : Int) ≤ ((b.length : Nat) : Int))) = true then 4 else 0) = sniffK b := by (have y1 := conn_t; have y2 := prox_t; have y3 : connP.length = 8 := rfl; have y4 : proxP.length = 6 := rfl; have y5 : headP.length = 14 := rfl; grind [sniffK, kindW])
             exact ⟨(congrArg (Value.int .i64) e6), hs5⟩
           · refine sq ?_
             refine rg ?_
             refine q trivial rfl rfl (mv (v := .slice Ab b.length cb) rfl) ?_
             refine cl trivial rfl (sL16Same (Ab := Ab) (cb := cb) (b := b) (w := _) (hb := (hb.up0 hs4))) ?_
             rintro _ w6 ⟨rfl, hs6'⟩
             have hs6 : SH w w6 [] [] := hs4.call0 hs6'
             clear hs6'
             refine q trivial rfl rfl (asg (v := .bool (alikeB b headP)) rfl) ?_
             refine nl ?_
             refine nN ?_
             refine cd (b := alikeB b headP) rfl (fun h9 => ?_) (fun h9 => ?_)
             · refine sq ?_
               refine rg ?_
               refine q trivial rfl rfl (mv (v := .slice Ab b.length cb) rfl) ?_
               refine q trivial rfl rfl (lnA (n := b.length) sl24 rfl) ?_
               refine q trivial rfl rfl (geq (k := .i64) (a := ((b.length : Nat) : Int)) (b := 14) rfl rfl) ?_
               refine cl trivial rfl (sL21Known (f := (decide ((14 : Int) ≤ ((b.length : Nat) : Int)))) (k := 5) (w := _)) ?_
               rintro _ w7 ⟨rfl, hs7'⟩
               have hs7 : SH w w7 [] [] := hs6.call0 hs7'
               clear hs7'
               refine q trivial rfl rfl (asg (v := I (if (decide ((14 : Int) ≤ ((b.length : Nat) : Int))) = true then 5 else 0)) rfl) ?_
               refine nl ?_
               refine nN ?_
               refine rt (bR (tR ?_))
               refine fret (v := I (if (decide ((14 : Int) ≤ ((b.length : Nat) : Int))) = true then 5 else 0)) (.tmp .nil) rfl ?_
               have e7 : (if (decide ((14 : Int) ≤ ((b.length : Nat) : Int))) = true then 5 else 0) = sniffK b := by (have y1 := conn_t; have y2 := prox_t; have y3 : connP.length = 8 := rfl; have y4 : proxP.length = 6 := rfl; have y5 : headP.length = 14 := rfl; grind [sniffK, kindW])
               exact ⟨(congrArg (Value.int .i64) e7), hs7⟩
             · refine sk ?_
               refine bN ?_
               refine nN ?_
               refine sq ?_
               refine rg ?_
               refine q trivial rfl rfl (asg (v := I 6) rfl) ?_
               refine nl ?_
               refine nN ?_
               refine rt ?_
               refine fret (v := I 6) (.tmp .nil) rfl ?_
               have e8 : 6 = sniffK b := by (have y1 := conn_t; have y2 := prox_t; have y3 : connP.length = 8 := rfl; have y4 : proxP.length = 6 := rfl; have y5 : headP.length = 14 := rfl; grind [sniffK, kindW])
               exact ⟨(congrArg (Value.int .i64) e8), hs6⟩

theorem iBegins {Ab : Option Addr} {cb : Nat} (b : List Int) {Af : Option Addr} {cf : Nat} (f : List Int) (w : World) (hb : Sl w [] 1 Ab b.length cb (b.map I)) (hf : Sl w [] 1 Af f.length cf (f.map I)) : Does Try.prog 28 [.slice Ab b.length cb, .slice Af f.length cf] w (fun v w' => v = .bool (startsB b f) ∧ SH w w' [] []) := by
 refine fn_enter (N := 18) Try.func28 rfl (by kernel_rfl) rfl rfl rfl ?_
 have hs0 : SH w w [] [] := SH.refl w []
 have hb_m : b.length ≤ 9223372036854775807 := Nat.le_trans hb.cap hb.capMax
 have hf_m : f.length ≤ 9223372036854775807 := Nat.le_trans hf.cap hf.capMax
 refine sq ?_
 refine rg ?_
 refine q trivial rfl rfl (asg (v := .bool false) rfl) ?_
 refine nl ?_
 refine nN ?_
 refine sq ?_
 refine rg ?_
 refine q trivial rfl rfl (mv (v := .slice Ab b.length cb) rfl) ?_
 refine q trivial rfl rfl (lnA (n := b.length) sl24 rfl) ?_
 refine q trivial rfl rfl (mv (v := .slice Af f.length cf) rfl) ?_
 refine q trivial rfl rfl (lnA (n := f.length) sl24 rfl) ?_
 refine q trivial rfl rfl (geq (k := .i64) (a := ((b.length : Nat) : Int)) (b := ((f.length : Nat) : Int)) rfl rfl) ?_
 refine q trivial rfl rfl (mv (v := .bool (decide (((f.length : Nat) : Int) ≤ ((b.length : Nat) : Int)))) rfl) ?_
 refine spd (p := ((f.length : Nat) : Int) ≤ ((b.length : Nat) : Int)) 10 rfl (fun h1 => ?_) (fun h1 => ?_)
 · refine q ⟨_, rfl, rfl⟩ rfl rfl (mv (v := .slice Ab b.length cb) rfl) ?_
   refine q ⟨_, rfl, rfl⟩ rfl rfl (mv (v := .slice Af f.length cf) rfl) ?_
   refine q ⟨_, rfl, rfl⟩ rfl rfl (lnA (n := f.length) sl24 rfl) ?_
   refine q ⟨_, rfl, rfl⟩ rfl rfl (cuhm_ (zs := b) f.length sl24 rfl rfl (by first | omega | (simp; done) | (simp; omega)) hb.cap) ?_
   refine q ⟨_, rfl, rfl⟩ rfl rfl (mv (v := .slice Af f.length cf) rfl) ?_
   refine cl ⟨_, rfl, rfl⟩ rfl (slEqual (Axs := Ab) (cxs := cb) (xs := b.take f.length) (Abs := Af) (cbs := cf) (bs := f) (w := _) (hxs := (Sl.cuthm (hb.up0 hs0) (by first | omega | (simp; done) | (simp; omega)))) (hbs := (hf.up0 hs0))) ?_
   rintro _ w1 ⟨rfl, hs1'⟩
   have hs1 : SH w w1 [] [] := hs0.call0 hs1'
   clear hs1'
   refine q trivial rfl rfl (pt (v := .bool (decide ((b.take f.length) = f))) rfl rfl) ?_
   refine q trivial rfl rfl (asg (v := .bool (decide ((b.take f.length) = f))) rfl) ?_
   refine nl ?_
   refine nN ?_
   refine rt ?_
   refine fret (v := .bool (decide ((b.take f.length) = f))) (.tmp .nil) rfl ?_
   have e1 : (decide ((b.take f.length) = f)) = startsB b f := by first | (simp [startsB, h1]; done) | (simp [startsB]; omega)
   exact ⟨(congrArg (Value.bool) e1), hs1⟩
 · refine gk false rfl rfl rfl rfl rfl ?_
   refine gk false rfl rfl rfl rfl rfl ?_
   refine gk false rfl rfl rfl rfl rfl ?_
   refine gk false rfl rfl rfl rfl rfl ?_
   refine gk false rfl rfl rfl rfl rfl ?_
   refine gk false rfl rfl rfl rfl rfl ?_
   refine q trivial rfl rfl (pf (v := .bool false) rfl rfl) ?_
   refine q trivial rfl rfl (asg (v := .bool false) rfl) ?_
   refine nl ?_
   refine nN ?_
   refine rt ?_
   refine fret (v := .bool false) (.tmp .nil) rfl ?_
   have e2 : false = startsB b f := by first | (simp [startsB, h1]; done) | (simp [startsB]; omega)
   exact ⟨(congrArg (Value.bool) e2), hs0⟩

theorem iSniffKind {Ab : Option Addr} {cb : Nat} (b : List Int) (w : World) (hb : Sl w [] 1 Ab b.length cb (b.map I)) : Does Try.prog 17 [.slice Ab b.length cb] w (fun v w' => v = .int .i64 (sniffK b) ∧ SH w w' [] []) := by
 refine fn_enter (N := 44) Try.func17 rfl (by kernel_rfl) rfl rfl rfl ?_
 have hs0 : SH w w [] [] := SH.refl w []
 have hb_m : b.length ≤ 9223372036854775807 := Nat.le_trans hb.cap hb.capMax
 refine sq ?_
 refine rg ?_
 refine q trivial rfl rfl (asg (v := I 0) rfl) ?_
 refine nl ?_
 refine nN ?_
 refine sq ?_
 refine bl ?_
 refine sq ?_
 refine rg ?_
 refine q trivial rfl rfl (mv (v := .slice Ab b.length cb) rfl) ?_
 refine cl trivial rfl (iBytesValid (Azs := Ab) (czs := cb) (zs := b) (w := _) (hzs := (hb.up0 hs0))) ?_
 rintro _ w1 ⟨rfl, hs1'⟩
 have hs1 : SH w w1 [] [] := hs0.call0 hs1'
 clear hs1'
 refine q trivial rfl rfl (nt (b := isBytes b) rfl) ?_
 refine q trivial rfl rfl (asg (v := .bool (!(isBytes b))) rfl) ?_
 refine nl ?_
 refine nN ?_
 refine cd (b := !(isBytes b)) rfl (fun h1 => ?_) (fun h1 => ?_)
 · have h2 : (isBytes b) = false := by simpa using h1
   refine sq ?_
   refine rg ?_
   refine q trivial rfl rfl (asg (v := I 6) rfl) ?_
   refine nl ?_
   refine nN ?_
   refine rt (bR (tR ?_))
   refine fret (v := I 6) (.tmp .nil) rfl ?_
   have e1 : 6 = sniffK b := by (have y1 := conn_t; have y2 := prox_t; have y6 := @starts_alike b; have y7 := @starts_alike2 b; have y8 := @starts_not b; have y9 := @starts_lt b; (try simp only [List.getD_cons_zero, List.getD_cons_succ, Int.zero_add, Nat.zero_add] at *); grind [sniffK, kindW])
   exact ⟨(congrArg (Value.int .i64) e1), hs1⟩
 · have h3 : (isBytes b) = true := by simpa using h1
   refine sq ?_
   refine rg ?_
   refine q trivial rfl rfl (mv (v := .slice Ab b.length cb) rfl) ?_
   refine q trivial rfl rfl (lnA (n := b.length) sl24 rfl) ?_
   refine q trivial rfl rfl (eqi (k := .i64) (a := ((b.length : Nat) : Int)) (b := 0) rfl rfl) ?_
   refine q trivial rfl rfl (asg (v := .bool (decide (((b.length : Nat) : Int) = 0))) rfl) ?_
   refine nl ?_
   refine nN ?_
   refine cdd (p := ((b.length : Nat) : Int) = 0) rfl (fun h4 => ?_) (fun h4 => ?_)
   · refine sq ?_
     refine rg ?_
     refine q trivial rfl rfl (asg (v := I 0) rfl) ?_
     refine nl ?_
     refine nN ?_
     refine rt (bR (tR ?_))
     refine fret (v := I 0) (.tmp .nil) rfl ?_
     have e2 : 0 = sniffK b := by (have y1 := conn_t; have y2 := prox_t; have y6 := @starts_alike b; have y7 := @starts_alike2 b; have y8 := @starts_not b; have y9 := @starts_lt b; (try simp only [List.getD_cons_zero, List.getD_cons_succ, Int.zero_add, Nat.zero_add] at *); grind [sniffK, kindW])
     exact ⟨(congrArg (Value.int .i64) e2), hs1⟩
   · refine sq ?_
     refine rg ?_
     refine q trivial rfl rfl (mv (v := .slice Ab b.length cb) rfl) ?_
     refine ixw1 0 sl24 rfl rfl hb (by first | omega | (simp; done) | (simp; omega)) (getm I 0 (by first | omega | (simp; done) | (simp; omega))) trivial rfl (fun a1 ha1 => ?_)
     refine q trivial rfl rfl (lda (v := I (b.getD 0 0)) hs1 ha1 (fun _ h => h) rfl rfl one3) ?_
     refine q trivial rfl rfl (eqi (k := .i64) (a := b.getD 0 0) (b := 4) rfl rfl) ?_
     refine q trivial rfl rfl (asg (v := .bool (decide ((b.getD 0 0) = 4))) rfl) ?_
     refine nl ?_
     refine nN ?_
     refine cdd (p := (b.getD 0 0) = 4) rfl (fun h5 => ?_) (fun h5 => ?_)
     · refine sq ?_
       refine rg ?_
       refine q trivial rfl rfl (asg (v := I 1) rfl) ?_
       refine nl ?_
       refine nN ?_
       refine rt (bR (tR ?_))
       refine fret (v := I 1) (.tmp .nil) rfl ?_
       have e3 : 1 = sniffK b := by (have y1 := conn_t; have y2 := prox_t; have y6 := @starts_alike b; have y7 := @starts_alike2 b; have y8 := @starts_not b; have y9 := @starts_lt b; (try simp only [List.getD_cons_zero, List.getD_cons_succ, Int.zero_add, Nat.zero_add] at *); grind [sniffK, kindW])
       exact ⟨(congrArg (Value.int .i64) e3), hs1⟩
     · refine sq ?_
       refine rg ?_
       refine q trivial rfl rfl (mv (v := .slice Ab b.length cb) rfl) ?_
       refine ixw1 0 sl24 rfl rfl hb (by first | omega | (simp; done) | (simp; omega)) (getm I 0 (by first | omega | (simp; done) | (simp; omega))) trivial rfl (fun a2 ha2 => ?_)
       refine q trivial rfl rfl (lda (v := I (b.getD 0 0)) hs1 ha2 (fun _ h => h) rfl rfl one3) ?_
       refine q trivial rfl rfl (eqi (k := .i64) (a := b.getD 0 0) (b := 5) rfl rfl) ?_
       refine q trivial rfl rfl (asg (v := .bool (decide ((b.getD 0 0) = 5))) rfl) ?_
       refine nl ?_
       refine nN ?_
       refine cdd (p := (b.getD 0 0) = 5) rfl (fun h6 => ?_) (fun h6 => ?_)
       · refine sq ?_
         refine rg ?_
         refine q trivial rfl rfl (asg (v := I 2) rfl) ?_
         refine nl ?_
         refine nN ?_
         refine rt (bR (tR ?_))
         refine fret (v := I 2) (.tmp .nil) rfl ?_
         have e4 : 2 = sniffK b := by (have y1 := conn_t; have y2 := prox_t; have y6 := @starts_alike b; have y7 := @starts_alike2 b; have y8 := @starts_not b; have y9 := @starts_lt b; (try simp only [List.getD_cons_zero, List.getD_cons_succ, Int.zero_add, Nat.zero_add] at *); grind [sniffK, kindW])
         exact ⟨(congrArg (Value.int .i64) e4), hs1⟩
       · refine sk ?_
         refine bN ?_
         refine nN ?_
         refine sq ?_
         refine sq ?_
         refine rg ?_
         refine cl trivial rfl (iTextBytes (s := [67, 79, 78, 78, 69, 67, 84, 32]) (w := _) (hs_n := (by first | omega | (simp; done) | (simp; omega)))) ?_
         rintro _ w2 ⟨A1, c1, rfl, hs2'⟩
         have hs2 : SH w w2 [] [.own A1 ((textI [67, 79, 78, 78, 69, 67, 84, 32]).length) c1 3 1 ((textI [67, 79, 78, 78, 69, 67, 84, 32]).map I)] := hs1.call0 hs2'
         clear hs2'
         refine cl trivial rfl (iTextBytes (s := [80, 82, 79, 88, 89, 32]) (w := _) (hs_n := (by first | omega | (simp; done) | (simp; omega)))) ?_
         rintro _ w3 ⟨A2, c2, rfl, hs3'⟩
         have hs3 : SH w w3 [] [.own A1 ((textI [67, 79, 78, 78, 69, 67, 84, 32]).length) c1 3 1 ((textI [67, 79, 78, 78, 69, 67, 84, 32]).map I), .own A2 ((textI [80, 82, 79, 88, 89, 32]).length) c2 3 1 ((textI [80, 82, 79, 88, 89, 32]).map I)] := hs2.call0 hs3'
         clear hs3'
         refine cl trivial rfl (iHeadStart (w := _)) ?_
         rintro _ w4 ⟨A3, c3, rfl, hs4'⟩
         have hs4 : SH w w4 [] [.own A1 ((textI [67, 79, 78, 78, 69, 67, 84, 32]).length) c1 3 1 ((textI [67, 79, 78, 78, 69, 67, 84, 32]).map I), .own A2 ((textI [80, 82, 79, 88, 89, 32]).length) c2 3 1 ((textI [80, 82, 79, 88, 89, 32]).map I), .own A3 headP.length c3 3 1 (headP.map I)] := hs3.call0 hs4'
         clear hs4'
         refine bsk hs4 sl22 [.slice A1 ((textI [67, 79, 78, 78, 69, 67, 84, 32]).length) c1, .slice A2 ((textI [80, 82, 79, 88, 89, 32]).length) c2, .slice A3 headP.length c3] [.slice A1 ((textI [67, 79, 78, 78, 69, 67, 84, 32]).length) c1, .slice A2 ((textI [80, 82, 79, 88, 89, 32]).length) c2, .slice A3 headP.length c3] trivial rfl (fun b1 w5 (hs5 : SH w w5 [] [.own A1 ((textI [67, 79, 78, 78, 69, 67, 84, 32]).length) c1 3 1 ((textI [67, 79, 78, 78, 69, 67, 84, 32]).map I), .own A2 ((textI [80, 82, 79, 88, 89, 32]).length) c2 3 1 ((textI [80, 82, 79, 88, 89, 32]).map I), .own A3 headP.length c3 3 1 (headP.map I), .own (some ⟨b1, 0, none⟩) (([(⟨A1, c1, textI [67, 79, 78, 78, 69, 67, 84, 32]⟩ : Hd), (⟨A2, c2, textI [80, 82, 79, 88, 89, 32]⟩ : Hd), (⟨A3, c3, headP⟩ : Hd)] : List Hd).length) 3 24 1 (([(⟨A1, c1, textI [67, 79, 78, 78, 69, 67, 84, 32]⟩ : Hd), (⟨A2, c2, textI [80, 82, 79, 88, 89, 32]⟩ : Hd), (⟨A3, c3, headP⟩ : Hd)] : List Hd).map hv)]) => ?_)
         refine q trivial rfl rfl (lnA (n := ([(⟨A1, c1, textI [67, 79, 78, 78, 69, 67, 84, 32]⟩ : Hd), (⟨A2, c2, textI [80, 82, 79, 88, 89, 32]⟩ : Hd), (⟨A3, c3, headP⟩ : Hd)] : List Hd).length) sl22 rfl) ?_
         refine q trivial rfl rfl (mv (v := I 0) rfl) ?_
         refine nl ?_
         refine nN ?_
         refine bl ?_
         refine ul0 (ulS ?_)
         refine sq ?_
         refine rg ?_
         refine q trivial rfl rfl (lss (k := .i64) (a := 0) (b := ((([(⟨A1, c1, textI [67, 79, 78, 78, 69, 67, 84, 32]⟩ : Hd), (⟨A2, c2, textI [80, 82, 79, 88, 89, 32]⟩ : Hd), (⟨A3, c3, headP⟩ : Hd)] : List Hd).length : Nat) : Int)) rfl rfl) ?_
         refine nl ?_
         refine nN ?_
         refine sq ?_
         refine cdd (p := 0 < ((([(⟨A1, c1, textI [67, 79, 78, 78, 69, 67, 84, 32]⟩ : Hd), (⟨A2, c2, textI [80, 82, 79, 88, 89, 32]⟩ : Hd), (⟨A3, c3, headP⟩ : Hd)] : List Hd).length : Nat) : Int)) rfl (fun h7 => ?_) (fun h7 => absurd (by (simp; done)) h7)
         refine sk ?_
         refine nN ?_
         refine sq ?_
         refine bl ?_
         refine sq ?_
         refine rg ?_
         refine q trivial rfl rfl (mv (v := I 0) rfl) ?_
         refine q trivial rfl rfl (ixo 0 sl22 rfl rfl (by first | omega | (simp; done) | (simp; omega))) ?_
         refine q trivial rfl rfl (ldoHd (L := ([textI [67, 79, 78, 78, 69, 67, 84, 32], textI [80, 82, 79, 88, 89, 32], headP] : List (List Int))) (ys := ([(⟨A1, c1, textI [67, 79, 78, 78, 69, 67, 84, 32]⟩ : Hd), (⟨A2, c2, textI [80, 82, 79, 88, 89, 32]⟩ : Hd), (⟨A3, c3, headP⟩ : Hd)] : List Hd)) (o := 0) rfl hs5 3 rfl rfl (by first | omega | (simp; done) | (simp; omega)) one24) ?_
         refine q trivial rfl rfl (asg (v := I 0) rfl) ?_
         refine q trivial rfl rfl (asg (v := .slice ((([(⟨A1, c1, textI [67, 79, 78, 78, 69, 67, 84, 32]⟩ : Hd), (⟨A2, c2, textI [80, 82, 79, 88, 89, 32]⟩ : Hd), (⟨A3, c3, headP⟩ : Hd)] : List Hd).getD 0 hd0).A) ((([textI [67, 79, 78, 78, 69, 67, 84, 32], textI [80, 82, 79, 88, 89, 32], headP] : List (List Int)).getD 0 []).length) ((([(⟨A1, c1, textI [67, 79, 78, 78, 69, 67, 84, 32]⟩ : Hd), (⟨A2, c2, textI [80, 82, 79, 88, 89, 32]⟩ : Hd), (⟨A3, c3, headP⟩ : Hd)] : List Hd).getD 0 hd0).c)) rfl) ?_
         refine nl ?_
         refine nN ?_
         refine bl ?_
         refine sq ?_
         refine rg ?_
         refine q trivial rfl rfl (mv (v := .slice Ab b.length cb) rfl) ?_
         refine q trivial rfl rfl (mv (v := .slice ((([(⟨A1, c1, textI [67, 79, 78, 78, 69, 67, 84, 32]⟩ : Hd), (⟨A2, c2, textI [80, 82, 79, 88, 89, 32]⟩ : Hd), (⟨A3, c3, headP⟩ : Hd)] : List Hd).getD 0 hd0).A) ((([textI [67, 79, 78, 78, 69, 67, 84, 32], textI [80, 82, 79, 88, 89, 32], headP] : List (List Int)).getD 0 []).length) ((([(⟨A1, c1, textI [67, 79, 78, 78, 69, 67, 84, 32]⟩ : Hd), (⟨A2, c2, textI [80, 82, 79, 88, 89, 32]⟩ : Hd), (⟨A3, c3, headP⟩ : Hd)] : List Hd).getD 0 hd0).c)) rfl) ?_
         refine cl trivial rfl (iBegins (Ab := Ab) (cb := cb) (b := b) (Af := (([(⟨A1, c1, textI [67, 79, 78, 78, 69, 67, 84, 32]⟩ : Hd), (⟨A2, c2, textI [80, 82, 79, 88, 89, 32]⟩ : Hd), (⟨A3, c3, headP⟩ : Hd)] : List Hd).getD 0 hd0).A) (cf := (([(⟨A1, c1, textI [67, 79, 78, 78, 69, 67, 84, 32]⟩ : Hd), (⟨A2, c2, textI [80, 82, 79, 88, 89, 32]⟩ : Hd), (⟨A3, c3, headP⟩ : Hd)] : List Hd).getD 0 hd0).c) (f := ([textI [67, 79, 78, 78, 69, 67, 84, 32], textI [80, 82, 79, 88, 89, 32], headP] : List (List Int)).getD 0 []) (w := _) (hb := (hb.up0 hs5)) (hf := (hd_at2 (L := ([textI [67, 79, 78, 78, 69, 67, 84, 32], textI [80, 82, 79, 88, 89, 32], headP] : List (List Int))) rfl (fa_cons (hs5.sl0 0 rfl) (fa_cons (hs5.sl0 1 rfl) (fa_cons (hs5.sl0 2 rfl) fa_nil))) (by first | omega | (simp; done) | (simp; omega))))) ?_
         rintro _ w6 ⟨rfl, hs6'⟩
         have hs6 : SH w w6 [] [.own A1 ((textI [67, 79, 78, 78, 69, 67, 84, 32]).length) c1 3 1 ((textI [67, 79, 78, 78, 69, 67, 84, 32]).map I), .own A2 ((textI [80, 82, 79, 88, 89, 32]).length) c2 3 1 ((textI [80, 82, 79, 88, 89, 32]).map I), .own A3 headP.length c3 3 1 (headP.map I), .own (some ⟨b1, 0, none⟩) (([(⟨A1, c1, textI [67, 79, 78, 78, 69, 67, 84, 32]⟩ : Hd), (⟨A2, c2, textI [80, 82, 79, 88, 89, 32]⟩ : Hd), (⟨A3, c3, headP⟩ : Hd)] : List Hd).length) 3 24 1 (([(⟨A1, c1, textI [67, 79, 78, 78, 69, 67, 84, 32]⟩ : Hd), (⟨A2, c2, textI [80, 82, 79, 88, 89, 32]⟩ : Hd), (⟨A3, c3, headP⟩ : Hd)] : List Hd).map hv)] := hs5.call0 hs6'
         clear hs6'
         refine q trivial rfl rfl (asg (v := .bool (startsB b (([textI [67, 79, 78, 78, 69, 67, 84, 32], textI [80, 82, 79, 88, 89, 32], headP] : List (List Int)).getD 0 []))) rfl) ?_
         refine nl ?_
         refine nN ?_
         refine cd (b := startsB b (([textI [67, 79, 78, 78, 69, 67, 84, 32], textI [80, 82, 79, 88, 89, 32], headP] : List (List Int)).getD 0 [])) rfl (fun h8 => ?_) (fun h8 => ?_)
         · refine sq ?_
           refine rg ?_
           refine q trivial rfl rfl (mv (v := I 0) rfl) ?_
           refine q trivial rfl rfl (add (a := 3) (b := 0) rfl rfl (by exact ⟨by omega, by omega⟩)) ?_
           refine q trivial rfl rfl (asg (v := I ((3 : Int) + 0)) rfl) ?_
           refine nl ?_
           refine nN ?_
           have hs7 : SH w w6 [] [] := hs6.pick [] rfl (by decide)
           refine rt (bR (bR (tR (tR (bR (tR ?_))))))
           refine fret (v := I ((3 : Int) + 0)) (.tmp .nil) rfl ?_
           have e5 : (3 : Int) + 0 = sniffK b := by (have y1 := conn_t; have y2 := prox_t; have y6 := @starts_alike b; have y7 := @starts_alike2 b; have y8 := @starts_not b; have y9 := @starts_lt b; (try simp only [List.getD_cons_zero, List.getD_cons_succ, Int.zero_add, Nat.zero_add] at *); grind [sniffK, kindW])
           exact ⟨(congrArg (Value.int .i64) e5), hs7⟩
         · refine sq ?_
           refine rg ?_
           refine q trivial rfl rfl (mv (v := .slice ((([(⟨A1, c1, textI [67, 79, 78, 78, 69, 67, 84, 32]⟩ : Hd), (⟨A2, c2, textI [80, 82, 79, 88, 89, 32]⟩ : Hd), (⟨A3, c3, headP⟩ : Hd)] : List Hd).getD 0 hd0).A) ((([textI [67, 79, 78, 78, 69, 67, 84, 32], textI [80, 82, 79, 88, 89, 32], headP] : List (List Int)).getD 0 []).length) ((([(⟨A1, c1, textI [67, 79, 78, 78, 69, 67, 84, 32]⟩ : Hd), (⟨A2, c2, textI [80, 82, 79, 88, 89, 32]⟩ : Hd), (⟨A3, c3, headP⟩ : Hd)] : List Hd).getD 0 hd0).c)) rfl) ?_
           refine q trivial rfl rfl (mv (v := .slice Ab b.length cb) rfl) ?_
           refine cl trivial rfl (iBegins (Ab := (([(⟨A1, c1, textI [67, 79, 78, 78, 69, 67, 84, 32]⟩ : Hd), (⟨A2, c2, textI [80, 82, 79, 88, 89, 32]⟩ : Hd), (⟨A3, c3, headP⟩ : Hd)] : List Hd).getD 0 hd0).A) (cb := (([(⟨A1, c1, textI [67, 79, 78, 78, 69, 67, 84, 32]⟩ : Hd), (⟨A2, c2, textI [80, 82, 79, 88, 89, 32]⟩ : Hd), (⟨A3, c3, headP⟩ : Hd)] : List Hd).getD 0 hd0).c) (b := ([textI [67, 79, 78, 78, 69, 67, 84, 32], textI [80, 82, 79, 88, 89, 32], headP] : List (List Int)).getD 0 []) (Af := Ab) (cf := cb) (f := b) (w := _) (hb := (hd_at2 (L := ([textI [67, 79, 78, 78, 69, 67, 84, 32], textI [80, 82, 79, 88, 89, 32], headP] : List (List Int))) rfl (fa_cons (hs6.sl0 0 rfl) (fa_cons (hs6.sl0 1 rfl) (fa_cons (hs6.sl0 2 rfl) fa_nil))) (by first | omega | (simp; done) | (simp; omega)))) (hf := (hb.up0 hs6))) ?_
           rintro _ w7 ⟨rfl, hs8'⟩
           have hs8 : SH w w7 [] [.own A1 ((textI [67, 79, 78, 78, 69, 67, 84, 32]).length) c1 3 1 ((textI [67, 79, 78, 78, 69, 67, 84, 32]).map I), .own A2 ((textI [80, 82, 79, 88, 89, 32]).length) c2 3 1 ((textI [80, 82, 79, 88, 89, 32]).map I), .own A3 headP.length c3 3 1 (headP.map I), .own (some ⟨b1, 0, none⟩) (([(⟨A1, c1, textI [67, 79, 78, 78, 69, 67, 84, 32]⟩ : Hd), (⟨A2, c2, textI [80, 82, 79, 88, 89, 32]⟩ : Hd), (⟨A3, c3, headP⟩ : Hd)] : List Hd).length) 3 24 1 (([(⟨A1, c1, textI [67, 79, 78, 78, 69, 67, 84, 32]⟩ : Hd), (⟨A2, c2, textI [80, 82, 79, 88, 89, 32]⟩ : Hd), (⟨A3, c3, headP⟩ : Hd)] : List Hd).map hv)] := hs6.call0 hs8'
           clear hs8'
           refine q trivial rfl rfl (asg (v := .bool (startsB (([textI [67, 79, 78, 78, 69, 67, 84, 32], textI [80, 82, 79, 88, 89, 32], headP] : List (List Int)).getD 0 []) b)) rfl) ?_
           refine nl ?_
           refine nN ?_
           refine cd (b := startsB (([textI [67, 79, 78, 78, 69, 67, 84, 32], textI [80, 82, 79, 88, 89, 32], headP] : List (List Int)).getD 0 []) b) rfl (fun h9 => ?_) (fun h9 => ?_)
           · refine sq ?_
             refine rg ?_
             refine q trivial rfl rfl (asg (v := I 0) rfl) ?_
             refine nl ?_
             refine nN ?_
             have hs9 : SH w w7 [] [] := hs8.pick [] rfl (by decide)
             refine rt (bR (bR (tR (tR (bR (tR ?_))))))
             refine fret (v := I 0) (.tmp .nil) rfl ?_
             have e6 : 0 = sniffK b := by (have y1 := conn_t; have y2 := prox_t; have y6 := @starts_alike b; have y7 := @starts_alike2 b; have y8 := @starts_not b; have y9 := @starts_lt b; (try simp only [List.getD_cons_zero, List.getD_cons_succ, Int.zero_add, Nat.zero_add] at *); grind [sniffK, kindW])
             exact ⟨(congrArg (Value.int .i64) e6), hs9⟩
           · refine sk ?_
             refine bN ?_
             refine bN ?_
             refine nN ?_
             refine rg ?_
             refine q trivial rfl rfl (add (a := 0) (b := 1) rfl rfl (by exact ⟨by omega, by omega⟩)) ?_
             refine q trivial rfl rfl (mv (v := I ((0 : Int) + 1)) rfl) ?_
             refine nl ?_
             refine nN ?_
             refine ulS ?_
             refine sq ?_
             refine rg ?_
             refine q trivial rfl rfl (lss (k := .i64) (a := (0 : Int) + 1) (b := ((([(⟨A1, c1, textI [67, 79, 78, 78, 69, 67, 84, 32]⟩ : Hd), (⟨A2, c2, textI [80, 82, 79, 88, 89, 32]⟩ : Hd), (⟨A3, c3, headP⟩ : Hd)] : List Hd).length : Nat) : Int)) rfl rfl) ?_
             refine nl ?_
             refine nN ?_
             refine sq ?_
             refine cdd (p := ((0 : Int) + 1) < ((([(⟨A1, c1, textI [67, 79, 78, 78, 69, 67, 84, 32]⟩ : Hd), (⟨A2, c2, textI [80, 82, 79, 88, 89, 32]⟩ : Hd), (⟨A3, c3, headP⟩ : Hd)] : List Hd).length : Nat) : Int)) rfl (fun h10 => ?_) (fun h10 => absurd (by (simp; done)) h10)
             refine sk ?_
             refine nN ?_
             refine sq ?_
             refine bl ?_
             refine sq ?_
             refine rg ?_
             refine q trivial rfl rfl (mv (v := I ((0 : Int) + 1)) rfl) ?_
             refine q trivial rfl rfl (ixo (0 + 1) sl22 rfl rfl (by first | omega | (simp; done) | (simp; omega))) ?_
             refine q trivial rfl rfl (ldoHd (L := ([textI [67, 79, 78, 78, 69, 67, 84, 32], textI [80, 82, 79, 88, 89, 32], headP] : List (List Int))) (ys := ([(⟨A1, c1, textI [67, 79, 78, 78, 69, 67, 84, 32]⟩ : Hd), (⟨A2, c2, textI [80, 82, 79, 88, 89, 32]⟩ : Hd), (⟨A3, c3, headP⟩ : Hd)] : List Hd)) (o := 0 + 1) rfl hs8 3 rfl rfl (by first | omega | (simp; done) | (simp; omega)) one24) ?_
             refine q trivial rfl rfl (asg (v := I ((0 : Int) + 1)) rfl) ?_
             refine q trivial rfl rfl (asg (v := .slice ((([(⟨A1, c1, textI [67, 79, 78, 78, 69, 67, 84, 32]⟩ : Hd), (⟨A2, c2, textI [80, 82, 79, 88, 89, 32]⟩ : Hd), (⟨A3, c3, headP⟩ : Hd)] : List Hd).getD (0 + 1) hd0).A) ((([textI [67, 79, 78, 78, 69, 67, 84, 32], textI [80, 82, 79, 88, 89, 32], headP] : List (List Int)).getD (0 + 1) []).length) ((([(⟨A1, c1, textI [67, 79, 78, 78, 69, 67, 84, 32]⟩ : Hd), (⟨A2, c2, textI [80, 82, 79, 88, 89, 32]⟩ : Hd), (⟨A3, c3, headP⟩ : Hd)] : List Hd).getD (0 + 1) hd0).c)) rfl) ?_
             refine nl ?_
             refine nN ?_
             refine bl ?_
             refine sq ?_
             refine rg ?_
             refine q trivial rfl rfl (mv (v := .slice Ab b.length cb) rfl) ?_
             refine q trivial rfl rfl (mv (v := .slice ((([(⟨A1, c1, textI [67, 79, 78, 78, 69, 67, 84, 32]⟩ : Hd), (⟨A2, c2, textI [80, 82, 79, 88, 89, 32]⟩ : Hd), (⟨A3, c3, headP⟩ : Hd)] : List Hd).getD (0 + 1) hd0).A) ((([textI [67, 79, 78, 78, 69, 67, 84, 32], textI [80, 82, 79, 88, 89, 32], headP] : List (List Int)).getD (0 + 1) []).length) ((([(⟨A1, c1, textI [67, 79, 78, 78, 69, 67, 84, 32]⟩ : Hd), (⟨A2, c2, textI [80, 82, 79, 88, 89, 32]⟩ : Hd), (⟨A3, c3, headP⟩ : Hd)] : List Hd).getD (0 + 1) hd0).c)) rfl) ?_
             refine cl trivial rfl (iBegins (Ab := Ab) (cb := cb) (b := b) (Af := (([(⟨A1, c1, textI [67, 79, 78, 78, 69, 67, 84, 32]⟩ : Hd), (⟨A2, c2, textI [80, 82, 79, 88, 89, 32]⟩ : Hd), (⟨A3, c3, headP⟩ : Hd)] : List Hd).getD (0 + 1) hd0).A) (cf := (([(⟨A1, c1, textI [67, 79, 78, 78, 69, 67, 84, 32]⟩ : Hd), (⟨A2, c2, textI [80, 82, 79, 88, 89, 32]⟩ : Hd), (⟨A3, c3, headP⟩ : Hd)] : List Hd).getD (0 + 1) hd0).c) (f := ([textI [67, 79, 78, 78, 69, 67, 84, 32], textI [80, 82, 79, 88, 89, 32], headP] : List (List Int)).getD (0 + 1) []) (w := _) (hb := (hb.up0 hs8)) (hf := (hd_at2 (L := ([textI [67, 79, 78, 78, 69, 67, 84, 32], textI [80, 82, 79, 88, 89, 32], headP] : List (List Int))) rfl (fa_cons (hs8.sl0 0 rfl) (fa_cons (hs8.sl0 1 rfl) (fa_cons (hs8.sl0 2 rfl) fa_nil))) (by first | omega | (simp; done) | (simp; omega))))) ?_
             rintro _ w8 ⟨rfl, hs10'⟩
             have hs10 : SH w w8 [] [.own A1 ((textI [67, 79, 78, 78, 69, 67, 84, 32]).length) c1 3 1 ((textI [67, 79, 78, 78, 69, 67, 84, 32]).map I), .own A2 ((textI [80, 82, 79, 88, 89, 32]).length) c2 3 1 ((textI [80, 82, 79, 88, 89, 32]).map I), .own A3 headP.length c3 3 1 (headP.map I), .own (some ⟨b1, 0, none⟩) (([(⟨A1, c1, textI [67, 79, 78, 78, 69, 67, 84, 32]⟩ : Hd), (⟨A2, c2, textI [80, 82, 79, 88, 89, 32]⟩ : Hd), (⟨A3, c3, headP⟩ : Hd)] : List Hd).length) 3 24 1 (([(⟨A1, c1, textI [67, 79, 78, 78, 69, 67, 84, 32]⟩ : Hd), (⟨A2, c2, textI [80, 82, 79, 88, 89, 32]⟩ : Hd), (⟨A3, c3, headP⟩ : Hd)] : List Hd).map hv)] := hs8.call0 hs10'
             clear hs10'
             refine q trivial rfl rfl (asg (v := .bool (startsB b (([textI [67, 79, 78, 78, 69, 67, 84, 32], textI [80, 82, 79, 88, 89, 32], headP] : List (List Int)).getD (0 + 1) []))) rfl) ?_
             refine nl ?_
             refine nN ?_
             refine cd (b := startsB b (([textI [67, 79, 78, 78, 69, 67, 84, 32], textI [80, 82, 79, 88, 89, 32], headP] : List (List Int)).getD (0 + 1) [])) rfl (fun h11 => ?_) (fun h11 => ?_)
             · refine sq ?_
               refine rg ?_
               refine q trivial rfl rfl (mv (v := I ((0 : Int) + 1)) rfl) ?_
               refine q trivial rfl rfl (add (a := 3) (b := (0 : Int) + 1) rfl rfl (by exact ⟨by omega, by omega⟩)) ?_
               refine q trivial rfl rfl (asg (v := I (3 + ((0 : Int) + 1))) rfl) ?_
               refine nl ?_
               refine nN ?_
               have hs11 : SH w w8 [] [] := hs10.pick [] rfl (by decide)
               refine rt (bR (bR (tR (tR (bR (tR ?_))))))
               refine fret (v := I (3 + ((0 : Int) + 1))) (.tmp .nil) rfl ?_
               have e7 : 3 + ((0 : Int) + 1) = sniffK b := by (have y1 := conn_t; have y2 := prox_t; have y6 := @starts_alike b; have y7 := @starts_alike2 b; have y8 := @starts_not b; have y9 := @starts_lt b; (try simp only [List.getD_cons_zero, List.getD_cons_succ, Int.zero_add, Nat.zero_add] at *); grind [sniffK, kindW])
               exact ⟨(congrArg (Value.int .i64) e7), hs11⟩
             · refine sq ?_
               refine rg ?_
               refine q trivial rfl rfl (mv (v := .slice ((([(⟨A1, c1, textI [67, 79, 78, 78, 69, 67, 84, 32]⟩ : Hd), (⟨A2, c2, textI [80, 82, 79, 88, 89, 32]⟩ : Hd), (⟨A3, c3, headP⟩ : Hd)] : List Hd).getD (0 + 1) hd0).A) ((([textI [67, 79, 78, 78, 69, 67, 84, 32], textI [80, 82, 79, 88, 89, 32], headP] : List (List Int)).getD (0 + 1) []).length) ((([(⟨A1, c1, textI [67, 79, 78, 78, 69, 67, 84, 32]⟩ : Hd), (⟨A2, c2, textI [80, 82, 79, 88, 89, 32]⟩ : Hd), (⟨A3, c3, headP⟩ : Hd)] : List Hd).getD (0 + 1) hd0).c)) rfl) ?_
               refine q trivial rfl rfl (mv (v := .slice Ab b.length cb) rfl) ?_
               refine cl trivial rfl (iBegins (Ab := (([(⟨A1, c1, textI [67, 79, 78, 78, 69, 67, 84, 32]⟩ : Hd), (⟨A2, c2, textI [80, 82, 79, 88, 89, 32]⟩ : Hd), (⟨A3, c3, headP⟩ : Hd)] : List Hd).getD (0 + 1) hd0).A) (cb := (([(⟨A1, c1, textI [67, 79, 78, 78, 69, 67, 84, 32]⟩ : Hd), (⟨A2, c2, textI [80, 82, 79, 88, 89, 32]⟩ : Hd), (⟨A3, c3, headP⟩ : Hd)] : List Hd).getD (0 + 1) hd0).c) (b := ([textI [67, 79, 78, 78, 69, 67, 84, 32], textI [80, 82, 79, 88, 89, 32], headP] : List (List Int)).getD (0 + 1) []) (Af := Ab) (cf := cb) (f := b) (w := _) (hb := (hd_at2 (L := ([textI [67, 79, 78, 78, 69, 67, 84, 32], textI [80, 82, 79, 88, 89, 32], headP] : List (List Int))) rfl (fa_cons (hs10.sl0 0 rfl) (fa_cons (hs10.sl0 1 rfl) (fa_cons (hs10.sl0 2 rfl) fa_nil))) (by first | omega | (simp; done) | (simp; omega)))) (hf := (hb.up0 hs10))) ?_
               rintro _ w9 ⟨rfl, hs12'⟩
               have hs12 : SH w w9 [] [.own A1 ((textI [67, 79, 78, 78, 69, 67, 84, 32]).length) c1 3 1 ((textI [67, 79, 78, 78, 69, 67, 84, 32]).map I), .own A2 ((textI [80, 82, 79, 88, 89, 32]).length) c2 3 1 ((textI [80, 82, 79, 88, 89, 32]).map I), .own A3 headP.length c3 3 1 (headP.map I), .own (some ⟨b1, 0, none⟩) (([(⟨A1, c1, textI [67, 79, 78, 78, 69, 67, 84, 32]⟩ : Hd), (⟨A2, c2, textI [80, 82, 79, 88, 89, 32]⟩ : Hd), (⟨A3, c3, headP⟩ : Hd)] : List Hd).length) 3 24 1 (([(⟨A1, c1, textI [67, 79, 78, 78, 69, 67, 84, 32]⟩ : Hd), (⟨A2, c2, textI [80, 82, 79, 88, 89, 32]⟩ : Hd), (⟨A3, c3, headP⟩ : Hd)] : List Hd).map hv)] := hs10.call0 hs12'
               clear hs12'
               refine q trivial rfl rfl (asg (v := .bool (startsB (([textI [67, 79, 78, 78, 69, 67, 84, 32], textI [80, 82, 79, 88, 89, 32], headP] : List (List Int)).getD (0 + 1) []) b)) rfl) ?_
               refine nl ?_
               refine nN ?_
               refine cd (b := startsB (([textI [67, 79, 78, 78, 69, 67, 84, 32], textI [80, 82, 79, 88, 89, 32], headP] : List (List Int)).getD (0 + 1) []) b) rfl (fun h12 => ?_) (fun h12 => ?_)
               · refine sq ?_
                 refine rg ?_
                 refine q trivial rfl rfl (asg (v := I 0) rfl) ?_
                 refine nl ?_
                 refine nN ?_
                 have hs13 : SH w w9 [] [] := hs12.pick [] rfl (by decide)
                 refine rt (bR (bR (tR (tR (bR (tR ?_))))))
                 refine fret (v := I 0) (.tmp .nil) rfl ?_
                 have e8 : 0 = sniffK b := by (have y1 := conn_t; have y2 := prox_t; have y6 := @starts_alike b; have y7 := @starts_alike2 b; have y8 := @starts_not b; have y9 := @starts_lt b; (try simp only [List.getD_cons_zero, List.getD_cons_succ, Int.zero_add, Nat.zero_add] at *); grind [sniffK, kindW])
                 exact ⟨(congrArg (Value.int .i64) e8), hs13⟩
               · refine sk ?_
                 refine bN ?_
                 refine bN ?_
                 refine nN ?_
                 refine rg ?_
                 refine q trivial rfl rfl (add (a := (0 : Int) + 1) (b := 1) rfl rfl (by exact ⟨by omega, by omega⟩)) ?_
                 refine q trivial rfl rfl (mv (v := I (((0 : Int) + 1) + 1)) rfl) ?_
                 refine nl ?_
                 refine nN ?_
                 refine ulS ?_
                 refine sq ?_
                 refine rg ?_
                 refine q trivial rfl rfl (lss (k := .i64) (a := ((0 : Int) + 1) + 1) (b := ((([(⟨A1, c1, textI [67, 79, 78, 78, 69, 67, 84, 32]⟩ : Hd), (⟨A2, c2, textI [80, 82, 79, 88, 89, 32]⟩ : Hd), (⟨A3, c3, headP⟩ : Hd)] : List Hd).length : Nat) : Int)) rfl rfl) ?_
                 refine nl ?_
                 refine nN ?_
                 refine sq ?_
                 refine cdd (p := (((0 : Int) + 1) + 1) < ((([(⟨A1, c1, textI [67, 79, 78, 78, 69, 67, 84, 32]⟩ : Hd), (⟨A2, c2, textI [80, 82, 79, 88, 89, 32]⟩ : Hd), (⟨A3, c3, headP⟩ : Hd)] : List Hd).length : Nat) : Int)) rfl (fun h13 => ?_) (fun h13 => absurd (by (simp; done)) h13)
                 refine sk ?_
                 refine nN ?_
                 refine sq ?_
                 refine bl ?_
                 refine sq ?_
                 refine rg ?_
                 refine q trivial rfl rfl (mv (v := I (((0 : Int) + 1) + 1)) rfl) ?_
                 refine q trivial rfl rfl (ixo ((0 + 1) + 1) sl22 rfl rfl (by first | omega | (simp; done) | (simp; omega))) ?_
                 refine q trivial rfl rfl (ldoHd (L := ([textI [67, 79, 78, 78, 69, 67, 84, 32], textI [80, 82, 79, 88, 89, 32], headP] : List (List Int))) (ys := ([(⟨A1, c1, textI [67, 79, 78, 78, 69, 67, 84, 32]⟩ : Hd), (⟨A2, c2, textI [80, 82, 79, 88, 89, 32]⟩ : Hd), (⟨A3, c3, headP⟩ : Hd)] : List Hd)) (o := (0 + 1) + 1) rfl hs12 3 rfl rfl (by first | omega | (simp; done) | (simp; omega)) one24) ?_
                 refine q trivial rfl rfl (asg (v := I (((0 : Int) + 1) + 1)) rfl) ?_
                 refine q trivial rfl rfl (asg (v := .slice ((([(⟨A1, c1, textI [67, 79, 78, 78, 69, 67, 84, 32]⟩ : Hd), (⟨A2, c2, textI [80, 82, 79, 88, 89, 32]⟩ : Hd), (⟨A3, c3, headP⟩ : Hd)] : List Hd).getD ((0 + 1) + 1) hd0).A) ((([textI [67, 79, 78, 78, 69, 67, 84, 32], textI [80, 82, 79, 88, 89, 32], headP] : List (List Int)).getD ((0 + 1) + 1) []).length) ((([(⟨A1, c1, textI [67, 79, 78, 78, 69, 67, 84, 32]⟩ : Hd), (⟨A2, c2, textI [80, 82, 79, 88, 89, 32]⟩ : Hd), (⟨A3, c3, headP⟩ : Hd)] : List Hd).getD ((0 + 1) + 1) hd0).c)) rfl) ?_
                 refine nl ?_
                 refine nN ?_
                 refine bl ?_
                 refine sq ?_
                 refine rg ?_
                 refine q trivial rfl rfl (mv (v := .slice Ab b.length cb) rfl) ?_
                 refine q trivial rfl rfl (mv (v := .slice ((([(⟨A1, c1, textI [67, 79, 78, 78, 69, 67, 84, 32]⟩ : Hd), (⟨A2, c2, textI [80, 82, 79, 88, 89, 32]⟩ : Hd), (⟨A3, c3, headP⟩ : Hd)] : List Hd).getD ((0 + 1) + 1) hd0).A) ((([textI [67, 79, 78, 78, 69, 67, 84, 32], textI [80, 82, 79, 88, 89, 32], headP] : List (List Int)).getD ((0 + 1) + 1) []).length) ((([(⟨A1, c1, textI [67, 79, 78, 78, 69, 67, 84, 32]⟩ : Hd), (⟨A2, c2, textI [80, 82, 79, 88, 89, 32]⟩ : Hd), (⟨A3, c3, headP⟩ : Hd)] : List Hd).getD ((0 + 1) + 1) hd0).c)) rfl) ?_
                 refine cl trivial rfl (iBegins (Ab := Ab) (cb := cb) (b := b) (Af := (([(⟨A1, c1, textI [67, 79, 78, 78, 69, 67, 84, 32]⟩ : Hd), (⟨A2, c2, textI [80, 82, 79, 88, 89, 32]⟩ : Hd), (⟨A3, c3, headP⟩ : Hd)] : List Hd).getD ((0 + 1) + 1) hd0).A) (cf := (([(⟨A1, c1, textI [67, 79, 78, 78, 69, 67, 84, 32]⟩ : Hd), (⟨A2, c2, textI [80, 82, 79, 88, 89, 32]⟩ : Hd), (⟨A3, c3, headP⟩ : Hd)] : List Hd).getD ((0 + 1) + 1) hd0).c) (f := ([textI [67, 79, 78, 78, 69, 67, 84, 32], textI [80, 82, 79, 88, 89, 32], headP] : List (List Int)).getD ((0 + 1) + 1) []) (w := _) (hb := (hb.up0 hs12)) (hf := (hd_at2 (L := ([textI [67, 79, 78, 78, 69, 67, 84, 32], textI [80, 82, 79, 88, 89, 32], headP] : List (List Int))) rfl (fa_cons (hs12.sl0 0 rfl) (fa_cons (hs12.sl0 1 rfl) (fa_cons (hs12.sl0 2 rfl) fa_nil))) (by first | omega | (simp; done) | (simp; omega))))) ?_
                 rintro _ w10 ⟨rfl, hs14'⟩
                 have hs14 : SH w w10 [] [.own A1 ((textI [67, 79, 78, 78, 69, 67, 84, 32]).length) c1 3 1 ((textI [67, 79, 78, 78, 69, 67, 84, 32]).map I), .own A2 ((textI [80, 82, 79, 88, 89, 32]).length) c2 3 1 ((textI [80, 82, 79, 88, 89, 32]).map I), .own A3 headP.length c3 3 1 (headP.map I), .own (some ⟨b1, 0, none⟩) (([(⟨A1, c1, textI [67, 79, 78, 78, 69, 67, 84, 32]⟩ : Hd), (⟨A2, c2, textI [80, 82, 79, 88, 89, 32]⟩ : Hd), (⟨A3, c3, headP⟩ : Hd)] : List Hd).length) 3 24 1 (([(⟨A1, c1, textI [67, 79, 78, 78, 69, 67, 84, 32]⟩ : Hd), (⟨A2, c2, textI [80, 82, 79, 88, 89, 32]⟩ : Hd), (⟨A3, c3, headP⟩ : Hd)] : List Hd).map hv)] := hs12.call0 hs14'
                 clear hs14'
                 refine q trivial rfl rfl (asg (v := .bool (startsB b (([textI [67, 79, 78, 78, 69, 67, 84, 32], textI [80, 82, 79, 88, 89, 32], headP] : List (List Int)).getD ((0 + 1) + 1) []))) rfl) ?_
                 refine nl ?_
                 refine nN ?_
                 refine cd (b := startsB b (([textI [67, 79, 78, 78, 69, 67, 84, 32], textI [80, 82, 79, 88, 89, 32], headP] : List (List Int)).getD ((0 + 1) + 1) [])) rfl (fun h14 => ?_) (fun h14 => ?_)
                 · refine sq ?_
                   refine rg ?_
                   refine q trivial rfl rfl (mv (v := I (((0 : Int) + 1) + 1)) rfl) ?_
                   refine q trivial rfl rfl (add (a := 3) (b := ((0 : Int) + 1) + 1) rfl rfl (by exact ⟨by omega, by omega⟩)) ?_
                   refine q trivial rfl rfl (asg (v := I (3 + (((0 : Int) + 1) + 1))) rfl) ?_
                   refine nl ?_
                   refine nN ?_
                   have hs15 : SH w w10 [] [] := hs14.pick [] rfl (by decide)
                   refine rt (bR (bR (tR (tR (bR (tR ?_))))))
                   refine fret (v := I (3 + (((0 : Int) + 1) + 1))) (.tmp .nil) rfl ?_
                   have e9 : 3 + (((0 : Int) + 1) + 1) = sniffK b := by (have y1 := conn_t; have y2 := prox_t; have y6 := @starts_alike b; have y7 := @starts_alike2 b; have y8 := @starts_not b; have y9 := @starts_lt b; (try simp only [List.getD_cons_zero, List.getD_cons_succ, Int.zero_add, Nat.zero_add] at *); grind [sniffK, kindW])
                   exact ⟨(congrArg (Value.int .i64) e9), hs15⟩
                 · refine sq ?_
                   refine rg ?_
                   refine q trivial rfl rfl (mv (v := .slice ((([(⟨A1, c1, textI [67, 79, 78, 78, 69, 67, 84, 32]⟩ : Hd), (⟨A2, c2, textI [80, 82, 79, 88, 89, 32]⟩ : Hd), (⟨A3, c3, headP⟩ : Hd)] : List Hd).getD ((0 + 1) + 1) hd0).A) ((([textI [67, 79, 78, 78, 69, 67, 84, 32], textI [80, 82, 79, 88, 89, 32], headP] : List (List Int)).getD ((0 + 1) + 1) []).length) ((([(⟨A1, c1, textI [67, 79, 78, 78, 69, 67, 84, 32]⟩ : Hd), (⟨A2, c2, textI [80, 82, 79, 88, 89, 32]⟩ : Hd), (⟨A3, c3, headP⟩ : Hd)] : List Hd).getD ((0 + 1) + 1) hd0).c)) rfl) ?_
                   refine q trivial rfl rfl (mv (v := .slice Ab b.length cb) rfl) ?_
                   refine cl trivial rfl (iBegins (Ab := (([(⟨A1, c1, textI [67, 79, 78, 78, 69, 67, 84, 32]⟩ : Hd), (⟨A2, c2, textI [80, 82, 79, 88, 89, 32]⟩ : Hd), (⟨A3, c3, headP⟩ : Hd)] : List Hd).getD ((0 + 1) + 1) hd0).A) (cb := (([(⟨A1, c1, textI [67, 79, 78, 78, 69, 67, 84, 32]⟩ : Hd), (⟨A2, c2, textI [80, 82, 79, 88, 89, 32]⟩ : Hd), (⟨A3, c3, headP⟩ : Hd)] : List Hd).getD ((0 + 1) + 1) hd0).c) (b := ([textI [67, 79, 78, 78, 69, 67, 84, 32], textI [80, 82, 79, 88, 89, 32], headP] : List (List Int)).getD ((0 + 1) + 1) []) (Af := Ab) (cf := cb) (f := b) (w := _) (hb := (hd_at2 (L := ([textI [67, 79, 78, 78, 69, 67, 84, 32], textI [80, 82, 79, 88, 89, 32], headP] : List (List Int))) rfl (fa_cons (hs14.sl0 0 rfl) (fa_cons (hs14.sl0 1 rfl) (fa_cons (hs14.sl0 2 rfl) fa_nil))) (by first | omega | (simp; done) | (simp; omega)))) (hf := (hb.up0 hs14))) ?_
                   rintro _ w11 ⟨rfl, hs16'⟩
                   have hs16 : SH w w11 [] [.own A1 ((textI [67, 79, 78, 78, 69, 67, 84, 32]).length) c1 3 1 ((textI [67, 79, 78, 78, 69, 67, 84, 32]).map I), .own A2 ((textI [80, 82, 79, 88, 89, 32]).length) c2 3 1 ((textI [80, 82, 79, 88, 89, 32]).map I), .own A3 headP.length c3 3 1 (headP.map I), .own (some ⟨b1, 0, none⟩) (([(⟨A1, c1, textI [67, 79, 78, 78, 69, 67, 84, 32]⟩ : Hd), (⟨A2, c2, textI [80, 82, 79, 88, 89, 32]⟩ : Hd), (⟨A3, c3, headP⟩ : Hd)] : List Hd).length) 3 24 1 (([(⟨A1, c1, textI [67, 79, 78, 78, 69, 67, 84, 32]⟩ : Hd), (⟨A2, c2, textI [80, 82, 79, 88, 89, 32]⟩ : Hd), (⟨A3, c3, headP⟩ : Hd)] : List Hd).map hv)] := hs14.call0 hs16'
                   clear hs16'
                   refine q trivial rfl rfl (asg (v := .bool (startsB (([textI [67, 79, 78, 78, 69, 67, 84, 32], textI [80, 82, 79, 88, 89, 32], headP] : List (List Int)).getD ((0 + 1) + 1) []) b)) rfl) ?_
                   refine nl ?_
                   refine nN ?_
                   refine cd (b := startsB (([textI [67, 79, 78, 78, 69, 67, 84, 32], textI [80, 82, 79, 88, 89, 32], headP] : List (List Int)).getD ((0 + 1) + 1) []) b) rfl (fun h15 => ?_) (fun h15 => ?_)
                   · refine sq ?_
                     refine rg ?_
                     refine q trivial rfl rfl (asg (v := I 0) rfl) ?_
                     refine nl ?_
                     refine nN ?_
                     have hs17 : SH w w11 [] [] := hs16.pick [] rfl (by decide)
                     refine rt (bR (bR (tR (tR (bR (tR ?_))))))
                     refine fret (v := I 0) (.tmp .nil) rfl ?_
                     have e10 : 0 = sniffK b := by (have y1 := conn_t; have y2 := prox_t; have y6 := @starts_alike b; have y7 := @starts_alike2 b; have y8 := @starts_not b; have y9 := @starts_lt b; (try simp only [List.getD_cons_zero, List.getD_cons_succ, Int.zero_add, Nat.zero_add] at *); grind [sniffK, kindW])
                     exact ⟨(congrArg (Value.int .i64) e10), hs17⟩
                   · refine sk ?_
                     refine bN ?_
                     refine bN ?_
                     refine nN ?_
                     refine rg ?_
                     refine q trivial rfl rfl (add (a := ((0 : Int) + 1) + 1) (b := 1) rfl rfl (by exact ⟨by omega, by omega⟩)) ?_
                     refine q trivial rfl rfl (mv (v := I ((((0 : Int) + 1) + 1) + 1)) rfl) ?_
                     refine nl ?_
                     refine nN ?_
                     refine ulS ?_
                     refine sq ?_
                     refine rg ?_
                     refine q trivial rfl rfl (lss (k := .i64) (a := (((0 : Int) + 1) + 1) + 1) (b := ((([(⟨A1, c1, textI [67, 79, 78, 78, 69, 67, 84, 32]⟩ : Hd), (⟨A2, c2, textI [80, 82, 79, 88, 89, 32]⟩ : Hd), (⟨A3, c3, headP⟩ : Hd)] : List Hd).length : Nat) : Int)) rfl rfl) ?_
                     refine nl ?_
                     refine nN ?_
                     refine sq ?_
                     refine cdd (p := ((((0 : Int) + 1) + 1) + 1) < ((([(⟨A1, c1, textI [67, 79, 78, 78, 69, 67, 84, 32]⟩ : Hd), (⟨A2, c2, textI [80, 82, 79, 88, 89, 32]⟩ : Hd), (⟨A3, c3, headP⟩ : Hd)] : List Hd).length : Nat) : Int)) rfl (fun h16 => absurd h16 (by (simp; done))) (fun h16 => ?_)
                     refine ex (tE (tE (bE ?_)))
                     refine nN ?_
                     have hs18 : SH w w11 [] [] := hs16.pick [] rfl (by decide)
                     refine sq ?_
                     refine rg ?_
                     refine q trivial rfl rfl (asg (v := I 6) rfl) ?_
                     refine nl ?_
                     refine nN ?_
                     refine rt ?_
                     refine fret (v := I 6) (.tmp .nil) rfl ?_
                     have e11 : 6 = sniffK b := by (have y1 := conn_t; have y2 := prox_t; have y6 := @starts_alike b; have y7 := @starts_alike2 b; have y8 := @starts_not b; have y9 := @starts_lt b; (try simp only [List.getD_cons_zero, List.getD_cons_succ, Int.zero_add, Nat.zero_add] at *); grind [sniffK, kindW])
                     exact ⟨(congrArg (Value.int .i64) e11), hs18⟩

theorem iCountKinds {Ahs : Option Addr} {chs : Nat} (hs : List Hd) (w : World) (hhs : Sl w [] 1 Ahs hs.length chs (hs.map hv)) (hhs_in : ∀ u ∈ hs, HdOk w [] u) : Does Try.prog 9 [.slice Ahs hs.length chs] w (fun v w' => ∃ Ar : Option Addr, ∃ cr : Nat, v = .slice Ar (kindsC (hdX hs)).length cr ∧ SH w w' [] [.own Ar ((kindsC (hdX hs)).length) cr 3 1 ((kindsC (hdX hs)).map I)]) := by
 refine fn_enter (N := 22) Try.func9 rfl (by kernel_rfl) rfl rfl rfl ?_
 have hs0 : SH w w [] [] := SH.refl w []
 have hhs_m : hs.length ≤ 9223372036854775807 := Nat.le_trans hhs.cap hhs.capMax
 refine sq ?_
 refine rg ?_
 refine q trivial rfl rfl (asg (v := ns) rfl) ?_
 refine nl ?_
 refine nN ?_
 refine sq ?_
 refine rg ?_
 refine mkm (g := I) (z := 0) (n := 7) hs0 sl24 rfl rfl rfl (by first | (omega) | (have hsb := sniffK_bd (hs.getD k hd0).xs; have hkl := kindsC_len (hdX (hs.take k)); have hkb := kindsC_bd (hdX (hs.take k)) (sniffK (hs.getD k hd0).xs).toNat; rw [List.length_map, List.length_take] at hkb; omega)) (by unfold maxLen; first | (omega) | (have hsb := sniffK_bd (hs.getD k hd0).xs; have hkl := kindsC_len (hdX (hs.take k)); have hkb := kindsC_bd (hdX (hs.take k)) (sniffK (hs.getD k hd0).xs).toNat; rw [List.length_map, List.length_take] at hkb; omega)) trivial rfl (fun b1 w1 (hs1 : SH w w1 [] [oI b1 (List.replicate 7 (0 : Int)) 7 3]) => ?_)
 refine q trivial rfl rfl (asg (v := sb b1 ((List.replicate 7 (0 : Int)).length) 7) rfl) ?_
 refine nl ?_
 refine nN ?_
 refine sq ?_
 refine sq ?_
 refine rg ?_
 refine q trivial rfl rfl (mv (v := .slice Ahs hs.length chs) rfl) ?_
 refine q trivial rfl rfl (lnA (n := hs.length) sl22 rfl) ?_
 refine q trivial rfl rfl (mv (v := I 0) rfl) ?_
 refine nl ?_
 refine nN ?_
 refine bl ?_
 have e1 : List.replicate 7 (0 : Int) = kindsC (hdX (hs.take 0)) := by rfl
 have e2 : (List.replicate 7 (0 : Int)).length = 7 := by first | (first | rfl | (simp; done) | (simp; omega) | omega) | (have hsb := sniffK_bd (hs.getD k hd0).xs; have hkl := kindsC_len (hdX (hs.take k)); have hkb := kindsC_bd (hdX (hs.take k)) (sniffK (hs.getD k hd0).xs).toNat; rw [List.length_map, List.length_take] at hkb; first | rfl | (simp; done) | (simp; omega) | omega)
 refine lp (σ := (Option Addr) × Nat × Nat) (fun ⟨Ag3, cg3, k⟩ f w' => Has f [(3, .slice Ag3 7 cg3), (7, .slice Ahs hs.length chs), (8, I ((hs.length : Nat) : Int)), (9, I ((k : Nat) : Int))] ∧ (k ≤ hs.length) ∧ SH w w' [] [.own Ag3 7 cg3 3 1 ((kindsC (hdX (hs.take k))).map I)]) (fun ⟨Ag3, cg3, k⟩ => hs.length - k) ((some ⟨b1, 0, none⟩), 7, 0) ⟨⟨(show (.slice (some ⟨b1, 0, none⟩) ((List.replicate 7 (0 : Int)).length) 7 : Value) = .slice (some ⟨b1, 0, none⟩) 7 7 from slv rfl e2 rfl), rfl, rfl, rfl, trivial⟩, (by simp), (hs1.cast (lc (own_eq (g := I) rfl e2 rfl e1) rfl))⟩ ?_
 rintro ⟨Ag3, cg3, k⟩ f w2 ⟨hf, hk, hs2⟩
 obtain ⟨g1, rfl⟩ := has_upd hf
 clear hf
 refine sq ?_
 refine rg ?_
 refine q trivial rfl rfl (lss (k := .i64) (a := ((k : Nat) : Int)) (b := ((hs.length : Nat) : Int)) rfl rfl) ?_
 refine nl ?_
 refine nN ?_
 refine sq ?_
 refine cdd (p := ((k : Nat) : Int) < ((hs.length : Nat) : Int)) rfl (fun h1 => ?_) (fun h1 => ?_)
 · refine sk ?_
   refine nN ?_
   refine sq ?_
   refine bl ?_
   refine sq ?_
   refine rg ?_
   refine ixw1 k sl22 rfl rfl hhs (by have hsb := sniffK_bd (hs.getD k hd0).xs; have hkl := kindsC_len (hdX (hs.take k)); have hkb := kindsC_bd (hdX (hs.take k)) (sniffK (hs.getD k hd0).xs).toNat; rw [List.length_map, List.length_take] at hkb; first | omega | (simp; done) | (simp; omega)) (getm hv hd0 (by have hsb := sniffK_bd (hs.getD k hd0).xs; have hkl := kindsC_len (hdX (hs.take k)); have hkb := kindsC_bd (hdX (hs.take k)) (sniffK (hs.getD k hd0).xs).toNat; rw [List.length_map, List.length_take] at hkb; first | omega | (simp; done) | (simp; omega))) trivial rfl (fun a1 ha1 => ?_)
   refine q trivial rfl rfl (lda (v := .slice ((hs.getD k hd0).A) (((hs.getD k hd0).xs).length) ((hs.getD k hd0).c)) hs2 ha1 (fun _ h => h) rfl rfl one24) ?_
   refine q trivial rfl rfl (asg (v := .slice ((hs.getD k hd0).A) (((hs.getD k hd0).xs).length) ((hs.getD k hd0).c)) rfl) ?_
   refine nl ?_
   refine nN ?_
   refine rg ?_
   refine q trivial rfl rfl (mv (v := .slice Ag3 7 cg3) rfl) ?_
   refine q trivial rfl rfl (mv (v := .slice ((hs.getD k hd0).A) (((hs.getD k hd0).xs).length) ((hs.getD k hd0).c)) rfl) ?_
   refine cl trivial rfl (iSniffKind (Ab := (hs.getD k hd0).A) (cb := (hs.getD k hd0).c) (b := (hs.getD k hd0).xs) (w := _) (hb := (Sl.up0 (hhs_in _ (getD_mem' (by have hsb := sniffK_bd (hs.getD k hd0).xs; have hkl := kindsC_len (hdX (hs.take k)); have hkb := kindsC_bd (hdX (hs.take k)) (sniffK (hs.getD k hd0).xs).toNat; rw [List.length_map, List.length_take] at hkb; first | omega | (simp; done) | (simp; omega)))) hs2))) ?_
   rintro _ w3 ⟨rfl, hs3'⟩
   have hs3 : SH w w3 [] [.own Ag3 7 cg3 3 1 ((kindsC (hdX (hs.take k))).map I)] := hs2.call0 hs3'
   clear hs3'
   refine ixw1 ((sniffK ((hs.getD k hd0).xs)).toNat) sl24 rfl (ieq (x := sniffK ((hs.getD k hd0).xs)) (by first | (omega) | (have hsb := sniffK_bd (hs.getD k hd0).xs; have hkl := kindsC_len (hdX (hs.take k)); have hkb := kindsC_bd (hdX (hs.take k)) (sniffK (hs.getD k hd0).xs).toNat; rw [List.length_map, List.length_take] at hkb; omega))) (hs3.sl0 0 rfl) (by have hsb := sniffK_bd (hs.getD k hd0).xs; have hkl := kindsC_len (hdX (hs.take k)); have hkb := kindsC_bd (hdX (hs.take k)) (sniffK (hs.getD k hd0).xs).toNat; rw [List.length_map, List.length_take] at hkb; first | omega | (simp; done) | (simp; omega)) (getm I 0 (by have hsb := sniffK_bd (hs.getD k hd0).xs; have hkl := kindsC_len (hdX (hs.take k)); have hkb := kindsC_bd (hdX (hs.take k)) (sniffK (hs.getD k hd0).xs).toNat; rw [List.length_map, List.length_take] at hkb; first | omega | (simp; done) | (simp; omega))) trivial rfl (fun a2 ha2 => ?_)
   refine q trivial rfl rfl (lda (v := I ((kindsC (hdX (hs.take k))).getD ((sniffK ((hs.getD k hd0).xs)).toNat) 0)) (SH.refl w3 []) ha2 (fun _ h => h) rfl rfl one3) ?_
   refine q trivial rfl rfl (add (a := (kindsC (hdX (hs.take k))).getD ((sniffK ((hs.getD k hd0).xs)).toNat) 0) (b := 1) rfl rfl (by have hsb := sniffK_bd (hs.getD k hd0).xs; have hkl := kindsC_len (hdX (hs.take k)); have hkb := kindsC_bd (hdX (hs.take k)) (sniffK (hs.getD k hd0).xs).toNat; rw [List.length_map, List.length_take] at hkb; exact ⟨by omega, by omega⟩)) ?_
   obtain ⟨b2, rfl⟩ := own_form hs3 0 rfl (by have hsb := sniffK_bd (hs.getD k hd0).xs; have hkl := kindsC_len (hdX (hs.take k)); have hkb := kindsC_bd (hdX (hs.take k)) (sniffK (hs.getD k hd0).xs).toNat; rw [List.length_map, List.length_take] at hkb; first | omega | (simp; done) | (simp; omega))
   refine q trivial rfl rfl (ixo ((sniffK ((hs.getD k hd0).xs)).toNat) sl24 rfl (ieq (x := sniffK ((hs.getD k hd0).xs)) (by first | (omega) | (have hsb := sniffK_bd (hs.getD k hd0).xs; have hkl := kindsC_len (hdX (hs.take k)); have hkb := kindsC_bd (hdX (hs.take k)) (sniffK (hs.getD k hd0).xs).toNat; rw [List.length_map, List.length_take] at hkb; omega))) (by have hsb := sniffK_bd (hs.getD k hd0).xs; have hkl := kindsC_len (hdX (hs.take k)); have hkb := kindsC_bd (hdX (hs.take k)) (sniffK (hs.getD k hd0).xs).toNat; rw [List.length_map, List.length_take] at hkb; first | omega | (simp; done) | (simp; omega))) ?_
   refine stomn (g := I) (ys := kindsC (hdX (hs.take k))) (o := (sniffK ((hs.getD k hd0).xs)).toNat) (u := ((kindsC (hdX (hs.take k))).getD ((sniffK ((hs.getD k hd0).xs)).toNat) 0) + 1) hs3 0 rfl rfl rfl rfl (by first | (first | omega | (simp; done) | (simp; omega)) | (have hsb := sniffK_bd (hs.getD k hd0).xs; have hkl := kindsC_len (hdX (hs.take k)); have hkb := kindsC_bd (hdX (hs.take k)) (sniffK (hs.getD k hd0).xs).toNat; rw [List.length_map, List.length_take] at hkb; first | omega | (simp; done) | (simp; omega))) rfl one3 trivial (fun w4 (hs4 : SH w w4 [] [.own (some ⟨b2, 0, none⟩) 7 cg3 3 1 (((kindsC (hdX (hs.take k))).set ((sniffK ((hs.getD k hd0).xs)).toNat) (((kindsC (hdX (hs.take k))).getD ((sniffK ((hs.getD k hd0).xs)).toNat) 0) + 1)).map I)]) => ?_)
   refine nl ?_
   refine bN ?_
   refine nN ?_
   refine rg ?_
   refine q trivial rfl rfl (add (a := ((k : Nat) : Int)) (b := 1) rfl rfl (by have hsb := sniffK_bd (hs.getD k hd0).xs; have hkl := kindsC_len (hdX (hs.take k)); have hkb := kindsC_bd (hdX (hs.take k)) (sniffK (hs.getD k hd0).xs).toNat; rw [List.length_map, List.length_take] at hkb; exact ⟨by omega, by omega⟩)) ?_
   refine q trivial rfl rfl (mv (v := I (((k : Nat) : Int) + 1)) rfl) ?_
   refine nl ?_
   refine nN ?_
   have e3 : (kindsC (hdX (hs.take k))).set ((sniffK ((hs.getD k hd0).xs)).toNat) (((kindsC (hdX (hs.take k))).getD ((sniffK ((hs.getD k hd0).xs)).toNat) 0) + 1) = kindsC (hdX (hs.take (k + 1))) := by exact (kinds_take (by omega)).symm
   refine ⟨((some ⟨b2, 0, none⟩), cg3, k + 1), ⟨⟨rfl, rfl, rfl, rfl, trivial⟩, (by omega), (hs4.cast (lc (own_eq (g := I) rfl rfl rfl e3) rfl))⟩, ?_⟩
   show hs.length - (k + 1) < hs.length - k
   omega
 · refine ex (tE (tE (bE ?_)))
   refine nN ?_
   refine sq ?_
   refine rg ?_
   refine q trivial rfl rfl (mv (v := .slice Ag3 7 cg3) rfl) ?_
   refine q trivial rfl rfl (asg (v := .slice Ag3 7 cg3) rfl) ?_
   refine nl ?_
   refine nN ?_
   refine rt ?_
   refine fret (v := .slice Ag3 7 cg3) (.tmp .nil) rfl ?_
   have e4 : kindsC (hdX (hs.take k)) = kindsC (hdX hs) := by (rw [List.take_of_length_le (by omega)])
   have e5 : 7 = (kindsC (hdX hs)).length := by exact (show 7 = (kindsC (hdX (hs.take k))).length by (simp only [kindsC_len])).trans (congrArg List.length e4)
   exact ⟨Ag3, cg3, (slv rfl e5 rfl), (hs2.cast (lc (own_eq (g := I) rfl e5 rfl e4) rfl))⟩

theorem sCountKinds {Ahs : Option Addr} {chs : Nat} (hs : List Hd) (w : World) (hhs : Sl w [] 1 Ahs hs.length chs (hs.map hv)) (hhs_in : ∀ u ∈ hs, HdOk w [] u) : Does Try.prog 7 [.slice Ahs hs.length chs] w (fun v w' => ∃ Ar : Option Addr, ∃ cr : Nat, v = .slice Ar (kindsC (hdX hs)).length cr ∧ SH w w' [] [.own Ar ((kindsC (hdX hs)).length) cr 3 1 ((kindsC (hdX hs)).map I)]) := by
 refine fn_enter (N := 27) Try.func7 rfl (by kernel_rfl) rfl rfl rfl ?_
 have hs0 : SH w w [] [] := SH.refl w []
 have hhs_m : hs.length ≤ 9223372036854775807 := Nat.le_trans hhs.cap hhs.capMax
 refine sq ?_
 refine rg ?_
 refine q trivial rfl rfl (asg (v := ns) rfl) ?_
 refine nl ?_
 refine nN ?_
 refine sq ?_
 refine rg ?_
 refine mkm (g := I) (z := 0) (n := 7) hs0 sl24 rfl rfl rfl (by first | (omega) | (have hsb := sniffK_bd (hs.getD k hd0).xs; have hkl := kindsC_len (hdX (hs.take k)); have hkb := kindsC_bd (hdX (hs.take k)) (sniffK (hs.getD k hd0).xs).toNat; rw [List.length_map, List.length_take] at hkb; omega)) (by unfold maxLen; first | (omega) | (have hsb := sniffK_bd (hs.getD k hd0).xs; have hkl := kindsC_len (hdX (hs.take k)); have hkb := kindsC_bd (hdX (hs.take k)) (sniffK (hs.getD k hd0).xs).toNat; rw [List.length_map, List.length_take] at hkb; omega)) trivial rfl (fun b1 w1 (hs1 : SH w w1 [] [oI b1 (List.replicate 7 (0 : Int)) 7 3]) => ?_)
 refine q trivial rfl rfl (asg (v := sb b1 ((List.replicate 7 (0 : Int)).length) 7) rfl) ?_
 refine nl ?_
 refine nN ?_
 refine sq ?_
 refine sq ?_
 refine rg ?_
 refine q trivial rfl rfl (asg (v := I 0) rfl) ?_
 refine nl ?_
 refine nN ?_
 refine bl ?_
 have e1 : List.replicate 7 (0 : Int) = kindsC (hdX (hs.take 0)) := by rfl
 have e2 : (List.replicate 7 (0 : Int)).length = 7 := by first | (first | rfl | (simp; done) | (simp; omega) | omega) | (have hsb := sniffK_bd (hs.getD k hd0).xs; have hkl := kindsC_len (hdX (hs.take k)); have hkb := kindsC_bd (hdX (hs.take k)) (sniffK (hs.getD k hd0).xs).toNat; rw [List.length_map, List.length_take] at hkb; first | rfl | (simp; done) | (simp; omega) | omega)
 refine lp (σ := (Option Addr) × Nat × Nat) (fun ⟨Ag3, cg3, k⟩ f w' => Has f [(0, .slice Ahs hs.length chs), (3, .slice Ag3 7 cg3), (4, I ((k : Nat) : Int))] ∧ (k ≤ hs.length) ∧ SH w w' [] [.own Ag3 7 cg3 3 1 ((kindsC (hdX (hs.take k))).map I)]) (fun ⟨Ag3, cg3, k⟩ => hs.length - k) ((some ⟨b1, 0, none⟩), 7, 0) ⟨⟨rfl, (show (.slice (some ⟨b1, 0, none⟩) ((List.replicate 7 (0 : Int)).length) 7 : Value) = .slice (some ⟨b1, 0, none⟩) 7 7 from slv rfl e2 rfl), rfl, trivial⟩, (by simp), (hs1.cast (lc (own_eq (g := I) rfl e2 rfl e1) rfl))⟩ ?_
 rintro ⟨Ag3, cg3, k⟩ f w2 ⟨hf, hk, hs2⟩
 obtain ⟨g1, rfl⟩ := has_upd hf
 clear hf
 refine sq ?_
 refine sq ?_
 refine rg ?_
 refine q trivial rfl rfl (mv (v := I ((k : Nat) : Int)) rfl) ?_
 refine q trivial rfl rfl (mv (v := .slice Ahs hs.length chs) rfl) ?_
 refine q trivial rfl rfl (lnA (n := hs.length) sl22 rfl) ?_
 refine q trivial rfl rfl (lss (k := .i64) (a := ((k : Nat) : Int)) (b := ((hs.length : Nat) : Int)) rfl rfl) ?_
 refine nl ?_
 refine nN ?_
 refine cdd (p := ((k : Nat) : Int) < ((hs.length : Nat) : Int)) rfl (fun h1 => ?_) (fun h1 => ?_)
 · refine sk ?_
   refine nN ?_
   refine sq ?_
   refine bl ?_
   refine sq ?_
   refine rg ?_
   refine q trivial rfl rfl (mv (v := .slice Ahs hs.length chs) rfl) ?_
   refine q trivial rfl rfl (mv (v := I ((k : Nat) : Int)) rfl) ?_
   refine ixw1 k sl22 rfl rfl hhs (by have hsb := sniffK_bd (hs.getD k hd0).xs; have hkl := kindsC_len (hdX (hs.take k)); have hkb := kindsC_bd (hdX (hs.take k)) (sniffK (hs.getD k hd0).xs).toNat; rw [List.length_map, List.length_take] at hkb; first | omega | (simp; done) | (simp; omega)) (getm hv hd0 (by have hsb := sniffK_bd (hs.getD k hd0).xs; have hkl := kindsC_len (hdX (hs.take k)); have hkb := kindsC_bd (hdX (hs.take k)) (sniffK (hs.getD k hd0).xs).toNat; rw [List.length_map, List.length_take] at hkb; first | omega | (simp; done) | (simp; omega))) trivial rfl (fun a1 ha1 => ?_)
   refine q trivial rfl rfl (lda (v := .slice ((hs.getD k hd0).A) (((hs.getD k hd0).xs).length) ((hs.getD k hd0).c)) hs2 ha1 (fun _ h => h) rfl rfl one24) ?_
   refine cl trivial rfl (sSniffKind (Ab := (hs.getD k hd0).A) (cb := (hs.getD k hd0).c) (b := (hs.getD k hd0).xs) (w := _) (hb := (Sl.up0 (hhs_in _ (getD_mem' (by have hsb := sniffK_bd (hs.getD k hd0).xs; have hkl := kindsC_len (hdX (hs.take k)); have hkb := kindsC_bd (hdX (hs.take k)) (sniffK (hs.getD k hd0).xs).toNat; rw [List.length_map, List.length_take] at hkb; first | omega | (simp; done) | (simp; omega)))) hs2))) ?_
   rintro _ w3 ⟨rfl, hs3'⟩
   have hs3 : SH w w3 [] [.own Ag3 7 cg3 3 1 ((kindsC (hdX (hs.take k))).map I)] := hs2.call0 hs3'
   clear hs3'
   refine q trivial rfl rfl (asg (v := I (sniffK ((hs.getD k hd0).xs))) rfl) ?_
   refine nl ?_
   refine nN ?_
   refine rg ?_
   refine q trivial rfl rfl (mv (v := .slice Ag3 7 cg3) rfl) ?_
   refine q trivial rfl rfl (mv (v := I (sniffK ((hs.getD k hd0).xs))) rfl) ?_
   refine q trivial rfl rfl (mv (v := .slice Ag3 7 cg3) rfl) ?_
   refine q trivial rfl rfl (mv (v := I (sniffK ((hs.getD k hd0).xs))) rfl) ?_
   refine ixw1 ((sniffK ((hs.getD k hd0).xs)).toNat) sl24 rfl (ieq (x := sniffK ((hs.getD k hd0).xs)) (by first | (omega) | (have hsb := sniffK_bd (hs.getD k hd0).xs; have hkl := kindsC_len (hdX (hs.take k)); have hkb := kindsC_bd (hdX (hs.take k)) (sniffK (hs.getD k hd0).xs).toNat; rw [List.length_map, List.length_take] at hkb; omega))) (hs3.sl0 0 rfl) (by have hsb := sniffK_bd (hs.getD k hd0).xs; have hkl := kindsC_len (hdX (hs.take k)); have hkb := kindsC_bd (hdX (hs.take k)) (sniffK (hs.getD k hd0).xs).toNat; rw [List.length_map, List.length_take] at hkb; first | omega | (simp; done) | (simp; omega)) (getm I 0 (by have hsb := sniffK_bd (hs.getD k hd0).xs; have hkl := kindsC_len (hdX (hs.take k)); have hkb := kindsC_bd (hdX (hs.take k)) (sniffK (hs.getD k hd0).xs).toNat; rw [List.length_map, List.length_take] at hkb; first | omega | (simp; done) | (simp; omega))) trivial rfl (fun a2 ha2 => ?_)
   refine q trivial rfl rfl (lda (v := I ((kindsC (hdX (hs.take k))).getD ((sniffK ((hs.getD k hd0).xs)).toNat) 0)) (SH.refl w3 []) ha2 (fun _ h => h) rfl rfl one3) ?_
   refine q trivial rfl rfl (add (a := (kindsC (hdX (hs.take k))).getD ((sniffK ((hs.getD k hd0).xs)).toNat) 0) (b := 1) rfl rfl (by have hsb := sniffK_bd (hs.getD k hd0).xs; have hkl := kindsC_len (hdX (hs.take k)); have hkb := kindsC_bd (hdX (hs.take k)) (sniffK (hs.getD k hd0).xs).toNat; rw [List.length_map, List.length_take] at hkb; exact ⟨by omega, by omega⟩)) ?_
   obtain ⟨b2, rfl⟩ := own_form hs3 0 rfl (by have hsb := sniffK_bd (hs.getD k hd0).xs; have hkl := kindsC_len (hdX (hs.take k)); have hkb := kindsC_bd (hdX (hs.take k)) (sniffK (hs.getD k hd0).xs).toNat; rw [List.length_map, List.length_take] at hkb; first | omega | (simp; done) | (simp; omega))
   refine q trivial rfl rfl (ixo ((sniffK ((hs.getD k hd0).xs)).toNat) sl24 rfl (ieq (x := sniffK ((hs.getD k hd0).xs)) (by first | (omega) | (have hsb := sniffK_bd (hs.getD k hd0).xs; have hkl := kindsC_len (hdX (hs.take k)); have hkb := kindsC_bd (hdX (hs.take k)) (sniffK (hs.getD k hd0).xs).toNat; rw [List.length_map, List.length_take] at hkb; omega))) (by have hsb := sniffK_bd (hs.getD k hd0).xs; have hkl := kindsC_len (hdX (hs.take k)); have hkb := kindsC_bd (hdX (hs.take k)) (sniffK (hs.getD k hd0).xs).toNat; rw [List.length_map, List.length_take] at hkb; first | omega | (simp; done) | (simp; omega))) ?_
   refine stomn (g := I) (ys := kindsC (hdX (hs.take k))) (o := (sniffK ((hs.getD k hd0).xs)).toNat) (u := ((kindsC (hdX (hs.take k))).getD ((sniffK ((hs.getD k hd0).xs)).toNat) 0) + 1) hs3 0 rfl rfl rfl rfl (by first | (first | omega | (simp; done) | (simp; omega)) | (have hsb := sniffK_bd (hs.getD k hd0).xs; have hkl := kindsC_len (hdX (hs.take k)); have hkb := kindsC_bd (hdX (hs.take k)) (sniffK (hs.getD k hd0).xs).toNat; rw [List.length_map, List.length_take] at hkb; first | omega | (simp; done) | (simp; omega))) rfl one3 trivial (fun w4 (hs4 : SH w w4 [] [.own (some ⟨b2, 0, none⟩) 7 cg3 3 1 (((kindsC (hdX (hs.take k))).set ((sniffK ((hs.getD k hd0).xs)).toNat) (((kindsC (hdX (hs.take k))).getD ((sniffK ((hs.getD k hd0).xs)).toNat) 0) + 1)).map I)]) => ?_)
   refine nl ?_
   refine bN ?_
   refine nN ?_
   refine rg ?_
   refine q trivial rfl rfl (mv (v := I ((k : Nat) : Int)) rfl) ?_
   refine q trivial rfl rfl (add (a := ((k : Nat) : Int)) (b := 1) rfl rfl (by have hsb := sniffK_bd (hs.getD k hd0).xs; have hkl := kindsC_len (hdX (hs.take k)); have hkb := kindsC_bd (hdX (hs.take k)) (sniffK (hs.getD k hd0).xs).toNat; rw [List.length_map, List.length_take] at hkb; exact ⟨by omega, by omega⟩)) ?_
   refine q trivial rfl rfl (asg (v := I (((k : Nat) : Int) + 1)) rfl) ?_
   refine nl ?_
   refine nN ?_
   have e3 : (kindsC (hdX (hs.take k))).set ((sniffK ((hs.getD k hd0).xs)).toNat) (((kindsC (hdX (hs.take k))).getD ((sniffK ((hs.getD k hd0).xs)).toNat) 0) + 1) = kindsC (hdX (hs.take (k + 1))) := by exact (kinds_take (by omega)).symm
   refine ⟨((some ⟨b2, 0, none⟩), cg3, k + 1), ⟨⟨rfl, rfl, rfl, trivial⟩, (by omega), (hs4.cast (lc (own_eq (g := I) rfl rfl rfl e3) rfl))⟩, ?_⟩
   show hs.length - (k + 1) < hs.length - k
   omega
 · refine ex (tE (tE (bE ?_)))
   refine nN ?_
   refine sq ?_
   refine rg ?_
   refine q trivial rfl rfl (mv (v := .slice Ag3 7 cg3) rfl) ?_
   refine q trivial rfl rfl (asg (v := .slice Ag3 7 cg3) rfl) ?_
   refine nl ?_
   refine nN ?_
   refine rt ?_
   refine fret (v := .slice Ag3 7 cg3) (.tmp .nil) rfl ?_
   have e4 : kindsC (hdX (hs.take k)) = kindsC (hdX hs) := by (rw [List.take_of_length_le (by omega)])
   have e5 : 7 = (kindsC (hdX hs)).length := by exact (show 7 = (kindsC (hdX (hs.take k))).length by (simp only [kindsC_len])).trans (congrArg List.length e4)
   exact ⟨Ag3, cg3, (slv rfl e5 rfl), (hs2.cast (lc (own_eq (g := I) rfl e5 rfl e4) rfl))⟩

theorem eqIntSS {Ahs : Option Addr} {chs : Nat} (hs : List Hd) {Abs : Option Addr} {cbs : Nat} (bs : List Hd) (w : World) (hhs : Sl w [] 1 Ahs hs.length chs (hs.map hv)) (hhs_in : ∀ u ∈ hs, HdOk w [] u) (hbs : Sl w [] 1 Abs bs.length cbs (bs.map hv)) (hbs_in : ∀ u ∈ bs, HdOk w [] u) : Does Try.prog 11 [.slice Ahs hs.length chs, .slice Abs bs.length cbs] w (fun v w' => v = .bool (decide (hdX hs = hdX bs)) ∧ SH w w' [] []) := by
 refine fn_enter (N := 27) Try.func11 rfl (by kernel_rfl) rfl rfl rfl ?_
 have hs0 : SH w w [] [] := SH.refl w []
 have hhs_m : hs.length ≤ 9223372036854775807 := Nat.le_trans hhs.cap hhs.capMax
 have hbs_m : bs.length ≤ 9223372036854775807 := Nat.le_trans hbs.cap hbs.capMax
 refine sq ?_
 refine rg ?_
 refine q trivial rfl rfl (asg (v := .bool false) rfl) ?_
 refine nl ?_
 refine nN ?_
 refine sq ?_
 refine sq ?_
 refine rg ?_
 refine q trivial rfl rfl (mv (v := .slice Ahs hs.length chs) rfl) ?_
 refine q trivial rfl rfl (lnA (n := hs.length) sl22 rfl) ?_
 refine q trivial rfl rfl (mv (v := .slice Abs bs.length cbs) rfl) ?_
 refine q trivial rfl rfl (lnA (n := bs.length) sl22 rfl) ?_
 refine q trivial rfl rfl (nei (k := .i64) (a := ((hs.length : Nat) : Int)) (b := ((bs.length : Nat) : Int)) rfl rfl) ?_
 refine nl ?_
 refine nN ?_
 refine cdd (p := ((hs.length : Nat) : Int) ≠ ((bs.length : Nat) : Int)) rfl (fun h1 => ?_) (fun h1 => ?_)
 · refine sq ?_
   refine rg ?_
   refine q trivial rfl rfl (asg (v := .bool false) rfl) ?_
   refine nl ?_
   refine nN ?_
   refine rt (tR ?_)
   refine fret (v := .bool false) (.tmp .nil) rfl ?_
   have e1 : false = (decide (hdX hs = hdX bs)) := by first | exact (hdX_ne1 (by assumption)).symm | exact (hdX_ne2 (k := k) (by assumption)).symm | exact (hdX_eq hl (by omega) ha).symm
   exact ⟨(congrArg (Value.bool) e1), hs0⟩
 · refine sk ?_
   refine nN ?_
   refine sq ?_
   refine sq ?_
   refine rg ?_
   refine q trivial rfl rfl (asg (v := I 0) rfl) ?_
   refine nl ?_
   refine nN ?_
   refine bl ?_
   refine lp (σ := Nat) (fun (k : Nat) f w' => Has f [(0, .slice Ahs hs.length chs), (1, .slice Abs bs.length cbs), (5, I ((k : Nat) : Int))] ∧ (hs.length = bs.length) ∧ (k ≤ hs.length) ∧ ((hdX hs).take k = (hdX bs).take k) ∧ SH w w' [] []) (fun k => hs.length - k) 0 ⟨⟨rfl, rfl, rfl, trivial⟩, (by omega), (by simp), (by simp), hs0⟩ ?_
   rintro k f w1 ⟨hf, hl, hk, ha, hs1⟩
   obtain ⟨g1, rfl⟩ := has_upd hf
   clear hf
   refine sq ?_
   refine sq ?_
   refine rg ?_
   refine q trivial rfl rfl (mv (v := I ((k : Nat) : Int)) rfl) ?_
   refine q trivial rfl rfl (mv (v := .slice Ahs hs.length chs) rfl) ?_
   refine q trivial rfl rfl (lnA (n := hs.length) sl22 rfl) ?_
   refine q trivial rfl rfl (lss (k := .i64) (a := ((k : Nat) : Int)) (b := ((hs.length : Nat) : Int)) rfl rfl) ?_
   refine nl ?_
   refine nN ?_
   refine cdd (p := ((k : Nat) : Int) < ((hs.length : Nat) : Int)) rfl (fun h2 => ?_) (fun h2 => ?_)
   · refine sk ?_
     refine nN ?_
     refine sq ?_
     refine bl ?_
     refine sq ?_
     refine rq (fun w' => SH w w' [] []) mixed (by kernel_rfl) hs1.drew ?_
     refine qq trivial rfl rfl (fun wq hsq => mv (v := .slice Ahs hs.length chs) rfl) ?_
     refine qq trivial rfl rfl (fun wq hsq => mv (v := I ((k : Nat) : Int)) rfl) ?_
     refine ixq1 k sl22 rfl rfl hhs (by first | omega | (simp; done) | (simp; omega)) (getm hv hd0 (by first | omega | (simp; done) | (simp; omega))) trivial rfl (fun a1 ha1 => ?_)
     refine qq trivial rfl rfl (fun wq hsq => lda (v := .slice ((hs.getD k hd0).A) (((hs.getD k hd0).xs).length) ((hs.getD k hd0).c)) hsq ha1 (fun _ h => h) rfl rfl one24) ?_
     refine qq trivial rfl rfl (fun wq hsq => mv (v := .slice Abs bs.length cbs) rfl) ?_
     refine qq trivial rfl rfl (fun wq hsq => mv (v := I ((k : Nat) : Int)) rfl) ?_
     refine ixq1 k sl22 rfl rfl hbs (by first | omega | (simp; done) | (simp; omega)) (getm hv hd0 (by first | omega | (simp; done) | (simp; omega))) trivial rfl (fun a2 ha2 => ?_)
     refine qq trivial rfl rfl (fun wq hsq => lda (v := .slice ((bs.getD k hd0).A) (((bs.getD k hd0).xs).length) ((bs.getD k hd0).c)) hsq ha2 (fun _ h => h) rfl rfl one24) ?_
     refine qc (.bool (decide (((hs.getD k hd0).xs) = ((bs.getD k hd0).xs)))) trivial rfl (fun wq hsq => (eqIntS (Axs := (hs.getD k hd0).A) (cxs := (hs.getD k hd0).c) (xs := (hs.getD k hd0).xs) (Abs := (bs.getD k hd0).A) (cbs := (bs.getD k hd0).c) (bs := (bs.getD k hd0).xs) (w := _) (hxs := (Sl.up0 (hhs_in _ (getD_mem' (by first | omega | (simp; done) | (simp; omega)))) hsq)) (hbs := (Sl.up0 (hbs_in _ (getD_mem' (by first | omega | (simp; done) | (simp; omega)))) hsq))).mono (fun v w' h => ⟨h.1, by simpa using hsq.call0 h.2⟩)) ?_
     refine qq trivial rfl rfl (fun wq hsq => nd (p := ((hs.getD k hd0).xs) = ((bs.getD k hd0).xs)) rfl) ?_
     refine qn (fun w2 hs2 => ?_)
     refine nN ?_
     refine cdd (p := ¬ (((hs.getD k hd0).xs) = ((bs.getD k hd0).xs))) rfl (fun h3 => ?_) (fun h3 => ?_)
     · refine sq ?_
       refine rg ?_
       refine q trivial rfl rfl (asg (v := .bool false) rfl) ?_
       refine nl ?_
       refine nN ?_
       refine rt (bR (tR (tR (bR (tR ?_)))))
       refine fret (v := .bool false) (.tmp .nil) rfl ?_
       have e2 : false = (decide (hdX hs = hdX bs)) := by first | exact (hdX_ne1 (by assumption)).symm | exact (hdX_ne2 (k := k) (by assumption)).symm | exact (hdX_eq hl (by omega) ha).symm
       exact ⟨(congrArg (Value.bool) e2), hs2⟩
     · refine sk ?_
       refine bN ?_
       refine nN ?_
       refine rg ?_
       refine q trivial rfl rfl (mv (v := I ((k : Nat) : Int)) rfl) ?_
       refine q trivial rfl rfl (add (a := ((k : Nat) : Int)) (b := 1) rfl rfl (by exact ⟨by omega, by omega⟩)) ?_
       refine q trivial rfl rfl (asg (v := I (((k : Nat) : Int) + 1)) rfl) ?_
       refine nl ?_
       refine nN ?_
       refine ⟨(k + 1), ⟨⟨rfl, rfl, rfl, trivial⟩, (hl), (by omega), (hdX_step (by omega) (by omega) ha (by first | assumption | exact Decidable.not_not.1 (by assumption))), hs2⟩, ?_⟩
       omega
   · refine ex (tE (tE (bE ?_)))
     refine nN ?_
     refine sq ?_
     refine rg ?_
     refine q trivial rfl rfl (asg (v := .bool true) rfl) ?_
     refine nl ?_
     refine nN ?_
     refine rt ?_
     refine fret (v := .bool true) (.tmp .nil) rfl ?_
     have e3 : true = (decide (hdX hs = hdX bs)) := by first | exact (hdX_ne1 (by assumption)).symm | exact (hdX_ne2 (k := k) (by assumption)).symm | exact (hdX_eq hl (by omega) ha).symm
     exact ⟨(congrArg (Value.bool) e3), hs1⟩

theorem szIntSS {Ahs : Option Addr} {chs : Nat} (hs : List Hd) (z : Int) (w : World) (hhs : Sl w [] 1 Ahs hs.length chs (hs.map hv)) (hhs_in : ∀ u ∈ hs, HdOk w [] u) (hz : 0 ≤ z ∧ z ≤ 1099511627776) : Does Try.prog 6 [.slice Ahs hs.length chs, I z] w (fun v w' => ∃ r : Int, v = .int .i64 r ∧ (r < 0 ∨ (((hs.length : Nat) : Int) ≤ z ∧ hdsLe hs z ∧ ((hdsN hs : Nat) : Int) ≤ z)) ∧ (-1 ≤ r ∧ r ≤ z) ∧ SH w w' [] []) := by
 refine fn_enter (N := 27) Try.func6 rfl (by kernel_rfl) rfl rfl rfl ?_
 have hs0 : SH w w [] [] := SH.refl w []
 have hhs_m : hs.length ≤ 9223372036854775807 := Nat.le_trans hhs.cap hhs.capMax
 refine sq ?_
 refine rg ?_
 refine q trivial rfl rfl (asg (v := I 0) rfl) ?_
 refine nl ?_
 refine nN ?_
 refine sq ?_
 refine rg ?_
 refine q trivial rfl rfl (mv (v := I z) rfl) ?_
 refine q trivial rfl rfl (mv (v := .slice Ahs hs.length chs) rfl) ?_
 refine q trivial rfl rfl (lnA (n := hs.length) sl22 rfl) ?_
 refine q trivial rfl rfl (sub (a := z) (b := ((hs.length : Nat) : Int)) rfl rfl (by exact ⟨by omega, by omega⟩)) ?_
 refine q trivial rfl rfl (asg (v := I (z - ((hs.length : Nat) : Int))) rfl) ?_
 refine nl ?_
 refine nN ?_
 refine sq ?_
 refine sq ?_
 refine rg ?_
 refine q trivial rfl rfl (mv (v := I (z - ((hs.length : Nat) : Int))) rfl) ?_
 refine q trivial rfl rfl (lss (k := .i64) (a := z - ((hs.length : Nat) : Int)) (b := 0) rfl rfl) ?_
 refine nl ?_
 refine nN ?_
 refine cdd (p := (z - ((hs.length : Nat) : Int)) < 0) rfl (fun h1 => ?_) (fun h1 => ?_)
 · refine sq ?_
   refine rg ?_
   refine q trivial rfl rfl (asg (v := I (-1)) rfl) ?_
   refine nl ?_
   refine nN ?_
   refine rt (tR ?_)
   refine fret (v := I (-1)) (.tmp .nil) rfl ?_
   exact ⟨(-1), rfl, (by first | omega | (have hle2 := hle; have hsu2 := hsu; rw [List.take_of_length_le (by omega)] at hle2 hsu2; exact .inr ⟨by omega, hle2, by omega⟩)), (by omega), hs0⟩
 · refine sk ?_
   refine nN ?_
   refine sq ?_
   refine sq ?_
   refine rg ?_
   refine q trivial rfl rfl (asg (v := I 0) rfl) ?_
   refine nl ?_
   refine nN ?_
   refine bl ?_
   refine lp (σ := Nat × Int) (fun ⟨k, u⟩ f w' => Has f [(0, .slice Ahs hs.length chs), (1, I u), (5, I ((k : Nat) : Int))] ∧ (k ≤ hs.length) ∧ (0 ≤ u ∧ u ≤ 1099511627776 ∧ u ≤ z ∧ ((hs.length : Nat) : Int) ≤ z) ∧ (hdsLe (hs.take k) z) ∧ (((hdsN (hs.take k) : Nat) : Int) + u ≤ z) ∧ SH w w' [] []) (fun ⟨k, u⟩ => hs.length - k) (0, z - ((hs.length : Nat) : Int)) ⟨⟨rfl, rfl, rfl, trivial⟩, (by simp), (by omega), (hdsLe0 _ _), (by rw [hdsN0]; omega), hs0⟩ ?_
   rintro ⟨k, u⟩ f w1 ⟨hf, hk, hu, hle, hsu, hs1⟩
   obtain ⟨g1, rfl⟩ := has_upd hf
   clear hf
   refine sq ?_
   refine sq ?_
   refine rg ?_
   refine q trivial rfl rfl (mv (v := I ((k : Nat) : Int)) rfl) ?_
   refine q trivial rfl rfl (mv (v := .slice Ahs hs.length chs) rfl) ?_
   refine q trivial rfl rfl (lnA (n := hs.length) sl22 rfl) ?_
   refine q trivial rfl rfl (lss (k := .i64) (a := ((k : Nat) : Int)) (b := ((hs.length : Nat) : Int)) rfl rfl) ?_
   refine nl ?_
   refine nN ?_
   refine cdd (p := ((k : Nat) : Int) < ((hs.length : Nat) : Int)) rfl (fun h2 => ?_) (fun h2 => ?_)
   · refine sk ?_
     refine nN ?_
     refine sq ?_
     refine bl ?_
     refine sq ?_
     refine rg ?_
     refine q trivial rfl rfl (mv (v := .slice Ahs hs.length chs) rfl) ?_
     refine q trivial rfl rfl (mv (v := I ((k : Nat) : Int)) rfl) ?_
     refine ixw1 k sl22 rfl rfl hhs (by first | omega | (simp; done) | (simp; omega)) (getm hv hd0 (by first | omega | (simp; done) | (simp; omega))) trivial rfl (fun a1 ha1 => ?_)
     refine q trivial rfl rfl (lda (v := .slice ((hs.getD k hd0).A) (((hs.getD k hd0).xs).length) ((hs.getD k hd0).c)) hs1 ha1 (fun _ h => h) rfl rfl one24) ?_
     refine q trivial rfl rfl (mv (v := I u) rfl) ?_
     refine cl trivial rfl (szIntS (Axs := (hs.getD k hd0).A) (cxs := (hs.getD k hd0).c) (xs := (hs.getD k hd0).xs) (z := u) (w := _) (hxs := (Sl.up0 (hhs_in _ (getD_mem' (by first | omega | (simp; done) | (simp; omega)))) hs1)) (hz := (by first | omega | assumption | (simp; done) | (simp; omega)))) ?_
     rintro _ w2 ⟨rfl, hs2'⟩
     have hs2 : SH w w2 [] [] := hs1.call0 hs2'
     clear hs2'
     refine q trivial rfl rfl (asg (v := I (szI ((hs.getD k hd0).xs).length u)) rfl) ?_
     refine nl ?_
     refine nN ?_
     refine sq ?_
     refine rg ?_
     refine q trivial rfl rfl (mv (v := I (szI ((hs.getD k hd0).xs).length u)) rfl) ?_
     refine q trivial rfl rfl (lss (k := .i64) (a := szI ((hs.getD k hd0).xs).length u) (b := 0) rfl rfl) ?_
     refine nl ?_
     refine nN ?_
     refine cdd (p := (szI ((hs.getD k hd0).xs).length u) < 0) rfl (fun h3 => ?_) (fun h3 => ?_)
     · refine sq ?_
       refine rg ?_
       refine q trivial rfl rfl (asg (v := I (-1)) rfl) ?_
       refine nl ?_
       refine nN ?_
       refine rt (bR (tR (tR (bR (tR ?_)))))
       refine fret (v := I (-1)) (.tmp .nil) rfl ?_
       exact ⟨(-1), rfl, (by first | omega | (have hle2 := hle; have hsu2 := hsu; rw [List.take_of_length_le (by omega)] at hle2 hsu2; exact .inr ⟨by omega, hle2, by omega⟩)), (by omega), hs2⟩
     · refine sk ?_
       refine bN ?_
       refine nN ?_
       refine rg ?_
       refine q trivial rfl rfl (mv (v := I ((k : Nat) : Int)) rfl) ?_
       refine q trivial rfl rfl (add (a := ((k : Nat) : Int)) (b := 1) rfl rfl (by exact ⟨by omega, by omega⟩)) ?_
       refine q trivial rfl rfl (asg (v := I (((k : Nat) : Int) + 1)) rfl) ?_
       refine nl ?_
       refine nN ?_
       refine ⟨(k + 1, (szI ((hs.getD k hd0).xs).length u)), ⟨⟨rfl, rfl, rfl, trivial⟩, (by omega), (by have hsz1 := szI_bd (n := (hs.getD k hd0).xs.length) (z := u) (by omega); have hsz2 := szI_nn (n := (hs.getD k hd0).xs.length) (z := u) (by assumption); omega), (hdsLe_step (by omega) hle (by have hsz1 := szI_bd (n := (hs.getD k hd0).xs.length) (z := u) (by omega); have hsz2 := szI_nn (n := (hs.getD k hd0).xs.length) (z := u) (by assumption); omega)), (by have hsz1 := szI_bd (n := (hs.getD k hd0).xs.length) (z := u) (by omega); have hsz2 := szI_nn (n := (hs.getD k hd0).xs.length) (z := u) (by assumption); rw [hdsN_step (by omega)]; omega), hs2⟩, ?_⟩
       show hs.length - (k + 1) < hs.length - k
       omega
   · refine ex (tE (tE (bE ?_)))
     refine nN ?_
     refine sq ?_
     refine rg ?_
     refine q trivial rfl rfl (mv (v := I u) rfl) ?_
     refine q trivial rfl rfl (asg (v := I u) rfl) ?_
     refine nl ?_
     refine nN ?_
     refine rt ?_
     refine fret (v := I u) (.tmp .nil) rfl ?_
     exact ⟨u, rfl, (by first | omega | (have hle2 := hle; have hsu2 := hsu; rw [List.take_of_length_le (by omega)] at hle2 hsu2; exact .inr ⟨by omega, hle2, by omega⟩)), (by omega), hs1⟩

theorem toIntSS {Ahs : Option Addr} {chs : Nat} (hs : List Hd) (w : World) (hhs : Sl w [] 1 Ahs hs.length chs (hs.map hv)) (hhs_in : ∀ u ∈ hs, HdOk w [] u) (hhs_n : hs.length ≤ 1099511627776) (hle : hdsLe hs 1099511627776) : Does Try.prog 8 [.slice Ahs hs.length chs] w (fun v w' => ∃ Ar : Option Addr, ∃ cr : Nat, ∃ us : List Hd, v = .slice Ar us.length cr ∧ (hdX us = hdX hs) ∧ SH w w' [] [.own Ar us.length cr 24 1 (us.map hv), .rows 3 us]) := by
 refine fn_enter (N := 23) Try.func8 rfl (by kernel_rfl) rfl rfl rfl ?_
 have hs0 : SH w w [] [] := SH.refl w []
 have hhs_m : hs.length ≤ 9223372036854775807 := Nat.le_trans hhs.cap hhs.capMax
 refine sq ?_
 refine rg ?_
 refine q trivial rfl rfl (asg (v := ns) rfl) ?_
 refine nl ?_
 refine nN ?_
 refine sq ?_
 refine rg ?_
 refine q trivial rfl rfl (mv (v := .slice Ahs hs.length chs) rfl) ?_
 refine q trivial rfl rfl (lnA (n := hs.length) sl22 rfl) ?_
 refine mkm (g := hv) (z := hd0) (n := hs.length) hs0 sl22 rfl rfl rfl (by omega) (by unfold maxLen; omega) trivial rfl (fun b1 w1 (hs1 : SH w w1 [] [.own (some ⟨b1, 0, none⟩) ((List.replicate hs.length (hd0 : Hd)).length) hs.length 24 1 ((List.replicate hs.length (hd0 : Hd)).map hv)]) => ?_)
 refine q trivial rfl rfl (asg (v := sb b1 ((List.replicate hs.length (hd0 : Hd)).length) hs.length) rfl) ?_
 refine nl ?_
 refine nN ?_
 refine sq ?_
 refine sq ?_
 refine rg ?_
 refine q trivial rfl rfl (asg (v := I 0) rfl) ?_
 refine nl ?_
 refine nN ?_
 refine bl ?_
 have hs2 : SH w w1 [] [.own (some ⟨b1, 0, none⟩) ((List.replicate hs.length (hd0 : Hd)).length) hs.length 24 1 ((List.replicate hs.length (hd0 : Hd)).map hv), .rows 3 ([] : List Hd)] := hs1.rows0 3
 have e1 : List.replicate hs.length (hd0 : Hd) = ([] : List Hd) ++ List.replicate (hs.length - 0) hd0 := by simp
 have e2 : (List.replicate hs.length (hd0 : Hd)).length = hs.length := by first | rfl | (simp; done) | (simp; omega) | omega
 refine lp (σ := (Option Addr) × Nat × Nat × (List Hd)) (fun ⟨Ag3, cg3, k, us⟩ f w' => Has f [(0, .slice Ahs hs.length chs), (3, .slice Ag3 hs.length cg3), (4, I ((k : Nat) : Int))] ∧ (k ≤ hs.length) ∧ (hdX us = hdX (hs.take k)) ∧ SH w w' [] [.own Ag3 hs.length cg3 24 1 ((us ++ List.replicate (hs.length - k) hd0).map hv), .rows 3 us]) (fun ⟨Ag3, cg3, k, us⟩ => hs.length - k) ((some ⟨b1, 0, none⟩), hs.length, 0, ([] : List Hd)) ⟨⟨rfl, (show (.slice (some ⟨b1, 0, none⟩) ((List.replicate hs.length (hd0 : Hd)).length) hs.length : Value) = .slice (some ⟨b1, 0, none⟩) hs.length hs.length from slv rfl e2 rfl), rfl, trivial⟩, (by simp), (by simp), (hs2.cast (lc (own_eq (g := hv) rfl e2 rfl e1) (lc rfl rfl)))⟩ ?_
 rintro ⟨Ag3, cg3, k, us⟩ f w2 ⟨hf, hk, hx, hs3⟩
 obtain ⟨g1, rfl⟩ := has_upd hf
 clear hf
 refine sq ?_
 refine sq ?_
 refine rg ?_
 refine q trivial rfl rfl (mv (v := I ((k : Nat) : Int)) rfl) ?_
 refine q trivial rfl rfl (mv (v := .slice Ahs hs.length chs) rfl) ?_
 refine q trivial rfl rfl (lnA (n := hs.length) sl22 rfl) ?_
 refine q trivial rfl rfl (lss (k := .i64) (a := ((k : Nat) : Int)) (b := ((hs.length : Nat) : Int)) rfl rfl) ?_
 refine nl ?_
 refine nN ?_
 refine cdd (p := ((k : Nat) : Int) < ((hs.length : Nat) : Int)) rfl (fun h1 => ?_) (fun h1 => ?_)
 · refine sk ?_
   refine nN ?_
   refine sq ?_
   refine bl ?_
   refine rg ?_
   refine q trivial rfl rfl (mv (v := .slice Ag3 hs.length cg3) rfl) ?_
   refine q trivial rfl rfl (mv (v := I ((k : Nat) : Int)) rfl) ?_
   refine q trivial rfl rfl (mv (v := .slice Ahs hs.length chs) rfl) ?_
   refine q trivial rfl rfl (mv (v := I ((k : Nat) : Int)) rfl) ?_
   refine ixw1 k sl22 rfl rfl hhs (by first | omega | (simp; done) | (simp; omega)) (getm hv hd0 (by first | omega | (simp; done) | (simp; omega))) trivial rfl (fun a1 ha1 => ?_)
   refine q trivial rfl rfl (lda (v := .slice ((hs.getD k hd0).A) (((hs.getD k hd0).xs).length) ((hs.getD k hd0).c)) hs3 ha1 (fun _ h => h) rfl rfl one24) ?_
   refine cl trivial rfl (toIntS (Axs := (hs.getD k hd0).A) (cxs := (hs.getD k hd0).c) (xs := (hs.getD k hd0).xs) (w := _) (hxs := (Sl.up0 (hhs_in _ (getD_mem' (by first | omega | (simp; done) | (simp; omega)))) hs3)) (hxs_n := (by (have hg := hdsLe_get (k := k) hle (by omega); omega)))) ?_
   rintro _ w3 ⟨A1, c1, rfl, hs4'⟩
   have hs4 : SH w w3 [] [.own Ag3 hs.length cg3 24 1 ((us ++ List.replicate (hs.length - k) hd0).map hv), .rows 3 us, .own A1 (((hs.getD k hd0).xs).length) c1 3 1 (((hs.getD k hd0).xs).map I)] := hs3.call0 hs4'
   clear hs4'
   obtain ⟨b2, rfl⟩ := own_form hs4 0 rfl (by first | omega | (simp; done) | (simp; omega))
   refine q trivial rfl rfl (ixo k sl22 rfl rfl (by first | omega | (simp; done) | (simp; omega))) ?_
   refine stomn (g := hv) (ys := us ++ List.replicate (hs.length - k) hd0) (o := k) (u := (⟨A1, c1, ((hs.getD k hd0).xs)⟩ : Hd)) hs4 0 rfl rfl rfl rfl (by first | omega | (simp; done) | (simp; omega)) rfl one24 trivial (fun w4 (hs5 : SH w w4 [] [.rows 3 us, .own A1 (((hs.getD k hd0).xs).length) c1 3 1 (((hs.getD k hd0).xs).map I), .own (some ⟨b2, 0, none⟩) hs.length cg3 24 1 (((us ++ List.replicate (hs.length - k) hd0).set k (⟨A1, c1, ((hs.getD k hd0).xs)⟩ : Hd)).map hv)]) => ?_)
   have hs6 : SH w w4 [] [.own (some ⟨b2, 0, none⟩) hs.length cg3 24 1 (((us ++ List.replicate (hs.length - k) hd0).set k (⟨A1, c1, ((hs.getD k hd0).xs)⟩ : Hd)).map hv), .rows 3 (us ++ [(⟨A1, c1, ((hs.getD k hd0).xs)⟩ : Hd)])] := SH.rows_push (e := 3) (us := us) (L := [.own (some ⟨b2, 0, none⟩) hs.length cg3 24 1 (((us ++ List.replicate (hs.length - k) hd0).set k (⟨A1, c1, ((hs.getD k hd0).xs)⟩ : Hd)).map hv)]) A1 c1 ((hs.getD k hd0).xs) (hs5.pick [0, 1, 2] rfl (by decide))
   refine nl ?_
   refine bN ?_
   refine nN ?_
   refine rg ?_
   refine q trivial rfl rfl (mv (v := I ((k : Nat) : Int)) rfl) ?_
   refine q trivial rfl rfl (add (a := ((k : Nat) : Int)) (b := 1) rfl rfl (by exact ⟨by omega, by omega⟩)) ?_
   refine q trivial rfl rfl (asg (v := I (((k : Nat) : Int) + 1)) rfl) ?_
   refine nl ?_
   refine nN ?_
   have e3 : (us ++ List.replicate (hs.length - k) hd0).set k (⟨A1, c1, ((hs.getD k hd0).xs)⟩ : Hd) = (us ++ [(⟨A1, c1, ((hs.getD k hd0).xs)⟩ : Hd)]) ++ List.replicate (hs.length - (k + 1)) hd0 := by exact hd_set (hdX_k hk hx) (by omega)
   refine ⟨((some ⟨b2, 0, none⟩), cg3, k + 1, (us ++ [(⟨A1, c1, ((hs.getD k hd0).xs)⟩ : Hd)])), ⟨⟨rfl, rfl, rfl, trivial⟩, (by omega), (hdX_push (by omega) hx), (hs6.cast (lc (own_eq (g := hv) rfl rfl rfl e3) (lc rfl rfl)))⟩, ?_⟩
   show hs.length - (k + 1) < hs.length - k
   omega
 · refine ex (tE (tE (bE ?_)))
   refine nN ?_
   refine sq ?_
   refine rg ?_
   refine q trivial rfl rfl (mv (v := .slice Ag3 hs.length cg3) rfl) ?_
   refine q trivial rfl rfl (asg (v := .slice Ag3 hs.length cg3) rfl) ?_
   refine nl ?_
   refine nN ?_
   refine rt ?_
   refine fret (v := .slice Ag3 hs.length cg3) (.tmp .nil) rfl ?_
   have e4 : us ++ List.replicate (hs.length - k) hd0 = us := by have e0 : hs.length - k = 0 := (by omega); rw [e0]; simp
   have e5 : hs.length = us.length := by have := hdX_k hk hx; omega
   exact ⟨Ag3, cg3, us, (slv rfl e5 rfl), (by rw [hx, List.take_of_length_le (by omega)]), (hs3.cast (lc (own_eq (g := hv) rfl e5 rfl e4) (lc rfl rfl)))⟩

theorem markIntSS {Ahs : Option Addr} {chs : Nat} (hs : List Hd) (k0 : Int) (w : World) (hhs : Sl w ((It.rows 3 hs).blocks ++ []) 1 Ahs hs.length chs (hs.map hv)) (hhs_r : (It.rows 3 hs).ok w) (hk0 : 0 ≤ k0 ∧ k0 + ((hdsN hs : Nat) : Int) ≤ 4294967296) : Does Try.prog 12 [.slice Ahs hs.length chs, I k0] w (fun v w' => ∃ us : List Hd, v = .int .i64 (k0 + ((hdsN hs : Nat) : Int)) ∧ SH w w' ((It.rows 3 hs).blocks ++ []) [.rows 3 us]) := by
 refine fn_enter (N := 19) Try.func12 rfl (by kernel_rfl) rfl rfl rfl ?_
 have hs0 : SH w w ((It.rows 3 hs).blocks ++ []) [.rows 3 hs] := SH.entryK [.rows 3 hs] (fa_cons hhs_r fa_nil) (.cons fa_nil .nil)
 have hhs_m : hs.length ≤ 9223372036854775807 := Nat.le_trans hhs.cap hhs.capMax
 refine sq ?_
 refine rg ?_
 refine q trivial rfl rfl (asg (v := I 0) rfl) ?_
 refine nl ?_
 refine nN ?_
 refine sq ?_
 refine sq ?_
 refine rg ?_
 refine q trivial rfl rfl (asg (v := I 0) rfl) ?_
 refine nl ?_
 refine nN ?_
 refine bl ?_
 refine lp (σ := Nat × (List Hd)) (fun ⟨k, us⟩ f w' => Has f [(0, .slice Ahs hs.length chs), (1, I (k0 + ((hdsN (hs.take k) : Nat) : Int))), (5, I ((k : Nat) : Int))] ∧ (k ≤ hs.length) ∧ (us.length = hs.length) ∧ (∀ j, k ≤ j → us.getD j hd0 = hs.getD j hd0) ∧ SH w w' ((It.rows 3 hs).blocks ++ []) [.rows 3 us]) (fun ⟨k, us⟩ => hs.length - k) (0, hs) ⟨⟨rfl, (show (I k0 : Value) = I (k0 + ((hdsN (hs.take 0) : Nat) : Int)) from congrArg (Value.int .i64) (by rw [hdsN0]; simp)), rfl, trivial⟩, (by simp), (rfl), (fun _ _ => rfl), hs0⟩ ?_
 rintro ⟨k, us⟩ f w1 ⟨hf, hk, hul, hrs, hs1⟩
 obtain ⟨g1, rfl⟩ := has_upd hf
 clear hf
 refine sq ?_
 refine sq ?_
 refine rg ?_
 refine q trivial rfl rfl (mv (v := I ((k : Nat) : Int)) rfl) ?_
 refine q trivial rfl rfl (mv (v := .slice Ahs hs.length chs) rfl) ?_
 refine q trivial rfl rfl (lnA (n := hs.length) sl22 rfl) ?_
 refine q trivial rfl rfl (lss (k := .i64) (a := ((k : Nat) : Int)) (b := ((hs.length : Nat) : Int)) rfl rfl) ?_
 refine nl ?_
 refine nN ?_
 refine cdd (p := ((k : Nat) : Int) < ((hs.length : Nat) : Int)) rfl (fun h1 => ?_) (fun h1 => ?_)
 · refine sk ?_
   refine nN ?_
   refine sq ?_
   refine bl ?_
   refine rg ?_
   refine q trivial rfl rfl (mv (v := .slice Ahs hs.length chs) rfl) ?_
   refine q trivial rfl rfl (mv (v := I ((k : Nat) : Int)) rfl) ?_
   refine ixw1 k sl22 rfl rfl hhs (by first | omega | (simp; done) | (simp; omega)) (getm hv hd0 (by first | omega | (simp; done) | (simp; omega))) trivial rfl (fun a1 ha1 => ?_)
   refine q trivial rfl rfl (lda (v := .slice ((hs.getD k hd0).A) (((hs.getD k hd0).xs).length) ((hs.getD k hd0).c)) hs1 ha1 (fun _ h => h) rfl rfl one24) ?_
   refine q trivial rfl rfl (mv (v := I (k0 + ((hdsN (hs.take k) : Nat) : Int))) rfl) ?_
   have hs2 : SH w w1 ((It.rows 3 hs).blocks ++ []) [.rows 3 (us.eraseIdx k), .own ((hs.getD k hd0).A) (((hs.getD k hd0).xs).length) ((hs.getD k hd0).c) 3 1 (((hs.getD k hd0).xs).map I)] := SH.rows_take (e := 3) (us := us) (L := []) k (hs.getD k hd0) (by first | omega | (simp; done) | (simp; omega)) (by exact hrs k (Nat.le_refl _)) (hs1.pick [0] rfl (by decide))
   refine cl trivial rfl (markIntS (Axs := (hs.getD k hd0).A) (cxs := (hs.getD k hd0).c) (xs := (hs.getD k hd0).xs) (k0 := k0 + ((hdsN (hs.take k) : Nat) : Int)) (w := _) (hxs := (own_ok hs2 1 rfl)) (hxs_n := (by (have hn1 := hdsN_take hs k; have hn2 := hdsN_take hs (k + 1); rw [hdsN_step (by omega)] at hn2; omega))) (hk0 := (by (have hn1 := hdsN_take hs k; have hn2 := hdsN_take hs (k + 1); rw [hdsN_step (by omega)] at hn2; omega)))) ?_
   rintro _ w2 ⟨rfl, hs3'⟩
   have hs3 : SH w w2 ((It.rows 3 hs).blocks ++ []) [.rows 3 (us.eraseIdx k), .own ((hs.getD k hd0).A) (((hs.getD k hd0).xs).length) ((hs.getD k hd0).c) 3 1 ((marks (k0 + ((hdsN (hs.take k) : Nat) : Int)) ((hs.getD k hd0).xs).length).map I)] := SH.callK (K := [.own ((hs.getD k hd0).A) (((hs.getD k hd0).xs).length) ((hs.getD k hd0).c) 3 1 (((hs.getD k hd0).xs).map I)]) (R := [.rows 3 (us.eraseIdx k)]) (hs2.pick [1, 0] rfl (by decide)) hs3' rfl
   clear hs3'
   have e1 : ((hs.getD k hd0).xs).length = (marks (k0 + ((hdsN (hs.take k) : Nat) : Int)) ((hs.getD k hd0).xs).length).length := by first | rfl | (simp; done) | (simp; omega)
   have hs4 : SH w w2 ((It.rows 3 hs).blocks ++ []) [.rows 3 (us.eraseIdx k), .own ((hs.getD k hd0).A) ((marks (k0 + ((hdsN (hs.take k) : Nat) : Int)) ((hs.getD k hd0).xs).length).length) ((hs.getD k hd0).c) 3 1 ((marks (k0 + ((hdsN (hs.take k) : Nat) : Int)) ((hs.getD k hd0).xs).length).map I)] := (hs3.cast (lc rfl (lc (own_eq (g := I) rfl e1 rfl rfl) rfl)))
   clear hs3
   have hs5 : SH w w2 ((It.rows 3 hs).blocks ++ []) [.rows 3 (us.set k (⟨((hs.getD k hd0).A), ((hs.getD k hd0).c), marks (k0 + ((hdsN (hs.take k) : Nat) : Int)) ((hs.getD k hd0).xs).length⟩ : Hd))] := SH.rows_put (e := 3) (us := us) (L := []) k ((hs.getD k hd0).A) ((hs.getD k hd0).c) (marks (k0 + ((hdsN (hs.take k) : Nat) : Int)) ((hs.getD k hd0).xs).length) (by first | omega | (simp; done) | (simp; omega)) (hs4.pick [0, 1] rfl (by decide))
   refine q trivial rfl rfl (asg (v := I ((k0 + ((hdsN (hs.take k) : Nat) : Int)) + ((((hs.getD k hd0).xs).length : Nat) : Int))) rfl) ?_
   refine nl ?_
   refine bN ?_
   refine nN ?_
   refine rg ?_
   refine q trivial rfl rfl (mv (v := I ((k : Nat) : Int)) rfl) ?_
   refine q trivial rfl rfl (add (a := ((k : Nat) : Int)) (b := 1) rfl rfl (by exact ⟨by omega, by omega⟩)) ?_
   refine q trivial rfl rfl (asg (v := I (((k : Nat) : Int) + 1)) rfl) ?_
   refine nl ?_
   refine nN ?_
   refine ⟨(k + 1, us.set k (⟨(hs.getD k hd0).A, (hs.getD k hd0).c, marks (k0 + ((hdsN (hs.take k) : Nat) : Int)) (hs.getD k hd0).xs.length⟩ : Hd)), ⟨⟨rfl, (show (I ((k0 + ((hdsN (hs.take k) : Nat) : Int)) + ((((hs.getD k hd0).xs).length : Nat) : Int)) : Value) = I (k0 + ((hdsN (hs.take (k + 1)) : Nat) : Int)) from congrArg (Value.int .i64) (by rw [hdsN_step (by omega)]; omega)), rfl, trivial⟩, (by omega), (by simpa using hul), (fun j hj => (set_other (by omega)).trans (hrs j (by omega))), hs5⟩, ?_⟩
   show hs.length - (k + 1) < hs.length - k
   omega
 · refine ex (tE (tE (bE ?_)))
   refine nN ?_
   refine sq ?_
   refine rg ?_
   refine q trivial rfl rfl (mv (v := I (k0 + ((hdsN (hs.take k) : Nat) : Int))) rfl) ?_
   refine q trivial rfl rfl (asg (v := I (k0 + ((hdsN (hs.take k) : Nat) : Int))) rfl) ?_
   refine nl ?_
   refine nN ?_
   refine rt ?_
   refine fret (v := I (k0 + ((hdsN (hs.take k) : Nat) : Int))) (.tmp .nil) rfl ?_
   have e2 : k0 + ((hdsN (hs.take k) : Nat) : Int) = k0 + ((hdsN hs : Nat) : Int) := by (rw [List.take_of_length_le (by omega)])
   exact ⟨(us), (congrArg (Value.int .i64) e2), hs1⟩


end Go.Proofs.Ytjehmnojfpedjaa
