/-
  Part of the proofs over this seat: what each function of the program computes, function by function (the text is written by a program of this hand-in's own).
  Conditions: each theorem states its own.
-/
import Derived.Test.YtjehmnojfpedjaaProg
import Derived.KernelRfl
import Derived.Test.YtjehmnojfpedjaaPfModel
namespace Go.Proofs.Ytjehmnojfpedjaa
open Go.PF
set_option maxRecDepth 100000
set_option linter.unusedSimpArgs false
set_option linter.unusedVariables false
theorem ag52 : aggOk Try.prog 52 4 = true := by kernel_rfl
theorem ag54 : aggOk Try.prog 54 6 = true := by kernel_rfl
theorem ag61 : aggOk Try.prog 61 8 = true := by kernel_rfl
theorem fo47_0 : fieldOk Try.prog 47 0 0 = true := by kernel_rfl
theorem fo47_1 : fieldOk Try.prog 47 1 1 = true := by kernel_rfl
theorem fo52_0 : fieldOk Try.prog 52 0 0 = true := by kernel_rfl
theorem fo52_1 : fieldOk Try.prog 52 1 1 = true := by kernel_rfl
theorem fo52_2 : fieldOk Try.prog 52 2 2 = true := by kernel_rfl
theorem fo52_3 : fieldOk Try.prog 52 3 3 = true := by kernel_rfl
theorem fo54_0 : fieldOk Try.prog 54 0 0 = true := by kernel_rfl
theorem fo54_1 : fieldOk Try.prog 54 1 1 = true := by kernel_rfl
theorem fo54_2 : fieldOk Try.prog 54 2 5 = true := by kernel_rfl
theorem fo61_0 : fieldOk Try.prog 61 0 0 = true := by kernel_rfl
theorem fo61_1 : fieldOk Try.prog 61 1 4 = true := by kernel_rfl
theorem mixed : Try.prog.follows .mixedOrders = true := by kernel_rfl
theorem one24 : oneOk Try.prog 24 = true := by kernel_rfl
theorem one3 : oneOk Try.prog 3 = true := by kernel_rfl
theorem one31 : oneOk Try.prog 31 = true := by kernel_rfl
theorem one5 : oneOk Try.prog 5 = true := by kernel_rfl
theorem one9 : oneOk Try.prog 9 = true := by kernel_rfl
theorem sl22 : SlT Try.prog 22 24 1 24 (.slice none 0 0) := SlT.mk' (by kernel_rfl) (by kernel_rfl)
theorem sl24 : SlT Try.prog 24 3 1 8 (.int .i64 0) := SlT.mk' (by kernel_rfl) (by kernel_rfl)
theorem sl31 : SlT Try.prog 31 5 1 1 (.int .u8 0) := SlT.mk' (by kernel_rfl) (by kernel_rfl)
theorem sl64 : SlT Try.prog 64 86 2 32 (.agg #[.int .i64 0, .slice none 0 0]) := SlT.mk' (by kernel_rfl) (by kernel_rfl)
theorem sl81 : SlT Try.prog 81 9 1 16 (Str []) := SlT.mk' (by kernel_rfl) (by kernel_rfl)
theorem st9 : Try.prog.underlying 9 = some .string := by kernel_rfl
theorem ti3 : Try.prog.underlying 3 = some (.int .i64) := by kernel_rfl
theorem ti5 : Try.prog.underlying 5 = some (.int .u8) := by kernel_rfl
theorem tz52 : (Try.prog.info? 52).bind (·.zero) = some (.agg #[.int .i64 0, .slice none 0 0, Str [], .int .i64 0]) := by kernel_rfl
theorem tz54 : (Try.prog.info? 54).bind (·.zero) = some (.agg #[.int .i64 0, .int .i64 0, .slice none 0 0, Str [], .int .i64 0, Str []]) := by kernel_rfl
theorem tz61 : (Try.prog.info? 61).bind (·.zero) = some (.agg #[.int .i64 0, .slice none 0 0, Str [], .int .i64 0, .int .i64 0, .slice none 0 0, Str [], .int .i64 0]) := by kernel_rfl
theorem us31 : Try.prog.underlying 31 = some (.slice 5) := by kernel_rfl
theorem sIn (x : Int) (lo : Int) (hi : Int) (w : World)  : Does Try.prog 48 [I x, I lo, I hi] w (fun v w' => v = .bool (decide (lo ≤ x ∧ x ≤ hi)) ∧ SH w w' [] []) := by
 refine fn_enter (N := 15) Try.func48 rfl (by kernel_rfl) rfl rfl rfl ?_
 have hs0 : SH w w [] [] := SH.refl w []
 refine sq ?_
 refine rg ?_
 refine q trivial rfl rfl (asg (v := .bool false) rfl) ?_
 refine nl ?_
 refine nN ?_
 refine sq ?_
 refine rg ?_
 refine q trivial rfl rfl (mv (v := I x) rfl) ?_
 refine q trivial rfl rfl (mv (v := I lo) rfl) ?_
 refine q trivial rfl rfl (geq (k := .i64) (a := x) (b := lo) rfl rfl) ?_
 refine q trivial rfl rfl (mv (v := .bool (decide (lo ≤ x))) rfl) ?_
 refine spd (p := lo ≤ x) 10 rfl (fun h1 => ?_) (fun h1 => ?_)
 · refine q ⟨_, rfl, rfl⟩ rfl rfl (mv (v := I x) rfl) ?_
   refine q ⟨_, rfl, rfl⟩ rfl rfl (mv (v := I hi) rfl) ?_
   refine q ⟨_, rfl, rfl⟩ rfl rfl (leq (k := .i64) (a := x) (b := hi) rfl rfl) ?_
   refine q trivial rfl rfl (pt (v := .bool (decide (x ≤ hi))) rfl rfl) ?_
   refine q trivial rfl rfl (asg (v := .bool (decide (x ≤ hi))) rfl) ?_
   refine nl ?_
   refine nN ?_
   refine rt ?_
   refine fret (v := .bool (decide (x ≤ hi))) (.tmp .nil) rfl ?_
   have e1 : (decide (x ≤ hi)) = (decide (lo ≤ x ∧ x ≤ hi)) := by simp [*]
   exact ⟨(congrArg (Value.bool) e1), hs0⟩
 · refine gk false rfl rfl rfl rfl rfl ?_
   refine gk false rfl rfl rfl rfl rfl ?_
   refine gk false rfl rfl rfl rfl rfl ?_
   refine q trivial rfl rfl (pf (v := .bool false) rfl rfl) ?_
   refine q trivial rfl rfl (asg (v := .bool false) rfl) ?_
   refine nl ?_
   refine nN ?_
   refine rt ?_
   refine fret (v := .bool false) (.tmp .nil) rfl ?_
   have e2 : false = (decide (lo ≤ x ∧ x ≤ hi)) := by simp [*]
   exact ⟨(congrArg (Value.bool) e2), hs0⟩

theorem iWithin (x : Int) (lo : Int) (hi : Int) (w : World)  : Does Try.prog 46 [I x, I lo, I hi] w (fun v w' => v = .bool (decide (lo ≤ x ∧ x ≤ hi)) ∧ SH w w' [] []) := by
 refine fn_enter (N := 15) Try.func46 rfl (by kernel_rfl) rfl rfl rfl ?_
 have hs0 : SH w w [] [] := SH.refl w []
 refine sq ?_
 refine rg ?_
 refine q trivial rfl rfl (asg (v := .bool false) rfl) ?_
 refine nl ?_
 refine nN ?_
 refine sq ?_
 refine rg ?_
 refine q trivial rfl rfl (mv (v := I x) rfl) ?_
 refine q trivial rfl rfl (mv (v := I lo) rfl) ?_
 refine q trivial rfl rfl (geq (k := .i64) (a := x) (b := lo) rfl rfl) ?_
 refine q trivial rfl rfl (mv (v := .bool (decide (lo ≤ x))) rfl) ?_
 refine spd (p := lo ≤ x) 10 rfl (fun h1 => ?_) (fun h1 => ?_)
 · refine q ⟨_, rfl, rfl⟩ rfl rfl (mv (v := I x) rfl) ?_
   refine q ⟨_, rfl, rfl⟩ rfl rfl (mv (v := I hi) rfl) ?_
   refine q ⟨_, rfl, rfl⟩ rfl rfl (leq (k := .i64) (a := x) (b := hi) rfl rfl) ?_
   refine q trivial rfl rfl (pt (v := .bool (decide (x ≤ hi))) rfl rfl) ?_
   refine q trivial rfl rfl (asg (v := .bool (decide (x ≤ hi))) rfl) ?_
   refine nl ?_
   refine nN ?_
   refine rt ?_
   refine fret (v := .bool (decide (x ≤ hi))) (.tmp .nil) rfl ?_
   have e1 : (decide (x ≤ hi)) = (decide (lo ≤ x ∧ x ≤ hi)) := by simp [*]
   exact ⟨(congrArg (Value.bool) e1), hs0⟩
 · refine gk false rfl rfl rfl rfl rfl ?_
   refine gk false rfl rfl rfl rfl rfl ?_
   refine gk false rfl rfl rfl rfl rfl ?_
   refine q trivial rfl rfl (pf (v := .bool false) rfl rfl) ?_
   refine q trivial rfl rfl (asg (v := .bool false) rfl) ?_
   refine nl ?_
   refine nN ?_
   refine rt ?_
   refine fret (v := .bool false) (.tmp .nil) rfl ?_
   have e2 : false = (decide (lo ≤ x ∧ x ≤ hi)) := by simp [*]
   exact ⟨(congrArg (Value.bool) e2), hs0⟩

theorem iBV1 (x : Int) (w : World)  : Does Try.prog 45 [I x] w (fun v w' => v = .bool (decide (¬ (0 ≤ x ∧ x ≤ 255))) ∧ SH w w' [] []) := by
 refine fn_enter (N := 6) Try.func45 rfl (by kernel_rfl) rfl rfl rfl ?_
 have hs0 : SH w w [] [] := SH.refl w []
 refine sq ?_
 refine rg ?_
 refine q trivial rfl rfl (asg (v := .bool false) rfl) ?_
 refine nl ?_
 refine nN ?_
 refine sq ?_
 refine rg ?_
 refine q trivial rfl rfl (mv (v := I x) rfl) ?_
 refine cl trivial rfl (iWithin (x := x) (lo := 0) (hi := 255) (w := _)) ?_
 rintro _ w1 ⟨rfl, hs1'⟩
 have hs1 : SH w w1 [] [] := hs0.call0 hs1'
 clear hs1'
 refine q trivial rfl rfl (nd (p := 0 ≤ x ∧ x ≤ 255) rfl) ?_
 refine q trivial rfl rfl (asg (v := .bool (decide (¬ (0 ≤ x ∧ x ≤ 255)))) rfl) ?_
 refine nl ?_
 refine nN ?_
 refine rt ?_
 refine fret (v := .bool (decide (¬ (0 ≤ x ∧ x ≤ 255)))) (.tmp .nil) rfl ?_
 exact ⟨rfl, hs1⟩

theorem sBytesValid {Azs : Option Addr} {czs : Nat} (zs : List Int) (w : World) (hzs : Sl w [] 1 Azs zs.length czs (zs.map I)) : Does Try.prog 29 [.slice Azs zs.length czs] w (fun v w' => v = .bool (isBytes zs) ∧ SH w w' [] []) := by
 refine fn_enter (N := 19) Try.func29 rfl (by kernel_rfl) rfl rfl rfl ?_
 have hs0 : SH w w [] [] := SH.refl w []
 have hzs_m : zs.length ≤ 9223372036854775807 := Nat.le_trans hzs.cap hzs.capMax
 refine sq ?_
 refine rg ?_
 refine q trivial rfl rfl (asg (v := .bool false) rfl) ?_
 refine nl ?_
 refine nN ?_
 refine sq ?_
 refine sq ?_
 refine rg ?_
 refine q trivial rfl rfl (asg (v := I 0) rfl) ?_
 refine nl ?_
 refine nN ?_
 refine bl ?_
 refine lp (σ := Nat) (fun (k : Nat) f w' => Has f [(0, .slice Azs zs.length czs), (3, I ((k : Nat) : Int))] ∧ (k ≤ zs.length) ∧ (allB (zs.take k) = true) ∧ SH w w' [] []) (fun k => zs.length - k) 0 ⟨⟨rfl, rfl, trivial⟩, (by simp), (by simp [allB]), hs0⟩ ?_
 rintro k f w1 ⟨hf, hk, ha, hs1⟩
 obtain ⟨g1, rfl⟩ := has_upd hf
 clear hf
 refine sq ?_
 refine sq ?_
 refine rg ?_
 refine q trivial rfl rfl (mv (v := I ((k : Nat) : Int)) rfl) ?_
 refine q trivial rfl rfl (mv (v := .slice Azs zs.length czs) rfl) ?_
 refine q trivial rfl rfl (lnA (n := zs.length) sl24 rfl) ?_
 refine q trivial rfl rfl (lss (k := .i64) (a := ((k : Nat) : Int)) (b := ((zs.length : Nat) : Int)) rfl rfl) ?_
 refine nl ?_
 refine nN ?_
 refine cdd (p := ((k : Nat) : Int) < ((zs.length : Nat) : Int)) rfl (fun h1 => ?_) (fun h1 => ?_)
 · refine sk ?_
   refine nN ?_
   refine sq ?_
   refine bl ?_
   refine sq ?_
   refine rg ?_
   refine q trivial rfl rfl (mv (v := .slice Azs zs.length czs) rfl) ?_
   refine q trivial rfl rfl (mv (v := I ((k : Nat) : Int)) rfl) ?_
   refine ixw1 k sl24 rfl rfl hzs (by first | omega | (simp; done) | (simp; omega)) (getm I 0 (by first | omega | (simp; done) | (simp; omega))) trivial rfl (fun a1 ha1 => ?_)
   refine q trivial rfl rfl (lda (v := I (zs.getD k 0)) hs1 ha1 (fun _ h => h) rfl rfl one3) ?_
   refine cl trivial rfl (sIn (x := zs.getD k 0) (lo := 0) (hi := 255) (w := _)) ?_
   rintro _ w2 ⟨rfl, hs2'⟩
   have hs2 : SH w w2 [] [] := hs1.call0 hs2'
   clear hs2'
   refine q trivial rfl rfl (nd (p := 0 ≤ (zs.getD k 0) ∧ (zs.getD k 0) ≤ 255) rfl) ?_
   refine nl ?_
   refine nN ?_
   refine cdd (p := ¬ (0 ≤ (zs.getD k 0) ∧ (zs.getD k 0) ≤ 255)) rfl (fun h2 => ?_) (fun h2 => ?_)
   · refine sq ?_
     refine rg ?_
     refine q trivial rfl rfl (asg (v := .bool false) rfl) ?_
     refine nl ?_
     refine nN ?_
     refine rt (bR (tR (tR (bR (tR ?_)))))
     refine fret (v := .bool false) (.tmp .nil) rfl ?_
     have e1 : false = isBytes zs := by exact bytes_no1 (k := k) (by omega) (by simpa using h2)
     exact ⟨(congrArg (Value.bool) e1), hs2⟩
   · refine sk ?_
     refine bN ?_
     refine nN ?_
     refine rg ?_
     refine q trivial rfl rfl (mv (v := I ((k : Nat) : Int)) rfl) ?_
     refine q trivial rfl rfl (add (a := ((k : Nat) : Int)) (b := 1) rfl rfl (by exact ⟨by omega, by omega⟩)) ?_
     refine q trivial rfl rfl (asg (v := I (((k : Nat) : Int) + 1)) rfl) ?_
     refine nl ?_
     refine nN ?_
     refine ⟨(k + 1), ⟨⟨rfl, rfl, trivial⟩, (by omega), (allB_step (by omega) ha (by simpa using h2)), hs2⟩, ?_⟩
     omega
 · refine ex (tE (tE (bE ?_)))
   refine nN ?_
   refine sq ?_
   refine rg ?_
   refine q trivial rfl rfl (mv (v := .slice Azs zs.length czs) rfl) ?_
   refine q trivial rfl rfl (lnA (n := zs.length) sl24 rfl) ?_
   refine q trivial rfl rfl (leq (k := .i64) (a := ((zs.length : Nat) : Int)) (b := 120) rfl rfl) ?_
   refine q trivial rfl rfl (asg (v := .bool (decide (((zs.length : Nat) : Int) ≤ 120))) rfl) ?_
   refine nl ?_
   refine nN ?_
   refine rt ?_
   refine fret (v := .bool (decide (((zs.length : Nat) : Int) ≤ 120))) (.tmp .nil) rfl ?_
   have e2 : (decide (((zs.length : Nat) : Int) ≤ 120)) = isBytes zs := by exact bytes_yes (k := k) (by omega) ha
   exact ⟨(congrArg (Value.bool) e2), hs1⟩

theorem slIndexFunc (p : Int → Bool) {Azs : Option Addr} {czs : Nat} (zs : List Int) (kf : FuncId) (w : World) (hzs : Sl w [] 1 Azs zs.length czs (zs.map I)) (hf : ∀ (x : Int) (w : World), Does Try.prog kf [.int .i64 x] w (fun v w' => v = .bool (p x) ∧ SH w w' [] [])) : Does Try.prog 65 [.slice Azs zs.length czs, .func (.func kf) #[] #[]] w (fun v w' => v = .int .i64 (idxF p zs) ∧ SH w w' [] []) := by
 refine fn_enter (N := 19) Try.func65 rfl (by kernel_rfl) rfl rfl rfl ?_
 have hs0 : SH w w [] [] := SH.refl w []
 have hzs_m : zs.length ≤ 9223372036854775807 := Nat.le_trans hzs.cap hzs.capMax
 refine sq ?_
 refine rg ?_
 refine q trivial rfl rfl (asg (v := I 0) rfl) ?_
 refine nl ?_
 refine nN ?_
 refine sq ?_
 refine sq ?_
 refine rg ?_
 refine q trivial rfl rfl (mv (v := .slice Azs zs.length czs) rfl) ?_
 refine q trivial rfl rfl (lnA (n := zs.length) sl24 rfl) ?_
 refine q trivial rfl rfl (mv (v := I 0) rfl) ?_
 refine nl ?_
 refine nN ?_
 refine bl ?_
 refine lp (σ := Nat) (fun (k : Nat) f w' => Has f [(0, .slice Azs zs.length czs), (1, .func (.func kf) #[] #[]), (7, I ((zs.length : Nat) : Int)), (8, I ((k : Nat) : Int))] ∧ (k ≤ zs.length) ∧ (∀ j, j < k → p (zs.getD j 0) = false) ∧ SH w w' [] []) (fun k => zs.length - k) 0 ⟨⟨rfl, rfl, rfl, rfl, trivial⟩, (by simp), (by intro j hj; omega), hs0⟩ ?_
 rintro k f w1 ⟨hf, hk, hn, hs1⟩
 obtain ⟨g1, rfl⟩ := has_upd hf
 clear hf
 refine sq ?_
 refine rg ?_
 refine q trivial rfl rfl (lss (k := .i64) (a := ((k : Nat) : Int)) (b := ((zs.length : Nat) : Int)) rfl rfl) ?_
 refine nl ?_
 refine nN ?_
 refine sq ?_
 refine cdd (p := ((k : Nat) : Int) < ((zs.length : Nat) : Int)) rfl (fun h1 => ?_) (fun h1 => ?_)
 · refine sk ?_
   refine nN ?_
   refine sq ?_
   refine bl ?_
   refine sq ?_
   refine rg ?_
   refine q trivial rfl rfl (mv (v := I ((k : Nat) : Int)) rfl) ?_
   refine q trivial rfl rfl (asg (v := I ((k : Nat) : Int)) rfl) ?_
   refine nl ?_
   refine nN ?_
   refine sq ?_
   refine rg ?_
   refine q trivial rfl rfl (mv (v := .func (.func kf) #[] #[]) rfl) ?_
   refine q trivial rfl rfl (mv (v := .slice Azs zs.length czs) rfl) ?_
   refine q trivial rfl rfl (mv (v := I ((k : Nat) : Int)) rfl) ?_
   refine ixw1 k sl24 rfl rfl hzs (by first | omega | (simp; done) | (simp; omega)) (getm I 0 (by first | omega | (simp; done) | (simp; omega))) trivial rfl (fun a1 ha1 => ?_)
   refine q trivial rfl rfl (lda (v := I (zs.getD k 0)) hs1 ha1 (fun _ h => h) rfl rfl one3) ?_
   refine clv (k := kf) trivial rfl rfl (hf (zs.getD k 0) _) ?_
   rintro _ w2 ⟨rfl, hs2'⟩
   have hs2 : SH w w2 [] [] := hs1.call0 hs2'
   clear hs2'
   refine nl ?_
   refine nN ?_
   refine cd (b := p (zs.getD k 0)) rfl (fun h2 => ?_) (fun h2 => ?_)
   · refine sq ?_
     refine rg ?_
     refine q trivial rfl rfl (mv (v := I ((k : Nat) : Int)) rfl) ?_
     refine q trivial rfl rfl (asg (v := I ((k : Nat) : Int)) rfl) ?_
     refine nl ?_
     refine nN ?_
     refine rt (bR (tR (tR (bR (tR ?_)))))
     refine fret (v := I ((k : Nat) : Int)) (.tmp .nil) rfl ?_
     have e1 : ((k : Nat) : Int) = idxF p zs := by exact idxF_eq (by omega) hn h2
     exact ⟨(congrArg (Value.int .i64) e1), hs2⟩
   · refine sk ?_
     refine bN ?_
     refine nN ?_
     refine rg ?_
     refine q trivial rfl rfl (add (a := ((k : Nat) : Int)) (b := 1) rfl rfl (by exact ⟨by omega, by omega⟩)) ?_
     refine q trivial rfl rfl (mv (v := I (((k : Nat) : Int) + 1)) rfl) ?_
     refine nl ?_
     refine nN ?_
     refine ⟨(k + 1), ⟨⟨rfl, rfl, rfl, rfl, trivial⟩, (by omega), (by intro j hj; rcases Nat.lt_succ_iff_lt_or_eq.1 hj with h | h; exact hn j h; subst h; exact h2), hs2⟩, ?_⟩
     omega
 · refine ex (tE (tE (bE ?_)))
   refine nN ?_
   refine sq ?_
   refine rg ?_
   refine q trivial rfl rfl (asg (v := I (-1)) rfl) ?_
   refine nl ?_
   refine nN ?_
   refine rt ?_
   refine fret (v := I (-1)) (.tmp .nil) rfl ?_
   have e2 : (-1) = idxF p zs := by exact idxF_none (fun j hj => hn j (by omega))
   exact ⟨(congrArg (Value.int .i64) e2), hs1⟩

theorem slContainsFunc (p : Int → Bool) {Azs : Option Addr} {czs : Nat} (zs : List Int) (kf : FuncId) (w : World) (hzs : Sl w [] 1 Azs zs.length czs (zs.map I)) (hf : ∀ (x : Int) (w : World), Does Try.prog kf [.int .i64 x] w (fun v w' => v = .bool (p x) ∧ SH w w' [] [])) : Does Try.prog 44 [.slice Azs zs.length czs, .func (.func kf) #[] #[]] w (fun v w' => v = .bool (zs.any p) ∧ SH w w' [] []) := by
 refine fn_enter (N := 9) Try.func44 rfl (by kernel_rfl) rfl rfl rfl ?_
 have hs0 : SH w w [] [] := SH.refl w []
 have hzs_m : zs.length ≤ 9223372036854775807 := Nat.le_trans hzs.cap hzs.capMax
 refine sq ?_
 refine rg ?_
 refine q trivial rfl rfl (asg (v := .bool false) rfl) ?_
 refine nl ?_
 refine nN ?_
 refine sq ?_
 refine rg ?_
 refine q trivial rfl rfl (mv (v := .slice Azs zs.length czs) rfl) ?_
 refine q trivial rfl rfl (mv (v := .func (.func kf) #[] #[]) rfl) ?_
 refine cl trivial rfl (slIndexFunc (p := p) (Azs := Azs) (czs := czs) (zs := zs) (kf := kf) (w := _) (hzs := (hzs.up0 hs0)) (hf := hf)) ?_
 rintro _ w1 ⟨rfl, hs1'⟩
 have hs1 : SH w w1 [] [] := hs0.call0 hs1'
 clear hs1'
 refine q trivial rfl rfl (geq (k := .i64) (a := idxF p zs) (b := 0) rfl rfl) ?_
 refine q trivial rfl rfl (asg (v := .bool (decide ((0 : Int) ≤ (idxF p zs)))) rfl) ?_
 refine nl ?_
 refine nN ?_
 refine rt ?_
 refine fret (v := .bool (decide ((0 : Int) ≤ (idxF p zs)))) (.tmp .nil) rfl ?_
 have e1 : (decide ((0 : Int) ≤ (idxF p zs))) = zs.any p := by exact idxF_any p zs
 exact ⟨(congrArg (Value.bool) e1), hs1⟩

theorem iBytesValid {Azs : Option Addr} {czs : Nat} (zs : List Int) (w : World) (hzs : Sl w [] 1 Azs zs.length czs (zs.map I)) : Does Try.prog 25 [.slice Azs zs.length czs] w (fun v w' => v = .bool (isBytes zs) ∧ SH w w' [] []) := by
 refine fn_enter (N := 11) Try.func25 rfl (by kernel_rfl) rfl rfl rfl ?_
 have hs0 : SH w w [] [] := SH.refl w []
 have hzs_m : zs.length ≤ 9223372036854775807 := Nat.le_trans hzs.cap hzs.capMax
 refine sq ?_
 refine rg ?_
 refine q trivial rfl rfl (asg (v := .bool false) rfl) ?_
 refine nl ?_
 refine nN ?_
 refine sq ?_
 refine rg ?_
 refine q trivial rfl rfl (mv (v := .slice Azs zs.length czs) rfl) ?_
 refine q trivial rfl rfl (lnA (n := zs.length) sl24 rfl) ?_
 refine q trivial rfl rfl (leq (k := .i64) (a := ((zs.length : Nat) : Int)) (b := 120) rfl rfl) ?_
 refine q trivial rfl rfl (mv (v := .bool (decide (((zs.length : Nat) : Int) ≤ 120))) rfl) ?_
 refine spd (p := ((zs.length : Nat) : Int) ≤ 120) 6 rfl (fun h1 => ?_) (fun h1 => ?_)
 · refine q ⟨_, rfl, rfl⟩ rfl rfl (mv (v := .slice Azs zs.length czs) rfl) ?_
   refine cl ⟨_, rfl, rfl⟩ rfl (slContainsFunc (p := (fun x => (decide (¬ (0 ≤ x ∧ x ≤ 255))))) (Azs := Azs) (czs := czs) (zs := zs) (kf := 45) (w := _) (hzs := (hzs.up0 hs0)) (hf := (fun x w => iBV1 x w))) ?_
   rintro _ w1 ⟨rfl, hs1'⟩
   have hs1 : SH w w1 [] [] := hs0.call0 hs1'
   clear hs1'
   refine q ⟨_, rfl, rfl⟩ rfl rfl (nt (b := zs.any (fun x => (decide (¬ (0 ≤ x ∧ x ≤ 255))))) rfl) ?_
   refine q trivial rfl rfl (pt (v := .bool (!(zs.any (fun x => (decide (¬ (0 ≤ x ∧ x ≤ 255))))))) rfl rfl) ?_
   refine q trivial rfl rfl (asg (v := .bool (!(zs.any (fun x => (decide (¬ (0 ≤ x ∧ x ≤ 255))))))) rfl) ?_
   refine nl ?_
   refine nN ?_
   refine rt ?_
   refine fret (v := .bool (!(zs.any (fun x => (decide (¬ (0 ≤ x ∧ x ≤ 255))))))) (.tmp .nil) rfl ?_
   have e1 : (!(zs.any (fun x => (decide (¬ (0 ≤ x ∧ x ≤ 255)))))) = isBytes zs := by rw [← isBytes_not]; simp [*]
   exact ⟨(congrArg (Value.bool) e1), hs1⟩
 · refine gk false rfl rfl rfl rfl rfl ?_
   refine gk false rfl rfl rfl rfl rfl ?_
   refine gk false rfl rfl rfl rfl rfl ?_
   refine q trivial rfl rfl (pf (v := .bool false) rfl rfl) ?_
   refine q trivial rfl rfl (asg (v := .bool false) rfl) ?_
   refine nl ?_
   refine nN ?_
   refine rt ?_
   refine fret (v := .bool false) (.tmp .nil) rfl ?_
   have e2 : false = isBytes zs := by rw [← isBytes_not]; simp [*]
   exact ⟨(congrArg (Value.bool) e2), hs0⟩

theorem sameBytes {Axs : Option Addr} {cxs : Nat} (xs : List Int) {Abs : Option Addr} {cbs : Nat} (bs : List Int) (w : World) (hxs : Sl w [] 1 Axs xs.length cxs (xs.map I)) (hbs : Sl w [] 1 Abs bs.length cbs (bs.map I)) : Does Try.prog 16 [.slice Axs xs.length cxs, .slice Abs bs.length cbs] w (fun v w' => v = .bool (decide (xs = bs)) ∧ SH w w' [] []) := by
 refine fn_enter (N := 26) Try.func16 rfl (by kernel_rfl) rfl rfl rfl ?_
 have hs0 : SH w w [] [] := SH.refl w []
 have hxs_m : xs.length ≤ 9223372036854775807 := Nat.le_trans hxs.cap hxs.capMax
 have hbs_m : bs.length ≤ 9223372036854775807 := Nat.le_trans hbs.cap hbs.capMax
 refine sq ?_
 refine rg ?_
 refine q trivial rfl rfl (asg (v := .bool false) rfl) ?_
 refine nl ?_
 refine nN ?_
 refine sq ?_
 refine sq ?_
 refine rg ?_
 refine q trivial rfl rfl (mv (v := .slice Axs xs.length cxs) rfl) ?_
 refine q trivial rfl rfl (lnA (n := xs.length) sl24 rfl) ?_
 refine q trivial rfl rfl (mv (v := .slice Abs bs.length cbs) rfl) ?_
 refine q trivial rfl rfl (lnA (n := bs.length) sl24 rfl) ?_
 refine q trivial rfl rfl (nei (k := .i64) (a := ((xs.length : Nat) : Int)) (b := ((bs.length : Nat) : Int)) rfl rfl) ?_
 refine nl ?_
 refine nN ?_
 refine cdd (p := ((xs.length : Nat) : Int) ≠ ((bs.length : Nat) : Int)) rfl (fun h1 => ?_) (fun h1 => ?_)
 · refine sq ?_
   refine rg ?_
   refine q trivial rfl rfl (asg (v := .bool false) rfl) ?_
   refine nl ?_
   refine nN ?_
   refine rt (tR ?_)
   refine fret (v := .bool false) (.tmp .nil) rfl ?_
   have e1 : false = (decide (xs = bs)) := by simp; intro h; subst h; exact h1 rfl
   exact ⟨(congrArg (Value.bool) e1), hs0⟩
 · refine sk ?_
   refine nN ?_
   refine sq ?_
   refine sq ?_
   refine rg ?_
   refine q trivial rfl rfl (asg (v := I 0) rfl) ?_
   refine nl ?_
   refine nN ?_
   refine bl ?_
   refine lp (σ := Nat) (fun (k : Nat) f w' => Has f [(0, .slice Axs xs.length cxs), (1, .slice Abs bs.length cbs), (5, I ((k : Nat) : Int))] ∧ (xs.length = bs.length) ∧ (k ≤ xs.length) ∧ (xs.take k = bs.take k) ∧ SH w w' [] []) (fun k => xs.length - k) 0 ⟨⟨rfl, rfl, rfl, trivial⟩, (by omega), (by simp), (by simp), hs0⟩ ?_
   rintro k f w1 ⟨hf, hl, hk, ha, hs1⟩
   obtain ⟨g1, rfl⟩ := has_upd hf
   clear hf
   refine sq ?_
   refine sq ?_
   refine rg ?_
   refine q trivial rfl rfl (mv (v := I ((k : Nat) : Int)) rfl) ?_
   refine q trivial rfl rfl (mv (v := .slice Axs xs.length cxs) rfl) ?_
   refine q trivial rfl rfl (lnA (n := xs.length) sl24 rfl) ?_
   refine q trivial rfl rfl (lss (k := .i64) (a := ((k : Nat) : Int)) (b := ((xs.length : Nat) : Int)) rfl rfl) ?_
   refine nl ?_
   refine nN ?_
   refine cdd (p := ((k : Nat) : Int) < ((xs.length : Nat) : Int)) rfl (fun h2 => ?_) (fun h2 => ?_)
   · refine sk ?_
     refine nN ?_
     refine sq ?_
     refine bl ?_
     refine sq ?_
     refine rq (fun w' => SH w w' [] []) mixed (by kernel_rfl) hs1.drew ?_
     refine qq trivial rfl rfl (fun wq hsq => mv (v := .slice Axs xs.length cxs) rfl) ?_
     refine qq trivial rfl rfl (fun wq hsq => mv (v := I ((k : Nat) : Int)) rfl) ?_
     refine ixq1 k sl24 rfl rfl hxs (by first | omega | (simp; done) | (simp; omega)) (getm I 0 (by first | omega | (simp; done) | (simp; omega))) trivial rfl (fun a1 ha1 => ?_)
     refine qq trivial rfl rfl (fun wq hsq => lda (v := I (xs.getD k 0)) hsq ha1 (fun _ h => h) rfl rfl one3) ?_
     refine qq trivial rfl rfl (fun wq hsq => mv (v := .slice Abs bs.length cbs) rfl) ?_
     refine qq trivial rfl rfl (fun wq hsq => mv (v := I ((k : Nat) : Int)) rfl) ?_
     refine ixq1 k sl24 rfl rfl hbs (by first | omega | (simp; done) | (simp; omega)) (getm I 0 (by first | omega | (simp; done) | (simp; omega))) trivial rfl (fun a2 ha2 => ?_)
     refine qq trivial rfl rfl (fun wq hsq => lda (v := I (bs.getD k 0)) hsq ha2 (fun _ h => h) rfl rfl one3) ?_
     refine qq trivial rfl rfl (fun wq hsq => nei (k := .i64) (a := xs.getD k 0) (b := bs.getD k 0) rfl rfl) ?_
     refine qn (fun w2 hs2 => ?_)
     refine nN ?_
     refine cdd (p := (xs.getD k 0) ≠ (bs.getD k 0)) rfl (fun h3 => ?_) (fun h3 => ?_)
     · refine sq ?_
       refine rg ?_
       refine q trivial rfl rfl (asg (v := .bool false) rfl) ?_
       refine nl ?_
       refine nN ?_
       refine rt (bR (tR (tR (bR (tR ?_)))))
       refine fret (v := .bool false) (.tmp .nil) rfl ?_
       have e2 : false = (decide (xs = bs)) := by simp; intro h; subst h; exact h3 rfl
       exact ⟨(congrArg (Value.bool) e2), hs2⟩
     · refine sk ?_
       refine bN ?_
       refine nN ?_
       refine rg ?_
       refine q trivial rfl rfl (mv (v := I ((k : Nat) : Int)) rfl) ?_
       refine q trivial rfl rfl (add (a := ((k : Nat) : Int)) (b := 1) rfl rfl (by exact ⟨by omega, by omega⟩)) ?_
       refine q trivial rfl rfl (asg (v := I (((k : Nat) : Int) + 1)) rfl) ?_
       refine nl ?_
       refine nN ?_
       refine ⟨(k + 1), ⟨⟨rfl, rfl, rfl, trivial⟩, (hl), (by omega), (take_succ_eq (by omega) (by omega) ha (by simpa using h3)), hs2⟩, ?_⟩
       omega
   · refine ex (tE (tE (bE ?_)))
     refine nN ?_
     refine sq ?_
     refine rg ?_
     refine q trivial rfl rfl (asg (v := .bool true) rfl) ?_
     refine nl ?_
     refine nN ?_
     refine rt ?_
     refine fret (v := .bool true) (.tmp .nil) rfl ?_
     have e3 : true = (decide (xs = bs)) := by simp; exact take_all_eq hl (by omega) ha
     exact ⟨(congrArg (Value.bool) e3), hs1⟩

theorem pick {rb : Nat} {Ab : Option Addr} {cb : Nat} {bs : List UInt8} {p : Nat} (n : Int) (w : World) (hr : w.heap[rb]? = some (.cells [.slice Ab bs.length cb, .int .i64 ((p : Nat) : Int)].toArray 47 (0, 0))) (hb : Sl w [rb] 1 Ab bs.length cb (bs.map U)) (hbn : bs.length ≤ 2000) (hp : p ≤ 1099511627776) : Does Try.prog 22 [pB rb, I n] w (fun v w' => ∃ r : Int, ∃ q : Nat, v = .int .i64 r ∧ (0 ≤ r ∧ (r < n ∨ r = 0)) ∧ (q ≤ p + 1) ∧ SH w w' [rb] [.blk rb 47 [.slice Ab bs.length cb, I ((q : Nat) : Int)]]) := by
 refine fn_enter (N := 99) Try.func22 rfl (by kernel_rfl) rfl rfl rfl ?_
 have hs0 : SH w w [rb] [.blk rb 47 [.slice Ab bs.length cb, I ((p : Nat) : Int)]] := SH.entry1 hr
 refine sq ?_
 refine rg ?_
 refine q trivial rfl rfl (asg (v := I 0) rfl) ?_
 refine nl ?_
 refine nN ?_
 refine sq ?_
 refine rg ?_
 refine q trivial rfl rfl (mv (v := pB rb) rfl) ?_
 refine q trivial rfl rfl (mv (v := pB rb) rfl) ?_
 refine q trivial rfl rfl (nc rfl) ?_
 refine q trivial rfl rfl (fa 1 fo47_1 rfl) ?_
 refine q trivial rfl rfl (ld (v := I ((p : Nat) : Int)) hs0 0 rfl rfl rfl one3) ?_
 refine q trivial rfl rfl (add (a := ((p : Nat) : Int)) (b := 1) rfl rfl (by have h1_ := u8_bd (bs.getD ((p + 1 - 1) % bs.length) 0); have h2_ := u8_bd (bs.getD (((p + 1 - 1) * 7 + 3) % bs.length) 0); have h3_ := div_bd (p + 1 - 1) bs.length; exact ⟨by omega, by omega⟩)) ?_
 refine q trivial rfl rfl (nc rfl) ?_
 refine q trivial rfl rfl (fa 1 fo47_1 rfl) ?_
 refine st (v := I (((p : Nat) : Int) + 1)) hs0 0 rfl rfl rfl rfl rfl one3 trivial (fun w1 (hs1 : SH w w1 [rb] [.blk rb 47 [.slice Ab bs.length cb, I (((p : Nat) : Int) + 1)]]) => ?_)
 refine nl ?_
 refine nN ?_
 refine sq ?_
 refine sq ?_
 refine rg ?_
 refine q trivial rfl rfl (mv (v := I n) rfl) ?_
 refine q trivial rfl rfl (lss (k := .i64) (a := n) (b := 1) rfl rfl) ?_
 refine q trivial rfl rfl (mv (v := .bool (decide (n < 1))) rfl) ?_
 refine spd (p := n < 1) 17 rfl (fun h1 => ?_) (fun h1 => ?_)
 · refine gk true rfl rfl rfl rfl rfl ?_
   refine gk true rfl rfl rfl rfl rfl ?_
   refine gk true rfl rfl rfl rfl rfl ?_
   refine gk true rfl rfl rfl rfl rfl ?_
   refine gk true rfl rfl rfl rfl rfl ?_
   refine gk true rfl rfl rfl rfl rfl ?_
   refine q trivial rfl rfl (pt (v := .bool true) rfl rfl) ?_
   refine nl ?_
   refine nN ?_
   refine cdt rfl ?_
   refine sq ?_
   refine rg ?_
   refine q trivial rfl rfl (asg (v := I 0) rfl) ?_
   refine nl ?_
   refine nN ?_
   refine rt (tR ?_)
   refine fret (v := I 0) (.tmp .nil) rfl ?_
   exact ⟨0, p + 1, rfl, (by simp), (by omega), hs1⟩
 · refine q ⟨_, rfl, rfl⟩ rfl rfl (mv (v := pB rb) rfl) ?_
   refine q ⟨_, rfl, rfl⟩ rfl rfl (nc rfl) ?_
   refine q ⟨_, rfl, rfl⟩ rfl rfl (fa 0 fo47_0 rfl) ?_
   refine q ⟨_, rfl, rfl⟩ rfl rfl (ld (v := .slice Ab bs.length cb) hs1 0 rfl rfl rfl one31) ?_
   refine q ⟨_, rfl, rfl⟩ rfl rfl (lnA (n := bs.length) sl31 rfl) ?_
   refine q ⟨_, rfl, rfl⟩ rfl rfl (eqi (k := .i64) (a := ((bs.length : Nat) : Int)) (b := 0) rfl rfl) ?_
   refine q trivial rfl rfl (pf (v := .bool (decide (((bs.length : Nat) : Int) = 0))) rfl rfl) ?_
   refine nl ?_
   refine nN ?_
   refine cdd (p := ((bs.length : Nat) : Int) = 0) rfl (fun h2 => ?_) (fun h2 => ?_)
   · refine sq ?_
     refine rg ?_
     refine q trivial rfl rfl (asg (v := I 0) rfl) ?_
     refine nl ?_
     refine nN ?_
     refine rt (tR ?_)
     refine fret (v := I 0) (.tmp .nil) rfl ?_
     exact ⟨0, p + 1, rfl, (by simp), (by omega), hs1⟩
   · refine sk ?_
     refine nN ?_
     refine sq ?_
     refine rg ?_
     refine q trivial rfl rfl (mv (v := pB rb) rfl) ?_
     refine q trivial rfl rfl (nc rfl) ?_
     refine q trivial rfl rfl (fa 1 fo47_1 rfl) ?_
     refine q trivial rfl rfl (ld (v := I (((p : Nat) : Int) + 1)) hs1 0 rfl rfl rfl one3) ?_
     refine q trivial rfl rfl (subN (a := p + 1) (b := 1) rfl rfl (by omega) (by omega)) ?_
     refine q trivial rfl rfl (asg (v := I (((p + 1) - 1 : Nat) : Int)) rfl) ?_
     refine nl ?_
     refine nN ?_
     refine sq ?_
     refine sq ?_
     refine rg ?_
     refine q trivial rfl rfl (mv (v := I (((p + 1) - 1 : Nat) : Int)) rfl) ?_
     refine q trivial rfl rfl (mv (v := pB rb) rfl) ?_
     refine q trivial rfl rfl (nc rfl) ?_
     refine q trivial rfl rfl (fa 0 fo47_0 rfl) ?_
     refine q trivial rfl rfl (ld (v := .slice Ab bs.length cb) hs1 0 rfl rfl rfl one31) ?_
     refine q trivial rfl rfl (lnA (n := bs.length) sl31 rfl) ?_
     refine q trivial rfl rfl (lss (k := .i64) (a := (((p + 1) - 1 : Nat) : Int)) (b := ((bs.length : Nat) : Int)) rfl rfl) ?_
     refine nl ?_
     refine nN ?_
     refine cdd (p := (((p + 1) - 1 : Nat) : Int) < ((bs.length : Nat) : Int)) rfl (fun h3 => ?_) (fun h3 => ?_)
     · refine sq ?_
       refine rg ?_
       refine q trivial rfl rfl (mv (v := pB rb) rfl) ?_
       refine q trivial rfl rfl (nc rfl) ?_
       refine q trivial rfl rfl (fa 0 fo47_0 rfl) ?_
       refine q trivial rfl rfl (ld (v := .slice Ab bs.length cb) hs1 0 rfl rfl rfl one31) ?_
       refine q trivial rfl rfl (mv (v := I (((p + 1) - 1 : Nat) : Int)) rfl) ?_
       refine ixw1 ((p + 1) - 1) sl31 rfl rfl hb (by first | omega | exact Nat.mod_lt _ (by omega)) (getm U 0 (by first | omega | exact Nat.mod_lt _ (by omega))) trivial rfl (fun a1 ha1 => ?_)
       refine q trivial rfl rfl (lda (v := .int .u8 (((bs.getD ((p + 1) - 1) 0).toNat : Nat) : Int)) hs1 ha1 (fun _ h => h) rfl rfl one5) ?_
       refine q trivial rfl rfl (cvI (a := (((bs.getD ((p + 1) - 1) 0).toNat : Nat) : Int)) (s := .u8) ti5 ti3 rfl (by have := u8_bd ((bs.getD ((p + 1) - 1) 0)); exact ⟨by omega, by omega⟩)) ?_
       refine q trivial rfl rfl (mv (v := I n) rfl) ?_
       refine q trivial rfl rfl (rem (a := (((bs.getD ((p + 1) - 1) 0).toNat : Nat) : Int)) (b := n) rfl rfl (by have h1_ := u8_bd (bs.getD ((p + 1 - 1) % bs.length) 0); have h2_ := u8_bd (bs.getD (((p + 1 - 1) * 7 + 3) % bs.length) 0); have h3_ := div_bd (p + 1 - 1) bs.length; omega) (by omega)) ?_
       refine q trivial rfl rfl (asg (v := I ((((bs.getD ((p + 1) - 1) 0).toNat : Nat) : Int) % n)) rfl) ?_
       refine nl ?_
       refine nN ?_
       refine rt (tR ?_)
       refine fret (v := I ((((bs.getD ((p + 1) - 1) 0).toNat : Nat) : Int) % n)) (.tmp .nil) rfl ?_
       exact ⟨(((bs.getD ((p + 1) - 1) 0).toNat : Nat) : Int) % n, p + 1, rfl, (mod_pos (by omega)), (by omega), hs1⟩
     · refine sk ?_
       refine nN ?_
       refine sq ?_
       refine rq (fun w' => SH w w' [rb] [.blk rb 47 [.slice Ab bs.length cb, I (((p : Nat) : Int) + 1)]]) mixed (by kernel_rfl) hs1.drew ?_
       refine qq trivial rfl rfl (fun wq hsq => mv (v := pB rb) rfl) ?_
       refine qq trivial rfl rfl (fun wq hsq => nc rfl) ?_
       refine qq trivial rfl rfl (fun wq hsq => fa 0 fo47_0 rfl) ?_
       refine qq trivial rfl rfl (fun wq hsq => ld (v := .slice Ab bs.length cb) hsq 0 rfl rfl rfl one31) ?_
       refine qq trivial rfl rfl (fun wq hsq => mv (v := I (((p + 1) - 1 : Nat) : Int)) rfl) ?_
       refine qq trivial rfl rfl (fun wq hsq => mv (v := pB rb) rfl) ?_
       refine qq trivial rfl rfl (fun wq hsq => nc rfl) ?_
       refine qq trivial rfl rfl (fun wq hsq => fa 0 fo47_0 rfl) ?_
       refine qq trivial rfl rfl (fun wq hsq => ld (v := .slice Ab bs.length cb) hsq 0 rfl rfl rfl one31) ?_
       refine qq trivial rfl rfl (fun wq hsq => lnA (n := bs.length) sl31 rfl) ?_
       refine qq trivial rfl rfl (fun wq hsq => rem (a := (((p + 1) - 1 : Nat) : Int)) (b := ((bs.length : Nat) : Int)) rfl rfl (by have h1_ := u8_bd (bs.getD ((p + 1 - 1) % bs.length) 0); have h2_ := u8_bd (bs.getD (((p + 1 - 1) * 7 + 3) % bs.length) 0); have h3_ := div_bd (p + 1 - 1) bs.length; omega) (by omega)) ?_
       refine ixq1 (((p + 1) - 1) % bs.length) sl31 rfl rfl hb (by first | omega | exact Nat.mod_lt _ (by omega)) (getm U 0 (by first | omega | exact Nat.mod_lt _ (by omega))) trivial rfl (fun a2 ha2 => ?_)
       refine qq trivial rfl rfl (fun wq hsq => lda (v := .int .u8 (((bs.getD (((p + 1) - 1) % bs.length) 0).toNat : Nat) : Int)) hsq ha2 (fun _ h => h) rfl rfl one5) ?_
       refine qq trivial rfl rfl (fun wq hsq => cvI (a := (((bs.getD (((p + 1) - 1) % bs.length) 0).toNat : Nat) : Int)) (s := .u8) ti5 ti3 rfl (by have := u8_bd ((bs.getD (((p + 1) - 1) % bs.length) 0)); exact ⟨by omega, by omega⟩)) ?_
       refine qq trivial rfl rfl (fun wq hsq => mul (a := (((bs.getD (((p + 1) - 1) % bs.length) 0).toNat : Nat) : Int)) (b := 131) rfl rfl (by have h1_ := u8_bd (bs.getD ((p + 1 - 1) % bs.length) 0); have h2_ := u8_bd (bs.getD (((p + 1 - 1) * 7 + 3) % bs.length) 0); have h3_ := div_bd (p + 1 - 1) bs.length; exact ⟨by omega, by omega⟩)) ?_
       refine qq trivial rfl rfl (fun wq hsq => mv (v := pB rb) rfl) ?_
       refine qq trivial rfl rfl (fun wq hsq => nc rfl) ?_
       refine qq trivial rfl rfl (fun wq hsq => fa 0 fo47_0 rfl) ?_
       refine qq trivial rfl rfl (fun wq hsq => ld (v := .slice Ab bs.length cb) hsq 0 rfl rfl rfl one31) ?_
       refine qq trivial rfl rfl (fun wq hsq => mv (v := I (((p + 1) - 1 : Nat) : Int)) rfl) ?_
       refine qq trivial rfl rfl (fun wq hsq => mul (a := (((p + 1) - 1 : Nat) : Int)) (b := 7) rfl rfl (by have h1_ := u8_bd (bs.getD ((p + 1 - 1) % bs.length) 0); have h2_ := u8_bd (bs.getD (((p + 1 - 1) * 7 + 3) % bs.length) 0); have h3_ := div_bd (p + 1 - 1) bs.length; exact ⟨by omega, by omega⟩)) ?_
       refine qq trivial rfl rfl (fun wq hsq => add (a := (((p + 1) - 1 : Nat) : Int) * 7) (b := 3) rfl rfl (by have h1_ := u8_bd (bs.getD ((p + 1 - 1) % bs.length) 0); have h2_ := u8_bd (bs.getD (((p + 1 - 1) * 7 + 3) % bs.length) 0); have h3_ := div_bd (p + 1 - 1) bs.length; exact ⟨by omega, by omega⟩)) ?_
       refine qq trivial rfl rfl (fun wq hsq => mv (v := pB rb) rfl) ?_
       refine qq trivial rfl rfl (fun wq hsq => nc rfl) ?_
       refine qq trivial rfl rfl (fun wq hsq => fa 0 fo47_0 rfl) ?_
       refine qq trivial rfl rfl (fun wq hsq => ld (v := .slice Ab bs.length cb) hsq 0 rfl rfl rfl one31) ?_
       refine qq trivial rfl rfl (fun wq hsq => lnA (n := bs.length) sl31 rfl) ?_
       refine qq trivial rfl rfl (fun wq hsq => rem (a := ((((p + 1) - 1 : Nat) : Int) * 7) + 3) (b := ((bs.length : Nat) : Int)) rfl rfl (by have h1_ := u8_bd (bs.getD ((p + 1 - 1) % bs.length) 0); have h2_ := u8_bd (bs.getD (((p + 1 - 1) * 7 + 3) % bs.length) 0); have h3_ := div_bd (p + 1 - 1) bs.length; omega) (by omega)) ?_
       refine ixq1 (((((p + 1) - 1) * 7) + 3) % bs.length) sl31 rfl rfl hb (by first | omega | exact Nat.mod_lt _ (by omega)) (getm U 0 (by first | omega | exact Nat.mod_lt _ (by omega))) trivial rfl (fun a3 ha3 => ?_)
       refine qq trivial rfl rfl (fun wq hsq => lda (v := .int .u8 (((bs.getD (((((p + 1) - 1) * 7) + 3) % bs.length) 0).toNat : Nat) : Int)) hsq ha3 (fun _ h => h) rfl rfl one5) ?_
       refine qq trivial rfl rfl (fun wq hsq => cvI (a := (((bs.getD (((((p + 1) - 1) * 7) + 3) % bs.length) 0).toNat : Nat) : Int)) (s := .u8) ti5 ti3 rfl (by have := u8_bd ((bs.getD (((((p + 1) - 1) * 7) + 3) % bs.length) 0)); exact ⟨by omega, by omega⟩)) ?_
       refine qq trivial rfl rfl (fun wq hsq => mul (a := (((bs.getD (((((p + 1) - 1) * 7) + 3) % bs.length) 0).toNat : Nat) : Int)) (b := 1117) rfl rfl (by have h1_ := u8_bd (bs.getD ((p + 1 - 1) % bs.length) 0); have h2_ := u8_bd (bs.getD (((p + 1 - 1) * 7 + 3) % bs.length) 0); have h3_ := div_bd (p + 1 - 1) bs.length; exact ⟨by omega, by omega⟩)) ?_
       refine qq trivial rfl rfl (fun wq hsq => add (a := (((bs.getD (((p + 1) - 1) % bs.length) 0).toNat : Nat) : Int) * 131) (b := (((bs.getD (((((p + 1) - 1) * 7) + 3) % bs.length) 0).toNat : Nat) : Int) * 1117) rfl rfl (by have h1_ := u8_bd (bs.getD ((p + 1 - 1) % bs.length) 0); have h2_ := u8_bd (bs.getD (((p + 1 - 1) * 7 + 3) % bs.length) 0); have h3_ := div_bd (p + 1 - 1) bs.length; exact ⟨by omega, by omega⟩)) ?_
       refine qq trivial rfl rfl (fun wq hsq => mv (v := I (((p + 1) - 1 : Nat) : Int)) rfl) ?_
       refine qq trivial rfl rfl (fun wq hsq => mul (a := (((p + 1) - 1 : Nat) : Int)) (b := 29) rfl rfl (by have h1_ := u8_bd (bs.getD ((p + 1 - 1) % bs.length) 0); have h2_ := u8_bd (bs.getD (((p + 1 - 1) * 7 + 3) % bs.length) 0); have h3_ := div_bd (p + 1 - 1) bs.length; exact ⟨by omega, by omega⟩)) ?_
       refine qq trivial rfl rfl (fun wq hsq => add (a := ((((bs.getD (((p + 1) - 1) % bs.length) 0).toNat : Nat) : Int) * 131) + ((((bs.getD (((((p + 1) - 1) * 7) + 3) % bs.length) 0).toNat : Nat) : Int) * 1117)) (b := (((p + 1) - 1 : Nat) : Int) * 29) rfl rfl (by have h1_ := u8_bd (bs.getD ((p + 1 - 1) % bs.length) 0); have h2_ := u8_bd (bs.getD (((p + 1 - 1) * 7 + 3) % bs.length) 0); have h3_ := div_bd (p + 1 - 1) bs.length; exact ⟨by omega, by omega⟩)) ?_
       refine qq trivial rfl rfl (fun wq hsq => mv (v := I (((p + 1) - 1 : Nat) : Int)) rfl) ?_
       refine qq trivial rfl rfl (fun wq hsq => mv (v := pB rb) rfl) ?_
       refine qq trivial rfl rfl (fun wq hsq => nc rfl) ?_
       refine qq trivial rfl rfl (fun wq hsq => fa 0 fo47_0 rfl) ?_
       refine qq trivial rfl rfl (fun wq hsq => ld (v := .slice Ab bs.length cb) hsq 0 rfl rfl rfl one31) ?_
       refine qq trivial rfl rfl (fun wq hsq => lnA (n := bs.length) sl31 rfl) ?_
       refine qq trivial rfl rfl (fun wq hsq => quo (a := (((p + 1) - 1 : Nat) : Int)) (b := ((bs.length : Nat) : Int)) rfl rfl (by have h1_ := u8_bd (bs.getD ((p + 1 - 1) % bs.length) 0); have h2_ := u8_bd (bs.getD (((p + 1 - 1) * 7 + 3) % bs.length) 0); have h3_ := div_bd (p + 1 - 1) bs.length; omega) (by have h1_ := u8_bd (bs.getD ((p + 1 - 1) % bs.length) 0); have h2_ := u8_bd (bs.getD (((p + 1 - 1) * 7 + 3) % bs.length) 0); have h3_ := div_bd (p + 1 - 1) bs.length; omega) (by have h1_ := u8_bd (bs.getD ((p + 1 - 1) % bs.length) 0); have h2_ := u8_bd (bs.getD (((p + 1 - 1) * 7 + 3) % bs.length) 0); have h3_ := div_bd (p + 1 - 1) bs.length; omega)) ?_
       refine qq trivial rfl rfl (fun wq hsq => mul (a := (((p + 1) - 1 : Nat) : Int) / ((bs.length : Nat) : Int)) (b := 53) rfl rfl (by have h1_ := u8_bd (bs.getD ((p + 1 - 1) % bs.length) 0); have h2_ := u8_bd (bs.getD (((p + 1 - 1) * 7 + 3) % bs.length) 0); have h3_ := div_bd (p + 1 - 1) bs.length; exact ⟨by omega, by omega⟩)) ?_
       refine qq trivial rfl rfl (fun wq hsq => add (a := (((((bs.getD (((p + 1) - 1) % bs.length) 0).toNat : Nat) : Int) * 131) + ((((bs.getD (((((p + 1) - 1) * 7) + 3) % bs.length) 0).toNat : Nat) : Int) * 1117)) + ((((p + 1) - 1 : Nat) : Int) * 29)) (b := ((((p + 1) - 1 : Nat) : Int) / ((bs.length : Nat) : Int)) * 53) rfl rfl (by have h1_ := u8_bd (bs.getD ((p + 1 - 1) % bs.length) 0); have h2_ := u8_bd (bs.getD (((p + 1 - 1) * 7 + 3) % bs.length) 0); have h3_ := div_bd (p + 1 - 1) bs.length; exact ⟨by omega, by omega⟩)) ?_
       refine qq trivial rfl rfl (fun wq hsq => asg (v := I (((((((bs.getD (((p + 1) - 1) % bs.length) 0).toNat : Nat) : Int) * 131) + ((((bs.getD (((((p + 1) - 1) * 7) + 3) % bs.length) 0).toNat : Nat) : Int) * 1117)) + ((((p + 1) - 1 : Nat) : Int) * 29)) + (((((p + 1) - 1 : Nat) : Int) / ((bs.length : Nat) : Int)) * 53))) rfl) ?_
       refine qn (fun w2 hs2 => ?_)
       refine nN ?_
       refine sq ?_
       refine rg ?_
       refine q trivial rfl rfl (mv (v := I (((((((bs.getD (((p + 1) - 1) % bs.length) 0).toNat : Nat) : Int) * 131) + ((((bs.getD (((((p + 1) - 1) * 7) + 3) % bs.length) 0).toNat : Nat) : Int) * 1117)) + ((((p + 1) - 1 : Nat) : Int) * 29)) + (((((p + 1) - 1 : Nat) : Int) / ((bs.length : Nat) : Int)) * 53))) rfl) ?_
       refine q trivial rfl rfl (mv (v := I (((((((bs.getD (((p + 1) - 1) % bs.length) 0).toNat : Nat) : Int) * 131) + ((((bs.getD (((((p + 1) - 1) * 7) + 3) % bs.length) 0).toNat : Nat) : Int) * 1117)) + ((((p + 1) - 1 : Nat) : Int) * 29)) + (((((p + 1) - 1 : Nat) : Int) / ((bs.length : Nat) : Int)) * 53))) rfl) ?_
       refine q trivial rfl rfl (quo (a := ((((((bs.getD (((p + 1) - 1) % bs.length) 0).toNat : Nat) : Int) * 131) + ((((bs.getD (((((p + 1) - 1) * 7) + 3) % bs.length) 0).toNat : Nat) : Int) * 1117)) + ((((p + 1) - 1 : Nat) : Int) * 29)) + (((((p + 1) - 1 : Nat) : Int) / ((bs.length : Nat) : Int)) * 53)) (b := 64) rfl rfl (by have h1_ := u8_bd (bs.getD ((p + 1 - 1) % bs.length) 0); have h2_ := u8_bd (bs.getD (((p + 1 - 1) * 7 + 3) % bs.length) 0); have h3_ := div_bd (p + 1 - 1) bs.length; omega) (by have h1_ := u8_bd (bs.getD ((p + 1 - 1) % bs.length) 0); have h2_ := u8_bd (bs.getD (((p + 1 - 1) * 7 + 3) % bs.length) 0); have h3_ := div_bd (p + 1 - 1) bs.length; omega) (by have h1_ := u8_bd (bs.getD ((p + 1 - 1) % bs.length) 0); have h2_ := u8_bd (bs.getD (((p + 1 - 1) * 7 + 3) % bs.length) 0); have h3_ := div_bd (p + 1 - 1) bs.length; omega)) ?_
       refine q trivial rfl rfl (xr (a := (((((bs.getD (((p + 1) - 1) % bs.length) 0).toNat) * 131) + (((bs.getD (((((p + 1) - 1) * 7) + 3) % bs.length) 0).toNat) * 1117)) + (((p + 1) - 1) * 29)) + ((((p + 1) - 1) / bs.length) * 53)) (b := ((((((bs.getD (((p + 1) - 1) % bs.length) 0).toNat) * 131) + (((bs.getD (((((p + 1) - 1) * 7) + 3) % bs.length) 0).toNat) * 1117)) + (((p + 1) - 1) * 29)) + ((((p + 1) - 1) / bs.length) * 53)) / 64) rfl rfl (by have h1_ := u8_bd (bs.getD ((p + 1 - 1) % bs.length) 0); have h2_ := u8_bd (bs.getD (((p + 1 - 1) * 7 + 3) % bs.length) 0); have h3_ := div_bd (p + 1 - 1) bs.length; omega) (by have h1_ := u8_bd (bs.getD ((p + 1 - 1) % bs.length) 0); have h2_ := u8_bd (bs.getD (((p + 1 - 1) * 7 + 3) % bs.length) 0); have h3_ := div_bd (p + 1 - 1) bs.length; omega)) ?_
       refine q trivial rfl rfl (asg (v := I ((((((((bs.getD (((p + 1) - 1) % bs.length) 0).toNat) * 131) + (((bs.getD (((((p + 1) - 1) * 7) + 3) % bs.length) 0).toNat) * 1117)) + (((p + 1) - 1) * 29)) + ((((p + 1) - 1) / bs.length) * 53)) ^^^ (((((((bs.getD (((p + 1) - 1) % bs.length) 0).toNat) * 131) + (((bs.getD (((((p + 1) - 1) * 7) + 3) % bs.length) 0).toNat) * 1117)) + (((p + 1) - 1) * 29)) + ((((p + 1) - 1) / bs.length) * 53)) / 64) : Nat) : Int)) rfl) ?_
       refine nl ?_
       refine nN ?_
       refine sq ?_
       refine rg ?_
       refine q trivial rfl rfl (mv (v := I ((((((((bs.getD (((p + 1) - 1) % bs.length) 0).toNat) * 131) + (((bs.getD (((((p + 1) - 1) * 7) + 3) % bs.length) 0).toNat) * 1117)) + (((p + 1) - 1) * 29)) + ((((p + 1) - 1) / bs.length) * 53)) ^^^ (((((((bs.getD (((p + 1) - 1) % bs.length) 0).toNat) * 131) + (((bs.getD (((((p + 1) - 1) * 7) + 3) % bs.length) 0).toNat) * 1117)) + (((p + 1) - 1) * 29)) + ((((p + 1) - 1) / bs.length) * 53)) / 64) : Nat) : Int)) rfl) ?_
       refine q trivial rfl rfl (mv (v := I n) rfl) ?_
       refine q trivial rfl rfl (rem (a := ((((((((bs.getD (((p + 1) - 1) % bs.length) 0).toNat) * 131) + (((bs.getD (((((p + 1) - 1) * 7) + 3) % bs.length) 0).toNat) * 1117)) + (((p + 1) - 1) * 29)) + ((((p + 1) - 1) / bs.length) * 53)) ^^^ (((((((bs.getD (((p + 1) - 1) % bs.length) 0).toNat) * 131) + (((bs.getD (((((p + 1) - 1) * 7) + 3) % bs.length) 0).toNat) * 1117)) + (((p + 1) - 1) * 29)) + ((((p + 1) - 1) / bs.length) * 53)) / 64) : Nat) : Int)) (b := n) rfl rfl (by have h1_ := u8_bd (bs.getD ((p + 1 - 1) % bs.length) 0); have h2_ := u8_bd (bs.getD (((p + 1 - 1) * 7 + 3) % bs.length) 0); have h3_ := div_bd (p + 1 - 1) bs.length; omega) (by omega)) ?_
       refine q trivial rfl rfl (asg (v := I (((((((((bs.getD (((p + 1) - 1) % bs.length) 0).toNat) * 131) + (((bs.getD (((((p + 1) - 1) * 7) + 3) % bs.length) 0).toNat) * 1117)) + (((p + 1) - 1) * 29)) + ((((p + 1) - 1) / bs.length) * 53)) ^^^ (((((((bs.getD (((p + 1) - 1) % bs.length) 0).toNat) * 131) + (((bs.getD (((((p + 1) - 1) * 7) + 3) % bs.length) 0).toNat) * 1117)) + (((p + 1) - 1) * 29)) + ((((p + 1) - 1) / bs.length) * 53)) / 64) : Nat) : Int) % n)) rfl) ?_
       refine nl ?_
       refine nN ?_
       refine rt ?_
       refine fret (v := I (((((((((bs.getD (((p + 1) - 1) % bs.length) 0).toNat) * 131) + (((bs.getD (((((p + 1) - 1) * 7) + 3) % bs.length) 0).toNat) * 1117)) + (((p + 1) - 1) * 29)) + ((((p + 1) - 1) / bs.length) * 53)) ^^^ (((((((bs.getD (((p + 1) - 1) % bs.length) 0).toNat) * 131) + (((bs.getD (((((p + 1) - 1) * 7) + 3) % bs.length) 0).toNat) * 1117)) + (((p + 1) - 1) * 29)) + ((((p + 1) - 1) / bs.length) * 53)) / 64) : Nat) : Int) % n)) (.tmp .nil) rfl ?_
       exact ⟨((((((((bs.getD (((p + 1) - 1) % bs.length) 0).toNat) * 131) + (((bs.getD (((((p + 1) - 1) * 7) + 3) % bs.length) 0).toNat) * 1117)) + (((p + 1) - 1) * 29)) + ((((p + 1) - 1) / bs.length) * 53)) ^^^ (((((((bs.getD (((p + 1) - 1) % bs.length) 0).toNat) * 131) + (((bs.getD (((((p + 1) - 1) * 7) + 3) % bs.length) 0).toNat) * 1117)) + (((p + 1) - 1) * 29)) + ((((p + 1) - 1) / bs.length) * 53)) / 64) : Nat) : Int) % n, p + 1, rfl, (mod_pos (by omega)), (by omega), hs2⟩

theorem l6Open {Acs : Option Addr} {ccs : Nat} (cs : List UInt8) (w : World) (hcs : Sl w [] 1 Acs cs.length ccs (cs.map U)) : Does Try.prog 21 [.slice Acs cs.length ccs] w (fun v w' => ∃ gr : Nat, v = .pointer (some ⟨gr, 0, none⟩) ∧ SH w w' [] [.blk gr 47 [.slice Acs ((cs.take 2000).length) ccs, I 0]]) := by
 refine fn_enter (N := 11) Try.func21 rfl (by kernel_rfl) rfl rfl rfl ?_
 have hs0 : SH w w [] [] := SH.refl w []
 have hcs_m : cs.length ≤ 9223372036854775807 := Nat.le_trans hcs.cap hcs.capMax
 refine sq ?_
 refine rg ?_
 refine q trivial rfl rfl (asg (v := .pointer none) rfl) ?_
 refine nl ?_
 refine nN ?_
 refine sq ?_
 refine sq ?_
 refine rg ?_
 refine q trivial rfl rfl (mv (v := .slice Acs cs.length ccs) rfl) ?_
 refine q trivial rfl rfl (lnA (n := cs.length) sl31 rfl) ?_
 refine q trivial rfl rfl (gtr (k := .i64) (a := ((cs.length : Nat) : Int)) (b := 2000) rfl rfl) ?_
 refine nl ?_
 refine nN ?_
 refine cdd (p := (2000 : Int) < ((cs.length : Nat) : Int)) rfl (fun h1 => ?_) (fun h1 => ?_)
 · refine rg ?_
   refine q trivial rfl rfl (mv (v := .slice Acs cs.length ccs) rfl) ?_
   refine q trivial rfl rfl (cuhm_ (zs := cs) 2000 sl31 rfl rfl (by first | omega | (simp; done) | (simp; omega)) hcs.cap) ?_
   refine q trivial rfl rfl (asg (v := .slice Acs ((cs.take 2000).length) ccs) rfl) ?_
   refine nl ?_
   refine nN ?_
   refine sq ?_
   refine rg ?_
   refine q trivial rfl rfl (mv (v := .slice Acs ((cs.take 2000).length) ccs) rfl) ?_
   refine q trivial rfl rfl (bdv (v := .agg #[.slice Acs ((cs.take 2000).length) ccs, I 0]) [(0, .slice Acs ((cs.take 2000).length) ccs)] rfl (fun _ => by kernel_rfl)) ?_
   refine bx (v := .agg #[.slice Acs ((cs.take 2000).length) ccs, I 0]) (cs := [.slice Acs ((cs.take 2000).length) ccs, I 0]) hs0 rfl rfl trivial rfl (fun b1 w1 (hs1 : SH w w1 [] [.blk b1 47 [.slice Acs ((cs.take 2000).length) ccs, I 0]]) => ?_)
   refine q trivial rfl rfl (asg (v := pB b1) rfl) ?_
   refine nl ?_
   refine nN ?_
   refine rt ?_
   refine fret (v := pB b1) (.tmp .nil) rfl ?_
   exact ⟨b1, rfl, hs1⟩
 · refine sk ?_
   refine nN ?_
   refine sq ?_
   refine rg ?_
   refine q trivial rfl rfl (mv (v := .slice Acs cs.length ccs) rfl) ?_
   refine q trivial rfl rfl (bdv (v := .agg #[.slice Acs cs.length ccs, I 0]) [(0, .slice Acs cs.length ccs)] rfl (fun _ => by kernel_rfl)) ?_
   refine bx (v := .agg #[.slice Acs cs.length ccs, I 0]) (cs := [.slice Acs cs.length ccs, I 0]) hs0 rfl rfl trivial rfl (fun b2 w2 (hs2 : SH w w2 [] [.blk b2 47 [.slice Acs cs.length ccs, I 0]]) => ?_)
   refine q trivial rfl rfl (asg (v := pB b2) rfl) ?_
   refine nl ?_
   refine nN ?_
   refine rt ?_
   refine fret (v := pB b2) (.tmp .nil) rfl ?_
   have e1 : cs.length = (cs.take 2000).length := by rw [List.take_of_length_le (by omega)]
   exact ⟨b2, rfl, (hs2.cast (lc (congrArg (It.blk b2 47) (lc (slv rfl e1 rfl) (lc rfl rfl))) rfl))⟩

theorem rdOf {rb : Nat} {Ab : Option Addr} {cb : Nat} {bs : List UInt8} {p : Nat} {Ass : Option Addr} {css : Nat} (ss : List (List UInt8)) (w : World) (hr : w.heap[rb]? = some (.cells [.slice Ab bs.length cb, .int .i64 ((p : Nat) : Int)].toArray 47 (0, 0))) (hb : Sl w [rb] 1 Ab bs.length cb (bs.map U)) (hbn : bs.length ≤ 2000) (hp : p ≤ 549755813888) (hss : Sl w [rb] 1 Ass ss.length css (ss.map Str)) (hne : 0 < ss.length) : Does Try.prog 67 [pB rb, .slice Ass ss.length css] w (fun v w' => ∃ s : List UInt8, ∃ q : Nat, v = Str s ∧ (s ∈ ss) ∧ (q ≤ p + 1) ∧ SH w w' [rb] [.blk rb 47 [.slice Ab bs.length cb, I ((q : Nat) : Int)]]) := by
 refine fn_enter (N := 12) Try.func67 rfl (by kernel_rfl) rfl rfl rfl ?_
 have hs0 : SH w w [rb] [.blk rb 47 [.slice Ab bs.length cb, I ((p : Nat) : Int)]] := SH.entry1 hr
 have hss_m : ss.length ≤ 9223372036854775807 := Nat.le_trans hss.cap hss.capMax
 refine sq ?_
 refine rg ?_
 refine q trivial rfl rfl (asg (v := Str []) rfl) ?_
 refine nl ?_
 refine nN ?_
 refine sq ?_
 refine rg ?_
 refine q trivial rfl rfl (mv (v := .slice Ass ss.length css) rfl) ?_
 refine q trivial rfl rfl (mv (v := pB rb) rfl) ?_
 refine q trivial rfl rfl (mv (v := .slice Ass ss.length css) rfl) ?_
 refine q trivial rfl rfl (lnA (n := ss.length) sl81 rfl) ?_
 refine cl trivial rfl (pick (rb := rb) (Ab := Ab) (cb := cb) (bs := bs) (p := p) (n := ((ss.length : Nat) : Int)) (w := _) (hr := (blk_heap hs0 0 rfl)) (hb := (hb.up hs0 (fun _ h => h) (fun _ h => .inl h))) (hbn := (by first | assumption | (simp; omega))) (hp := (by omega))) ?_
 rintro _ w1 ⟨r1, q1, rfl, p1, p2, hs1'⟩
 have hs1 : SH w w1 [rb] [.blk rb 47 [.slice Ab bs.length cb, I ((q1 : Nat) : Int)]] := hs0.callM 0 rfl hs1' (by intro k hk; simp at hk; exact hk.symm)
 clear hs1'
 refine ixw1 r1.toNat sl81 rfl (ieq (x := r1) (by omega)) hss (by first | omega | (simp; done) | (simp; omega)) (getm Str [] (by first | omega | (simp; done) | (simp; omega))) trivial rfl (fun a1 ha1 => ?_)
 refine q trivial rfl rfl (lda (v := Str (ss.getD r1.toNat [])) hs1 ha1 (fun _ h => h) rfl rfl one9) ?_
 refine q trivial rfl rfl (asg (v := Str (ss.getD r1.toNat [])) rfl) ?_
 refine nl ?_
 refine nN ?_
 refine rt ?_
 refine fret (v := Str (ss.getD r1.toNat [])) (.tmp .nil) rfl ?_
 exact ⟨ss.getD r1.toNat [], q1, rfl, (getD_mem (by omega)), (by omega), hs1⟩

theorem l91Bytes {rb : Nat} {Ab : Option Addr} {cb : Nat} {bs : List UInt8} {p : Nat} (n : Int) (w : World) (hr : w.heap[rb]? = some (.cells [.slice Ab bs.length cb, .int .i64 ((p : Nat) : Int)].toArray 47 (0, 0))) (hb : Sl w [rb] 1 Ab bs.length cb (bs.map U)) (hbn : bs.length ≤ 2000) (hp : p ≤ 549755813888) (hn : 0 ≤ n ∧ n ≤ 100000) : Does Try.prog 33 [pB rb, I n] w (fun v w' => ∃ Ar : Option Addr, ∃ cr : Nat, ∃ r : List Int, ∃ q : Nat, v = .slice Ar r.length cr ∧ (((r.length : Nat) : Int) ≤ n) ∧ (q ≤ p + 5 + 4 * n.toNat) ∧ SH w w' [rb] [.blk rb 47 [.slice Ab bs.length cb, I ((q : Nat) : Int)], .own Ar r.length cr 3 1 (r.map I)]) := by
 refine fn_enter (N := 48) Try.func33 rfl (by kernel_rfl) rfl rfl rfl ?_
 have hs0 : SH w w [rb] [.blk rb 47 [.slice Ab bs.length cb, I ((p : Nat) : Int)]] := SH.entry1 hr
 refine sq ?_
 refine rg ?_
 refine q trivial rfl rfl (asg (v := ns) rfl) ?_
 refine nl ?_
 refine nN ?_
 refine sq ?_
 refine rg ?_
 refine bsk hs0 sl24 [] [] trivial rfl (fun b1 w1 (hs1 : SH w w1 [rb] [.blk rb 47 [.slice Ab bs.length cb, I ((p : Nat) : Int)], oI b1 ([] : List Int) 0 3]) => ?_)
 refine q trivial rfl rfl (asg (v := sb b1 (([] : List Int).length) 0) rfl) ?_
 refine nl ?_
 refine nN ?_
 refine sq ?_
 refine rg ?_
 refine q trivial rfl rfl (mv (v := pB rb) rfl) ?_
 refine q trivial rfl rfl (mv (v := I n) rfl) ?_
 refine q trivial rfl rfl (add (a := n) (b := 1) rfl rfl (by exact ⟨by omega, by omega⟩)) ?_
 refine cl trivial rfl (pick (rb := rb) (Ab := Ab) (cb := cb) (bs := bs) (p := p) (n := n + 1) (w := _) (hr := (blk_heap hs1 0 rfl)) (hb := (hb.up hs1 (fun _ h => h) (fun _ h => .inl h))) (hbn := (by first | assumption | (simp; omega))) (hp := (by omega))) ?_
 rintro _ w2 ⟨r1, q1, rfl, p1, p2, hs2'⟩
 have hs2 : SH w w2 [rb] [oI b1 ([] : List Int) 0 3, .blk rb 47 [.slice Ab bs.length cb, I ((q1 : Nat) : Int)]] := hs1.callM 0 rfl hs2' (by intro k hk; simp at hk; exact hk.symm)
 clear hs2'
 refine q trivial rfl rfl (asg (v := I r1) rfl) ?_
 refine nl ?_
 refine nN ?_
 refine sq ?_
 refine sq ?_
 refine rg ?_
 refine q trivial rfl rfl (asg (v := I 0) rfl) ?_
 refine nl ?_
 refine nN ?_
 refine bl ?_
 refine lp (σ := (Option Addr) × Nat × Nat × Nat × (List Int)) (fun ⟨Ag5, cg5, q0, k, zs⟩ f w' => Has f [(0, pB rb), (5, .slice Ag5 zs.length cg5), (6, I r1), (7, I ((k : Nat) : Int))] ∧ (((k : Nat) : Int) ≤ r1) ∧ (zs.length = k) ∧ (q0 ≤ p + 1 + 3 * k) ∧ SH w w' [rb] [.own Ag5 zs.length cg5 3 1 (zs.map I), .blk rb 47 [.slice Ab bs.length cb, I ((q0 : Nat) : Int)]]) (fun ⟨Ag5, cg5, q0, k, zs⟩ => (r1 - k).toNat) ((some ⟨b1, 0, none⟩), 0, q1, 0, ([] : List Int)) ⟨⟨rfl, rfl, rfl, rfl, trivial⟩, (by omega), (rfl), (by omega), hs2⟩ ?_
 rintro ⟨Ag5, cg5, q0, k, zs⟩ f w3 ⟨hf, hk, hz, hq, hs3⟩
 obtain ⟨g1, rfl⟩ := has_upd hf
 clear hf
 refine sq ?_
 refine sq ?_
 refine rg ?_
 refine q trivial rfl rfl (mv (v := I ((k : Nat) : Int)) rfl) ?_
 refine q trivial rfl rfl (mv (v := I r1) rfl) ?_
 refine q trivial rfl rfl (lss (k := .i64) (a := ((k : Nat) : Int)) (b := r1) rfl rfl) ?_
 refine nl ?_
 refine nN ?_
 refine cdd (p := ((k : Nat) : Int) < r1) rfl (fun h1 => ?_) (fun h1 => ?_)
 · refine sk ?_
   refine nN ?_
   refine sq ?_
   refine bl ?_
   refine rg ?_
   refine q trivial rfl rfl (mv (v := .slice Ag5 zs.length cg5) rfl) ?_
   refine q trivial rfl rfl (mv (v := pB rb) rfl) ?_
   refine cl trivial rfl (pick (rb := rb) (Ab := Ab) (cb := cb) (bs := bs) (p := q0) (n := 6) (w := _) (hr := (blk_heap hs3 1 rfl)) (hb := (hb.up hs3 (fun _ h => h) (fun _ h => .inl h))) (hbn := (by first | assumption | (simp; omega))) (hp := (by omega))) ?_
   rintro _ w4 ⟨r2, q2, rfl, p3, p4, hs4'⟩
   have hs4 : SH w w4 [rb] [.own Ag5 zs.length cg5 3 1 (zs.map I), .blk rb 47 [.slice Ab bs.length cb, I ((q2 : Nat) : Int)]] := hs3.callM 1 rfl hs4' (by intro k hk; simp at hk; exact hk.symm)
   clear hs4'
   refine q trivial rfl rfl (mv (v := pB rb) rfl) ?_
   refine cl trivial rfl (pick (rb := rb) (Ab := Ab) (cb := cb) (bs := bs) (p := q2) (n := 256) (w := _) (hr := (blk_heap hs4 1 rfl)) (hb := (hb.up hs4 (fun _ h => h) (fun _ h => .inl h))) (hbn := (by first | assumption | (simp; omega))) (hp := (by omega))) ?_
   rintro _ w5 ⟨r3, q3, rfl, p5, p6, hs5'⟩
   have hs5 : SH w w5 [rb] [.own Ag5 zs.length cg5 3 1 (zs.map I), .blk rb 47 [.slice Ab bs.length cb, I ((q3 : Nat) : Int)]] := hs4.callM 1 rfl hs5' (by intro k hk; simp at hk; exact hk.symm)
   clear hs5'
   refine bsk hs5 sl24 [I r2, I r3] [I r2, I r3] trivial rfl (fun b2 w6 (hs6 : SH w w6 [rb] [.own Ag5 zs.length cg5 3 1 (zs.map I), .blk rb 47 [.slice Ab bs.length cb, I ((q3 : Nat) : Int)], oI b2 ([r2, r3] : List Int) 2 3]) => ?_)
   refine q trivial rfl rfl (mv (v := pB rb) rfl) ?_
   refine cl trivial rfl (pick (rb := rb) (Ab := Ab) (cb := cb) (bs := bs) (p := q3) (n := 2) (w := _) (hr := (blk_heap hs6 1 rfl)) (hb := (hb.up hs6 (fun _ h => h) (fun _ h => .inl h))) (hbn := (by first | assumption | (simp; omega))) (hp := (by omega))) ?_
   rintro _ w7 ⟨r4, q4, rfl, p7, p8, hs7'⟩
   have hs7 : SH w w7 [rb] [.own Ag5 zs.length cg5 3 1 (zs.map I), oI b2 ([r2, r3] : List Int) 2 3, .blk rb 47 [.slice Ab bs.length cb, I ((q4 : Nat) : Int)]] := hs6.callM 1 rfl hs7' (by intro k hk; simp at hk; exact hk.symm)
   clear hs7'
   refine q trivial rfl rfl (ixo r4.toNat sl24 rfl (ieq (x := r4) (by omega)) (by first | omega | (simp; done) | (simp; omega))) ?_
   refine q trivial rfl rfl (ldo1n (g := I) (ys := ([r2, r3] : List Int)) (o := r4.toNat) 0 hs7 1 rfl rfl (by first | omega | (simp; done) | (simp; omega)) one3) ?_
   refine bsk hs7 sl24 [I (([r2, r3] : List Int).getD r4.toNat 0)] [I (([r2, r3] : List Int).getD r4.toNat 0)] trivial rfl (fun b3 w8 (hs8 : SH w w8 [rb] [.own Ag5 zs.length cg5 3 1 (zs.map I), oI b2 ([r2, r3] : List Int) 2 3, .blk rb 47 [.slice Ab bs.length cb, I ((q4 : Nat) : Int)], oI b3 ([([r2, r3] : List Int).getD r4.toNat 0] : List Int) 1 3]) => ?_)
   refine apm (g := I) (ys := zs) (zs := ([([r2, r3] : List Int).getD r4.toNat 0] : List Int)) hs8 0 rfl sl24 rfl rfl rfl (hs8.sl0 3 rfl) (fun _ => rfl) (by unfold maxLen; first | omega | (simp; done) | (simp; omega)) (by first | omega | (simp; done) | (simp; omega)) trivial rfl (fun A1 c1 w9 (hs9 : SH w w9 [rb] [oI b2 ([r2, r3] : List Int) 2 3, .blk rb 47 [.slice Ab bs.length cb, I ((q4 : Nat) : Int)], oI b3 ([([r2, r3] : List Int).getD r4.toNat 0] : List Int) 1 3, .own A1 ((zs ++ ([([r2, r3] : List Int).getD r4.toNat 0] : List Int)).length) c1 3 1 ((zs ++ ([([r2, r3] : List Int).getD r4.toNat 0] : List Int)).map I)]) => ?_)
   refine q trivial rfl rfl (asg (v := .slice A1 ((zs ++ ([([r2, r3] : List Int).getD r4.toNat 0] : List Int)).length) c1) rfl) ?_
   refine nl ?_
   refine bN ?_
   refine nN ?_
   have hs10 : SH w w9 [rb] [.blk rb 47 [.slice Ab bs.length cb, I ((q4 : Nat) : Int)], .own A1 ((zs ++ ([([r2, r3] : List Int).getD r4.toNat 0] : List Int)).length) c1 3 1 ((zs ++ ([([r2, r3] : List Int).getD r4.toNat 0] : List Int)).map I)] := hs9.pick [1, 3] rfl (by decide)
   refine rg ?_
   refine q trivial rfl rfl (mv (v := I ((k : Nat) : Int)) rfl) ?_
   refine q trivial rfl rfl (add (a := ((k : Nat) : Int)) (b := 1) rfl rfl (by exact ⟨by omega, by omega⟩)) ?_
   refine q trivial rfl rfl (asg (v := I (((k : Nat) : Int) + 1)) rfl) ?_
   refine nl ?_
   refine nN ?_
   refine ⟨(A1, c1, q4, k + 1, (zs ++ ([([r2, r3] : List Int).getD r4.toNat 0] : List Int))), ⟨⟨rfl, rfl, rfl, rfl, trivial⟩, (by omega), (by simp; omega), (by omega), (hs10.pick [1, 0] rfl (by decide))⟩, ?_⟩
   show (r1 - (k + 1)).toNat < (r1 - k).toNat
   omega
 · refine ex (tE (tE (bE ?_)))
   refine nN ?_
   refine sq ?_
   refine sq ?_
   refine rg ?_
   refine q trivial rfl rfl (mv (v := I r1) rfl) ?_
   refine q trivial rfl rfl (gtr (k := .i64) (a := r1) (b := 0) rfl rfl) ?_
   refine q trivial rfl rfl (mv (v := .bool (decide ((0 : Int) < r1))) rfl) ?_
   refine spd (p := (0 : Int) < r1) 32 rfl (fun h2 => ?_) (fun h2 => ?_)
   · refine q ⟨_, rfl, rfl⟩ rfl rfl (mv (v := pB rb) rfl) ?_
     refine cl ⟨_, rfl, rfl⟩ rfl (pick (rb := rb) (Ab := Ab) (cb := cb) (bs := bs) (p := q0) (n := 50) (w := _) (hr := (blk_heap hs3 1 rfl)) (hb := (hb.up hs3 (fun _ h => h) (fun _ h => .inl h))) (hbn := (by first | assumption | (simp; omega))) (hp := (by omega))) ?_
     rintro _ w10 ⟨r5, q5, rfl, p9, p10, hs11'⟩
     have hs11 : SH w w10 [rb] [.own Ag5 zs.length cg5 3 1 (zs.map I), .blk rb 47 [.slice Ab bs.length cb, I ((q5 : Nat) : Int)]] := hs3.callM 1 rfl hs11' (by intro k hk; simp at hk; exact hk.symm)
     clear hs11'
     refine q ⟨_, rfl, rfl⟩ rfl rfl (eqi (k := .i64) (a := r5) (b := 0) rfl rfl) ?_
     refine q trivial rfl rfl (pt (v := .bool (decide (r5 = 0))) rfl rfl) ?_
     refine nl ?_
     refine nN ?_
     refine cdd (p := r5 = 0) rfl (fun h3 => ?_) (fun h3 => ?_)
     · refine rg ?_
       refine q trivial rfl rfl (mv (v := .slice Ag5 zs.length cg5) rfl) ?_
       refine q trivial rfl rfl (mv (v := pB rb) rfl) ?_
       refine q trivial rfl rfl (mv (v := I r1) rfl) ?_
       refine cl trivial rfl (pick (rb := rb) (Ab := Ab) (cb := cb) (bs := bs) (p := q5) (n := r1) (w := _) (hr := (blk_heap hs11 1 rfl)) (hb := (hb.up hs11 (fun _ h => h) (fun _ h => .inl h))) (hbn := (by first | assumption | (simp; omega))) (hp := (by omega))) ?_
       rintro _ w11 ⟨r6, q6, rfl, p11, p12, hs12'⟩
       have hs12 : SH w w11 [rb] [.own Ag5 zs.length cg5 3 1 (zs.map I), .blk rb 47 [.slice Ab bs.length cb, I ((q6 : Nat) : Int)]] := hs11.callM 1 rfl hs12' (by intro k hk; simp at hk; exact hk.symm)
       clear hs12'
       refine bsk hs12 sl24 [I (-1), I 256] [I (-1), I 256] trivial rfl (fun b4 w12 (hs13 : SH w w12 [rb] [.own Ag5 zs.length cg5 3 1 (zs.map I), .blk rb 47 [.slice Ab bs.length cb, I ((q6 : Nat) : Int)], oI b4 ([(-1), 256] : List Int) 2 3]) => ?_)
       refine q trivial rfl rfl (mv (v := pB rb) rfl) ?_
       refine cl trivial rfl (pick (rb := rb) (Ab := Ab) (cb := cb) (bs := bs) (p := q6) (n := 2) (w := _) (hr := (blk_heap hs13 1 rfl)) (hb := (hb.up hs13 (fun _ h => h) (fun _ h => .inl h))) (hbn := (by first | assumption | (simp; omega))) (hp := (by omega))) ?_
       rintro _ w13 ⟨r7, q7, rfl, p13, p14, hs14'⟩
       have hs14 : SH w w13 [rb] [.own Ag5 zs.length cg5 3 1 (zs.map I), oI b4 ([(-1), 256] : List Int) 2 3, .blk rb 47 [.slice Ab bs.length cb, I ((q7 : Nat) : Int)]] := hs13.callM 1 rfl hs14' (by intro k hk; simp at hk; exact hk.symm)
       clear hs14'
       refine q trivial rfl rfl (ixo r7.toNat sl24 rfl (ieq (x := r7) (by omega)) (by first | omega | (simp; done) | (simp; omega))) ?_
       refine q trivial rfl rfl (ldo1n (g := I) (ys := ([(-1), 256] : List Int)) (o := r7.toNat) 0 hs14 1 rfl rfl (by first | omega | (simp; done) | (simp; omega)) one3) ?_
       obtain ⟨b5, rfl⟩ := own_form hs14 0 rfl (by first | omega | (simp; done) | (simp; omega))
       refine q trivial rfl rfl (ixo r6.toNat sl24 rfl (ieq (x := r6) (by omega)) (by first | omega | (simp; done) | (simp; omega))) ?_
       refine stomn (g := I) (ys := zs) (o := r6.toNat) (u := ([(-1), 256] : List Int).getD r7.toNat 0) hs14 0 rfl rfl rfl rfl (by first | omega | (simp; done) | (simp; omega)) rfl one3 trivial (fun w14 (hs15 : SH w w14 [rb] [oI b4 ([(-1), 256] : List Int) 2 3, .blk rb 47 [.slice Ab bs.length cb, I ((q7 : Nat) : Int)], .own (some ⟨b5, 0, none⟩) zs.length cg5 3 1 ((zs.set r6.toNat (([(-1), 256] : List Int).getD r7.toNat 0)).map I)]) => ?_)
       refine nl ?_
       refine nN ?_
       refine sq ?_
       refine rg ?_
       refine q trivial rfl rfl (mv (v := sb b5 zs.length cg5) rfl) ?_
       refine q trivial rfl rfl (asg (v := sb b5 zs.length cg5) rfl) ?_
       refine nl ?_
       refine nN ?_
       refine rt ?_
       refine fret (v := sb b5 zs.length cg5) (.tmp .nil) rfl ?_
       have e1 : zs.length = (zs.set r6.toNat (([(-1), 256] : List Int).getD r7.toNat 0)).length := by first | rfl | (simp; done) | (simp; omega) | omega
       exact ⟨(some ⟨b5, 0, none⟩), cg5, zs.set r6.toNat (([(-1), 256] : List Int).getD r7.toNat 0), q7, (slv rfl e1 rfl), (by (try simp); omega), (by omega), ((hs15.pick [1, 2] rfl (by decide)).cast (lc rfl (lc (own_eq (g := I) rfl e1 rfl rfl) rfl)))⟩
     · refine sk ?_
       refine nN ?_
       refine sq ?_
       refine rg ?_
       refine q trivial rfl rfl (mv (v := .slice Ag5 zs.length cg5) rfl) ?_
       refine q trivial rfl rfl (asg (v := .slice Ag5 zs.length cg5) rfl) ?_
       refine nl ?_
       refine nN ?_
       refine rt ?_
       refine fret (v := .slice Ag5 zs.length cg5) (.tmp .nil) rfl ?_
       exact ⟨Ag5, cg5, zs, q5, rfl, (by (try simp); omega), (by omega), (hs11.pick [1, 0] rfl (by decide))⟩
   · refine gk false rfl rfl rfl rfl rfl ?_
     refine gk false rfl rfl rfl rfl rfl ?_
     refine gk false rfl rfl rfl rfl rfl ?_
     refine q trivial rfl rfl (pf (v := .bool false) rfl rfl) ?_
     refine nl ?_
     refine nN ?_
     refine cdf rfl ?_
     refine sk ?_
     refine nN ?_
     refine sq ?_
     refine rg ?_
     refine q trivial rfl rfl (mv (v := .slice Ag5 zs.length cg5) rfl) ?_
     refine q trivial rfl rfl (asg (v := .slice Ag5 zs.length cg5) rfl) ?_
     refine nl ?_
     refine nN ?_
     refine rt ?_
     refine fret (v := .slice Ag5 zs.length cg5) (.tmp .nil) rfl ?_
     exact ⟨Ag5, cg5, zs, q0, rfl, (by (try simp); omega), (by omega), (hs3.pick [1, 0] rfl (by decide))⟩

theorem sLetter (c : UInt8) (w : World)  : Does Try.prog 74 [.int .u8 ((c.toNat : Nat) : Int)] w (fun v w' => v = .bool (letC c) ∧ SH w w' [] []) := by
 refine fn_enter (N := 21) Try.func74 rfl (by kernel_rfl) rfl rfl rfl ?_
 have hs0 : SH w w [] [] := SH.refl w []
 refine sq ?_
 refine rg ?_
 refine q trivial rfl rfl (asg (v := .bool false) rfl) ?_
 refine nl ?_
 refine nN ?_
 refine sq ?_
 refine rg ?_
 refine q trivial rfl rfl (mv (v := .int .u8 ((c.toNat : Nat) : Int)) rfl) ?_
 refine q trivial rfl rfl (geq (k := .u8) (a := ((c.toNat : Nat) : Int)) (b := 97) rfl rfl) ?_
 refine q trivial rfl rfl (mv (v := .bool (decide ((97 : Int) ≤ ((c.toNat : Nat) : Int)))) rfl) ?_
 refine spd (p := (97 : Int) ≤ ((c.toNat : Nat) : Int)) 5 rfl (fun h1 => ?_) (fun h1 => ?_)
 · refine q ⟨_, rfl, rfl⟩ rfl rfl (mv (v := .int .u8 ((c.toNat : Nat) : Int)) rfl) ?_
   refine q ⟨_, rfl, rfl⟩ rfl rfl (leq (k := .u8) (a := ((c.toNat : Nat) : Int)) (b := 122) rfl rfl) ?_
   refine q trivial rfl rfl (pt (v := .bool (decide (((c.toNat : Nat) : Int) ≤ 122))) rfl rfl) ?_
   refine q trivial rfl rfl (mv (v := .bool (decide (((c.toNat : Nat) : Int) ≤ 122))) rfl) ?_
   refine spd (p := ((c.toNat : Nat) : Int) ≤ 122) 9 rfl (fun h2 => ?_) (fun h2 => ?_)
   · refine gk true rfl rfl rfl rfl rfl ?_
     refine gk true rfl rfl rfl rfl rfl ?_
     refine gk true rfl rfl rfl rfl rfl ?_
     refine gku rfl rfl rfl rfl rfl ?_
     refine gku rfl rfl rfl rfl rfl ?_
     refine gk true rfl rfl rfl rfl rfl ?_
     refine q trivial rfl rfl (pt (v := .bool true) rfl rfl) ?_
     refine q trivial rfl rfl (mv (v := .bool true) rfl) ?_
     refine gk true rfl rfl rfl rfl rfl ?_
     refine gk true rfl rfl rfl rfl rfl ?_
     refine q trivial rfl rfl (pt (v := .bool true) rfl rfl) ?_
     refine q trivial rfl rfl (asg (v := .bool true) rfl) ?_
     refine nl ?_
     refine nN ?_
     refine rt ?_
     refine fret (v := .bool true) (.tmp .nil) rfl ?_
     have e1 : true = letC c := by simp only [letC]; first | (simp; omega) | simp [h1, h2]
     exact ⟨(congrArg (Value.bool) e1), hs0⟩
   · refine q ⟨_, rfl, rfl⟩ rfl rfl (mv (v := .int .u8 ((c.toNat : Nat) : Int)) rfl) ?_
     refine q ⟨_, rfl, rfl⟩ rfl rfl (geq (k := .u8) (a := ((c.toNat : Nat) : Int)) (b := 48) rfl rfl) ?_
     refine q ⟨_, rfl, rfl⟩ rfl rfl (mv (v := .bool (decide ((48 : Int) ≤ ((c.toNat : Nat) : Int)))) rfl) ?_
     refine spd (p := (48 : Int) ≤ ((c.toNat : Nat) : Int)) 12 rfl (fun h3 => ?_) (fun h3 => ?_)
     · refine q ⟨_, rfl, rfl⟩ rfl rfl (mv (v := .int .u8 ((c.toNat : Nat) : Int)) rfl) ?_
       refine q ⟨_, rfl, rfl⟩ rfl rfl (leq (k := .u8) (a := ((c.toNat : Nat) : Int)) (b := 57) rfl rfl) ?_
       refine q ⟨_, rfl, rfl⟩ rfl rfl (pt (v := .bool (decide (((c.toNat : Nat) : Int) ≤ 57))) rfl rfl) ?_
       refine q trivial rfl rfl (pf (v := .bool (decide (((c.toNat : Nat) : Int) ≤ 57))) rfl rfl) ?_
       refine q trivial rfl rfl (mv (v := .bool (decide (((c.toNat : Nat) : Int) ≤ 57))) rfl) ?_
       refine spd (p := ((c.toNat : Nat) : Int) ≤ 57) 17 rfl (fun h4 => ?_) (fun h4 => ?_)
       · refine gk true rfl rfl rfl rfl rfl ?_
         refine gk true rfl rfl rfl rfl rfl ?_
         refine q trivial rfl rfl (pt (v := .bool true) rfl rfl) ?_
         refine q trivial rfl rfl (asg (v := .bool true) rfl) ?_
         refine nl ?_
         refine nN ?_
         refine rt ?_
         refine fret (v := .bool true) (.tmp .nil) rfl ?_
         have e2 : true = letC c := by simp only [letC]; first | (simp; omega) | simp [h1, h2, h3, h4]
         exact ⟨(congrArg (Value.bool) e2), hs0⟩
       · refine q ⟨_, rfl, rfl⟩ rfl rfl (mv (v := .int .u8 ((c.toNat : Nat) : Int)) rfl) ?_
         refine q ⟨_, rfl, rfl⟩ rfl rfl (eqi (k := .u8) (a := ((c.toNat : Nat) : Int)) (b := 45) rfl rfl) ?_
         refine q trivial rfl rfl (pf (v := .bool (decide (((c.toNat : Nat) : Int) = 45))) rfl rfl) ?_
         refine q trivial rfl rfl (asg (v := .bool (decide (((c.toNat : Nat) : Int) = 45))) rfl) ?_
         refine nl ?_
         refine nN ?_
         refine rt ?_
         refine fret (v := .bool (decide (((c.toNat : Nat) : Int) = 45))) (.tmp .nil) rfl ?_
         have e3 : (decide (((c.toNat : Nat) : Int) = 45)) = letC c := by simp only [letC]; first | (simp; omega) | simp [h1, h2, h3, h4]
         exact ⟨(congrArg (Value.bool) e3), hs0⟩
     · refine gk false rfl rfl rfl rfl rfl ?_
       refine gk false rfl rfl rfl rfl rfl ?_
       refine q ⟨_, rfl, rfl⟩ rfl rfl (pf (v := .bool false) rfl rfl) ?_
       refine q trivial rfl rfl (pf (v := .bool false) rfl rfl) ?_
       refine q trivial rfl rfl (mv (v := .bool false) rfl) ?_
       refine q ⟨_, rfl, rfl⟩ rfl rfl (mv (v := .int .u8 ((c.toNat : Nat) : Int)) rfl) ?_
       refine q ⟨_, rfl, rfl⟩ rfl rfl (eqi (k := .u8) (a := ((c.toNat : Nat) : Int)) (b := 45) rfl rfl) ?_
       refine q trivial rfl rfl (pf (v := .bool (decide (((c.toNat : Nat) : Int) = 45))) rfl rfl) ?_
       refine q trivial rfl rfl (asg (v := .bool (decide (((c.toNat : Nat) : Int) = 45))) rfl) ?_
       refine nl ?_
       refine nN ?_
       refine rt ?_
       refine fret (v := .bool (decide (((c.toNat : Nat) : Int) = 45))) (.tmp .nil) rfl ?_
       have e4 : (decide (((c.toNat : Nat) : Int) = 45)) = letC c := by simp only [letC]; first | (simp; omega) | simp [h1, h2, h3]
       exact ⟨(congrArg (Value.bool) e4), hs0⟩
 · refine gk false rfl rfl rfl rfl rfl ?_
   refine gk false rfl rfl rfl rfl rfl ?_
   refine q trivial rfl rfl (pf (v := .bool false) rfl rfl) ?_
   refine q trivial rfl rfl (mv (v := .bool false) rfl) ?_
   refine q ⟨_, rfl, rfl⟩ rfl rfl (mv (v := .int .u8 ((c.toNat : Nat) : Int)) rfl) ?_
   refine q ⟨_, rfl, rfl⟩ rfl rfl (geq (k := .u8) (a := ((c.toNat : Nat) : Int)) (b := 48) rfl rfl) ?_
   refine q ⟨_, rfl, rfl⟩ rfl rfl (mv (v := .bool (decide ((48 : Int) ≤ ((c.toNat : Nat) : Int)))) rfl) ?_
   refine spd (p := (48 : Int) ≤ ((c.toNat : Nat) : Int)) 12 rfl (fun h5 => ?_) (fun h5 => ?_)
   · refine q ⟨_, rfl, rfl⟩ rfl rfl (mv (v := .int .u8 ((c.toNat : Nat) : Int)) rfl) ?_
     refine q ⟨_, rfl, rfl⟩ rfl rfl (leq (k := .u8) (a := ((c.toNat : Nat) : Int)) (b := 57) rfl rfl) ?_
     refine q ⟨_, rfl, rfl⟩ rfl rfl (pt (v := .bool (decide (((c.toNat : Nat) : Int) ≤ 57))) rfl rfl) ?_
     refine q trivial rfl rfl (pf (v := .bool (decide (((c.toNat : Nat) : Int) ≤ 57))) rfl rfl) ?_
     refine q trivial rfl rfl (mv (v := .bool (decide (((c.toNat : Nat) : Int) ≤ 57))) rfl) ?_
     refine spd (p := ((c.toNat : Nat) : Int) ≤ 57) 17 rfl (fun h6 => ?_) (fun h6 => ?_)
     · refine gk true rfl rfl rfl rfl rfl ?_
       refine gk true rfl rfl rfl rfl rfl ?_
       refine q trivial rfl rfl (pt (v := .bool true) rfl rfl) ?_
       refine q trivial rfl rfl (asg (v := .bool true) rfl) ?_
       refine nl ?_
       refine nN ?_
       refine rt ?_
       refine fret (v := .bool true) (.tmp .nil) rfl ?_
       have e5 : true = letC c := by simp only [letC]; first | (simp; omega) | simp [h1, h5, h6]
       exact ⟨(congrArg (Value.bool) e5), hs0⟩
     · refine q ⟨_, rfl, rfl⟩ rfl rfl (mv (v := .int .u8 ((c.toNat : Nat) : Int)) rfl) ?_
       refine q ⟨_, rfl, rfl⟩ rfl rfl (eqi (k := .u8) (a := ((c.toNat : Nat) : Int)) (b := 45) rfl rfl) ?_
       refine q trivial rfl rfl (pf (v := .bool (decide (((c.toNat : Nat) : Int) = 45))) rfl rfl) ?_
       refine q trivial rfl rfl (asg (v := .bool (decide (((c.toNat : Nat) : Int) = 45))) rfl) ?_
       refine nl ?_
       refine nN ?_
       refine rt ?_
       refine fret (v := .bool (decide (((c.toNat : Nat) : Int) = 45))) (.tmp .nil) rfl ?_
       have e6 : (decide (((c.toNat : Nat) : Int) = 45)) = letC c := by simp only [letC]; first | (simp; omega) | simp [h1, h5, h6]
       exact ⟨(congrArg (Value.bool) e6), hs0⟩
   · refine gk false rfl rfl rfl rfl rfl ?_
     refine gk false rfl rfl rfl rfl rfl ?_
     refine q ⟨_, rfl, rfl⟩ rfl rfl (pf (v := .bool false) rfl rfl) ?_
     refine q trivial rfl rfl (pf (v := .bool false) rfl rfl) ?_
     refine q trivial rfl rfl (mv (v := .bool false) rfl) ?_
     refine q ⟨_, rfl, rfl⟩ rfl rfl (mv (v := .int .u8 ((c.toNat : Nat) : Int)) rfl) ?_
     refine q ⟨_, rfl, rfl⟩ rfl rfl (eqi (k := .u8) (a := ((c.toNat : Nat) : Int)) (b := 45) rfl rfl) ?_
     refine q trivial rfl rfl (pf (v := .bool (decide (((c.toNat : Nat) : Int) = 45))) rfl rfl) ?_
     refine q trivial rfl rfl (asg (v := .bool (decide (((c.toNat : Nat) : Int) = 45))) rfl) ?_
     refine nl ?_
     refine nN ?_
     refine rt ?_
     refine fret (v := .bool (decide (((c.toNat : Nat) : Int) = 45))) (.tmp .nil) rfl ?_
     have e7 : (decide (((c.toNat : Nat) : Int) = 45)) = letC c := by simp only [letC]; first | (simp; omega) | simp [h1, h5]
     exact ⟨(congrArg (Value.bool) e7), hs0⟩

theorem l2Cut (l : List UInt8) (c : UInt8) (w : World) (hl_n : l.length ≤ 1099511627776) : Does Try.prog 75 [Str l, .int .u8 ((c.toNat : Nat) : Int)] w (fun v w' => ∃ Ar : Option Addr, ∃ cr : Nat, v = .slice Ar (splitB c l).length cr ∧ SH w w' [] [.own Ar ((splitB c l).length) cr 9 1 ((splitB c l).map Str)]) := by
 refine fn_enter (N := 35) Try.func75 rfl (by kernel_rfl) rfl rfl rfl ?_
 have hs0 : SH w w [] [] := SH.refl w []
 refine sq ?_
 refine rg ?_
 refine q trivial rfl rfl (asg (v := ns) rfl) ?_
 refine nl ?_
 refine nN ?_
 refine sq ?_
 refine rg ?_
 refine bsk hs0 sl81 [] [] trivial rfl (fun b1 w1 (hs1 : SH w w1 [] [.own (some ⟨b1, 0, none⟩) (([] : List (List UInt8)).length) 0 9 1 (([] : List (List UInt8)).map Str)]) => ?_)
 refine q trivial rfl rfl (asg (v := sb b1 (([] : List (List UInt8)).length) 0) rfl) ?_
 refine nl ?_
 refine nN ?_
 refine sq ?_
 refine rg ?_
 refine q trivial rfl rfl (asg (v := I 0) rfl) ?_
 refine nl ?_
 refine nN ?_
 refine sq ?_
 refine sq ?_
 refine rg ?_
 refine q trivial rfl rfl (asg (v := I 0) rfl) ?_
 refine nl ?_
 refine nN ?_
 refine bl ?_
 refine lp (σ := (Option Addr) × Nat × Nat × Nat × (List (List UInt8))) (fun ⟨Ag5, cg5, i, a, zs⟩ f w' => Has f [(0, Str l), (1, .int .u8 ((c.toNat : Nat) : Int)), (5, .slice Ag5 zs.length cg5), (6, I ((a : Nat) : Int)), (7, I ((i : Nat) : Int))] ∧ (i ≤ l.length) ∧ (a ≤ i) ∧ (zs ++ splitB c (l.drop a) = splitB c l) ∧ (∀ j, a ≤ j → j < i → l.getD j 0 ≠ c) ∧ SH w w' [] [.own Ag5 zs.length cg5 9 1 (zs.map Str)]) (fun ⟨Ag5, cg5, i, a, zs⟩ => l.length - i) ((some ⟨b1, 0, none⟩), 0, 0, 0, ([] : List (List UInt8))) ⟨⟨rfl, rfl, rfl, rfl, rfl, trivial⟩, (by omega), (by omega), (by simp), (by intro j _ hj; omega), hs1⟩ ?_
 rintro ⟨Ag5, cg5, i, a, zs⟩ f w2 ⟨hf, hi, ha, hz, hn, hs2⟩
 obtain ⟨g1, rfl⟩ := has_upd hf
 clear hf
 refine sq ?_
 refine sq ?_
 refine rg ?_
 refine q trivial rfl rfl (mv (v := I ((i : Nat) : Int)) rfl) ?_
 refine q trivial rfl rfl (mv (v := Str l) rfl) ?_
 refine q trivial rfl rfl (lnS (l := l) st9 rfl) ?_
 refine q trivial rfl rfl (lss (k := .i64) (a := ((i : Nat) : Int)) (b := ((l.length : Nat) : Int)) rfl rfl) ?_
 refine nl ?_
 refine nN ?_
 refine cdd (p := ((i : Nat) : Int) < ((l.length : Nat) : Int)) rfl (fun h1 => ?_) (fun h1 => ?_)
 · refine sk ?_
   refine nN ?_
   refine sq ?_
   refine bl ?_
   refine sq ?_
   refine rg ?_
   refine q trivial rfl rfl (mv (v := Str l) rfl) ?_
   refine q trivial rfl rfl (mv (v := I ((i : Nat) : Int)) rfl) ?_
   refine q trivial rfl rfl (ixs (l := l) i st9 rfl rfl (by first | (first | omega | (simp; done) | (simp; omega)) | (have hzl := cut_len hz; first | omega | (simp; done) | (simp; omega)))) ?_
   refine q trivial rfl rfl (mv (v := .int .u8 ((c.toNat : Nat) : Int)) rfl) ?_
   refine q trivial rfl rfl (eqi (k := .u8) (a := (((l.getD i 0).toNat : Nat) : Int)) (b := ((c.toNat : Nat) : Int)) rfl rfl) ?_
   refine nl ?_
   refine nN ?_
   refine cdd (p := (((l.getD i 0).toNat : Nat) : Int) = ((c.toNat : Nat) : Int)) rfl (fun h2 => ?_) (fun h2 => ?_)
   · refine sq ?_
     refine rg ?_
     refine q trivial rfl rfl (mv (v := .slice Ag5 zs.length cg5) rfl) ?_
     refine q trivial rfl rfl (mv (v := Str l) rfl) ?_
     refine q trivial rfl rfl (mv (v := I ((a : Nat) : Int)) rfl) ?_
     refine q trivial rfl rfl (mv (v := I ((i : Nat) : Int)) rfl) ?_
     refine q trivial rfl rfl (cus (l := l) a i st9 rfl rfl rfl (by first | (first | omega | (simp; done) | (simp; omega)) | (have hzl := cut_len hz; first | omega | (simp; done) | (simp; omega))) (by first | (first | omega | (simp; done) | (simp; omega)) | (have hzl := cut_len hz; first | omega | (simp; done) | (simp; omega)))) ?_
     refine bsk hs2 sl81 [Str ((l.take i).drop a)] [Str ((l.take i).drop a)] trivial rfl (fun b2 w3 (hs3 : SH w w3 [] [.own Ag5 zs.length cg5 9 1 (zs.map Str), .own (some ⟨b2, 0, none⟩) (([(l.take i).drop a] : List (List UInt8)).length) 1 9 1 (([(l.take i).drop a] : List (List UInt8)).map Str)]) => ?_)
     refine apm (g := Str) (ys := zs) (zs := ([(l.take i).drop a] : List (List UInt8))) hs3 0 rfl sl81 rfl rfl rfl (hs3.sl0 1 rfl) (fun _ => rfl) (by unfold maxLen; first | (first | omega | (simp; done) | (simp; omega)) | (have hzl := cut_len hz; first | omega | (simp; done) | (simp; omega))) (by first | (first | omega | (simp; done) | (simp; omega)) | (have hzl := cut_len hz; first | omega | (simp; done) | (simp; omega))) trivial rfl (fun A1 c1 w4 (hs4 : SH w w4 [] [.own (some ⟨b2, 0, none⟩) (([(l.take i).drop a] : List (List UInt8)).length) 1 9 1 (([(l.take i).drop a] : List (List UInt8)).map Str), .own A1 ((zs ++ ([(l.take i).drop a] : List (List UInt8))).length) c1 9 1 ((zs ++ ([(l.take i).drop a] : List (List UInt8))).map Str)]) => ?_)
     refine q trivial rfl rfl (asg (v := .slice A1 ((zs ++ ([(l.take i).drop a] : List (List UInt8))).length) c1) rfl) ?_
     refine nl ?_
     refine nN ?_
     refine rg ?_
     refine q trivial rfl rfl (mv (v := I ((i : Nat) : Int)) rfl) ?_
     refine q trivial rfl rfl (add (a := ((i : Nat) : Int)) (b := 1) rfl rfl (by first | (exact ⟨by omega, by omega⟩) | (have hzl := cut_len hz; exact ⟨by omega, by omega⟩))) ?_
     refine q trivial rfl rfl (asg (v := I (((i : Nat) : Int) + 1)) rfl) ?_
     refine nl ?_
     refine bN ?_
     refine nN ?_
     refine rg ?_
     refine q trivial rfl rfl (mv (v := I ((i : Nat) : Int)) rfl) ?_
     refine q trivial rfl rfl (add (a := ((i : Nat) : Int)) (b := 1) rfl rfl (by first | (exact ⟨by omega, by omega⟩) | (have hzl := cut_len hz; exact ⟨by omega, by omega⟩))) ?_
     refine q trivial rfl rfl (asg (v := I (((i : Nat) : Int) + 1)) rfl) ?_
     refine nl ?_
     refine nN ?_
     refine ⟨(A1, c1, i + 1, i + 1, (zs ++ ([(l.take i).drop a] : List (List UInt8)))), ⟨⟨rfl, rfl, rfl, rfl, rfl, trivial⟩, (by omega), (by omega), (cut_step hz ha (by omega) hn (u8_eq (by omega))), (by intro j h_ hj; omega), (hs4.pick [1] rfl (by decide))⟩, ?_⟩
     show l.length - (i + 1) < l.length - i
     omega
   · refine sk ?_
     refine bN ?_
     refine nN ?_
     refine rg ?_
     refine q trivial rfl rfl (mv (v := I ((i : Nat) : Int)) rfl) ?_
     refine q trivial rfl rfl (add (a := ((i : Nat) : Int)) (b := 1) rfl rfl (by first | (exact ⟨by omega, by omega⟩) | (have hzl := cut_len hz; exact ⟨by omega, by omega⟩))) ?_
     refine q trivial rfl rfl (asg (v := I (((i : Nat) : Int) + 1)) rfl) ?_
     refine nl ?_
     refine nN ?_
     refine ⟨(Ag5, cg5, i + 1, a, zs), ⟨⟨rfl, rfl, rfl, rfl, rfl, trivial⟩, (by omega), (by omega), (hz), (by intro j h_ hj; rcases Nat.lt_succ_iff_lt_or_eq.1 hj with h | h; exact hn j h_ h; subst h; intro he; exact absurd (congrArg (fun z => ((UInt8.toNat z : Nat) : Int)) he) (by assumption)), hs2⟩, ?_⟩
     show l.length - (i + 1) < l.length - i
     omega
 · refine ex (tE (tE (bE ?_)))
   refine nN ?_
   refine sq ?_
   refine rg ?_
   refine q trivial rfl rfl (mv (v := .slice Ag5 zs.length cg5) rfl) ?_
   refine q trivial rfl rfl (mv (v := Str l) rfl) ?_
   refine q trivial rfl rfl (mv (v := I ((a : Nat) : Int)) rfl) ?_
   refine q trivial rfl rfl (culs (l := l) a st9 rfl rfl (by first | (first | omega | (simp; done) | (simp; omega)) | (have hzl := cut_len hz; first | omega | (simp; done) | (simp; omega)))) ?_
   refine bsk hs2 sl81 [Str (l.drop a)] [Str (l.drop a)] trivial rfl (fun b3 w5 (hs5 : SH w w5 [] [.own Ag5 zs.length cg5 9 1 (zs.map Str), .own (some ⟨b3, 0, none⟩) (([l.drop a] : List (List UInt8)).length) 1 9 1 (([l.drop a] : List (List UInt8)).map Str)]) => ?_)
   refine apm (g := Str) (ys := zs) (zs := ([l.drop a] : List (List UInt8))) hs5 0 rfl sl81 rfl rfl rfl (hs5.sl0 1 rfl) (fun _ => rfl) (by unfold maxLen; first | (first | omega | (simp; done) | (simp; omega)) | (have hzl := cut_len hz; first | omega | (simp; done) | (simp; omega))) (by first | (first | omega | (simp; done) | (simp; omega)) | (have hzl := cut_len hz; first | omega | (simp; done) | (simp; omega))) trivial rfl (fun A2 c2 w6 (hs6 : SH w w6 [] [.own (some ⟨b3, 0, none⟩) (([l.drop a] : List (List UInt8)).length) 1 9 1 (([l.drop a] : List (List UInt8)).map Str), .own A2 ((zs ++ ([l.drop a] : List (List UInt8))).length) c2 9 1 ((zs ++ ([l.drop a] : List (List UInt8))).map Str)]) => ?_)
   refine q trivial rfl rfl (asg (v := .slice A2 ((zs ++ ([l.drop a] : List (List UInt8))).length) c2) rfl) ?_
   refine nl ?_
   refine nN ?_
   refine rt ?_
   refine fret (v := .slice A2 ((zs ++ ([l.drop a] : List (List UInt8))).length) c2) (.tmp .nil) rfl ?_
   have e1 : zs ++ ([l.drop a] : List (List UInt8)) = splitB c l := by exact cut_end hz (by omega) hn
   have e2 : (zs ++ ([l.drop a] : List (List UInt8))).length = (splitB c l).length := by exact congrArg List.length e1
   exact ⟨A2, c2, (slv rfl e2 rfl), ((hs6.pick [1] rfl (by decide)).cast (lc (own_eq (g := Str) rfl e2 rfl e1) rfl))⟩

theorem sNameValid (l : List UInt8) (w : World) (hl_n : l.length ≤ 1099511627776) : Does Try.prog 70 [Str l] w (fun v w' => v = .bool (nameOk l) ∧ SH w w' [] []) := by
 refine fn_enter (N := 53) Try.func70 rfl (by kernel_rfl) rfl rfl rfl ?_
 have hs0 : SH w w [] [] := SH.refl w []
 refine sq ?_
 refine rg ?_
 refine q trivial rfl rfl (asg (v := .bool false) rfl) ?_
 refine nl ?_
 refine nN ?_
 refine sq ?_
 refine rg ?_
 refine q trivial rfl rfl (mv (v := Str l) rfl) ?_
 refine cl trivial rfl (l2Cut (l := l) (c := (46 : UInt8)) (w := _) (hl_n := (by first | (first | omega | (simp; done) | (simp; omega)) | (have hsb := splitB_getD 46 l k; have hsl := splitB_len 46 l; have hcl := List.count_le_length (a := (46 : UInt8)) (l := l); first | omega | (simp; done) | (simp; omega))))) ?_
 rintro _ w1 ⟨A1, c1, rfl, hs1'⟩
 have hs1 : SH w w1 [] [.own A1 ((splitB (46 : UInt8) l).length) c1 9 1 ((splitB (46 : UInt8) l).map Str)] := hs0.call0 hs1'
 clear hs1'
 refine q trivial rfl rfl (asg (v := .slice A1 ((splitB (46 : UInt8) l).length) c1) rfl) ?_
 refine nl ?_
 refine nN ?_
 refine sq ?_
 refine sq ?_
 refine rg ?_
 refine q trivial rfl rfl (asg (v := I 0) rfl) ?_
 refine nl ?_
 refine nN ?_
 refine bl ?_
 refine lp (σ := Nat) (fun (k : Nat) f w' => Has f [(0, Str l), (3, .slice A1 ((splitB (46 : UInt8) l).length) c1), (4, I ((k : Nat) : Int))] ∧ (k ≤ (splitB 46 l).length) ∧ (((splitB 46 l).take k).all partOk = true) ∧ SH w w' [] [.own A1 ((splitB (46 : UInt8) l).length) c1 9 1 ((splitB (46 : UInt8) l).map Str)]) (fun k => (splitB 46 l).length - k) 0 ⟨⟨rfl, rfl, rfl, trivial⟩, (by simp), (by simp), hs1⟩ ?_
 rintro k f w2 ⟨hf, hk, ha, hs2⟩
 obtain ⟨g1, rfl⟩ := has_upd hf
 clear hf
 refine sq ?_
 refine sq ?_
 refine rg ?_
 refine q trivial rfl rfl (mv (v := I ((k : Nat) : Int)) rfl) ?_
 refine q trivial rfl rfl (mv (v := .slice A1 ((splitB (46 : UInt8) l).length) c1) rfl) ?_
 refine q trivial rfl rfl (lnA (n := (splitB (46 : UInt8) l).length) sl81 rfl) ?_
 refine q trivial rfl rfl (lss (k := .i64) (a := ((k : Nat) : Int)) (b := (((splitB (46 : UInt8) l).length : Nat) : Int)) rfl rfl) ?_
 refine nl ?_
 refine nN ?_
 refine cdd (p := ((k : Nat) : Int) < (((splitB (46 : UInt8) l).length : Nat) : Int)) rfl (fun h1 => ?_) (fun h1 => ?_)
 · refine sk ?_
   refine nN ?_
   refine sq ?_
   refine bl ?_
   refine sq ?_
   refine rg ?_
   refine q trivial rfl rfl (mv (v := .slice A1 ((splitB (46 : UInt8) l).length) c1) rfl) ?_
   refine q trivial rfl rfl (mv (v := I ((k : Nat) : Int)) rfl) ?_
   refine ixw1 k sl81 rfl rfl (hs2.sl0 0 rfl) (by first | (first | omega | (simp; done) | (simp; omega)) | (have hsb := splitB_getD 46 l k; have hsl := splitB_len 46 l; have hcl := List.count_le_length (a := (46 : UInt8)) (l := l); first | omega | (simp; done) | (simp; omega))) (getm Str [] (by first | (first | omega | (simp; done) | (simp; omega)) | (have hsb := splitB_getD 46 l k; have hsl := splitB_len 46 l; have hcl := List.count_le_length (a := (46 : UInt8)) (l := l); first | omega | (simp; done) | (simp; omega)))) trivial rfl (fun a1 ha1 => ?_)
   refine q trivial rfl rfl (lda (v := Str ((splitB (46 : UInt8) l).getD k [])) (SH.refl w2 []) ha1 (fun _ h => h) rfl rfl one9) ?_
   refine q trivial rfl rfl (asg (v := Str ((splitB (46 : UInt8) l).getD k [])) rfl) ?_
   refine nl ?_
   refine nN ?_
   refine sq ?_
   refine sq ?_
   refine rg ?_
   refine q trivial rfl rfl (mv (v := Str ((splitB (46 : UInt8) l).getD k [])) rfl) ?_
   refine q trivial rfl rfl (lnS (l := (splitB (46 : UInt8) l).getD k []) st9 rfl) ?_
   refine q trivial rfl rfl (eqi (k := .i64) (a := ((((splitB (46 : UInt8) l).getD k []).length : Nat) : Int)) (b := 0) rfl rfl) ?_
   refine nl ?_
   refine nN ?_
   refine cdd (p := ((((splitB (46 : UInt8) l).getD k []).length : Nat) : Int) = 0) rfl (fun h2 => ?_) (fun h2 => ?_)
   · refine sq ?_
     refine rg ?_
     refine q trivial rfl rfl (asg (v := .bool false) rfl) ?_
     refine nl ?_
     refine nN ?_
     refine rt (tR (bR (tR (tR (bR (tR ?_))))))
     refine fret (v := .bool false) (.tmp .nil) rfl ?_
     have e1 : false = nameOk l := by first | (exact (name_bad (k := k) (by omega) (part_nil (by assumption))).symm) | (exact (name_bad (k := k) (by omega) (part_len0 (by omega))).symm) | (exact (name_bad (k := k) (by omega) (part_bad (by assumption))).symm) | (exact (name_bad (k := k) (by omega) (part_bad1 (j := j) (by omega) (by assumption))).symm) | (exact (name_end2 (by omega) ha (by omega)).symm) | (exact (name_end1 (by omega) ha (by omega)).symm) | exact name_end3 (by omega) ha (by omega) (by assumption) | exact name_end4 (by omega) ha (by omega) (by assumption)
     exact ⟨(congrArg (Value.bool) e1), (hs2.pick [] rfl (by decide))⟩
   · refine sk ?_
     refine nN ?_
     refine sq ?_
     refine rg ?_
     refine q trivial rfl rfl (asg (v := I 0) rfl) ?_
     refine nl ?_
     refine nN ?_
     refine bl ?_
     refine lp (σ := Nat) (fun (j : Nat) f w' => Has f [(0, Str l), (3, .slice A1 ((splitB (46 : UInt8) l).length) c1), (4, I ((k : Nat) : Int)), (5, Str ((splitB (46 : UInt8) l).getD k [])), (6, I ((j : Nat) : Int))] ∧ (j ≤ ((splitB 46 l).getD k []).length) ∧ ((((splitB 46 l).getD k []).take j).all letC = true) ∧ SH w w' [] [.own A1 ((splitB (46 : UInt8) l).length) c1 9 1 ((splitB (46 : UInt8) l).map Str)]) (fun j => ((splitB 46 l).getD k []).length - j) 0 ⟨⟨rfl, rfl, rfl, rfl, rfl, trivial⟩, (by simp), (by simp), hs2⟩ ?_
     rintro j f w3 ⟨hf, hj, hb, hs3⟩
     obtain ⟨g2, rfl⟩ := has_upd hf
     clear hf
     refine sq ?_
     refine sq ?_
     refine rg ?_
     refine q trivial rfl rfl (mv (v := I ((j : Nat) : Int)) rfl) ?_
     refine q trivial rfl rfl (mv (v := Str ((splitB (46 : UInt8) l).getD k [])) rfl) ?_
     refine q trivial rfl rfl (lnS (l := (splitB (46 : UInt8) l).getD k []) st9 rfl) ?_
     refine q trivial rfl rfl (lss (k := .i64) (a := ((j : Nat) : Int)) (b := ((((splitB (46 : UInt8) l).getD k []).length : Nat) : Int)) rfl rfl) ?_
     refine nl ?_
     refine nN ?_
     refine cdd (p := ((j : Nat) : Int) < ((((splitB (46 : UInt8) l).getD k []).length : Nat) : Int)) rfl (fun h3 => ?_) (fun h3 => ?_)
     · refine sk ?_
       refine nN ?_
       refine sq ?_
       refine bl ?_
       refine sq ?_
       refine rg ?_
       refine q trivial rfl rfl (mv (v := Str ((splitB (46 : UInt8) l).getD k [])) rfl) ?_
       refine q trivial rfl rfl (mv (v := I ((j : Nat) : Int)) rfl) ?_
       refine q trivial rfl rfl (ixs (l := (splitB (46 : UInt8) l).getD k []) j st9 rfl rfl (by first | omega | exact name_last (by omega) ha (by have := splitB_pos 46 l; omega))) ?_
       refine cl trivial rfl (sLetter (c := (((splitB (46 : UInt8) l).getD k []).getD j 0)) (w := _)) ?_
       rintro _ w4 ⟨rfl, hs4'⟩
       have hs4 : SH w w4 [] [.own A1 ((splitB (46 : UInt8) l).length) c1 9 1 ((splitB (46 : UInt8) l).map Str)] := hs3.call0 hs4'
       clear hs4'
       refine q trivial rfl rfl (nt (b := letC (((splitB (46 : UInt8) l).getD k []).getD j 0)) rfl) ?_
       refine nl ?_
       refine nN ?_
       refine cd (b := !(letC (((splitB (46 : UInt8) l).getD k []).getD j 0))) rfl (fun h4 => ?_) (fun h4 => ?_)
       · have h5 : (letC (((splitB (46 : UInt8) l).getD k []).getD j 0)) = false := by simpa using h4
         refine sq ?_
         refine rg ?_
         refine q trivial rfl rfl (asg (v := .bool false) rfl) ?_
         refine nl ?_
         refine nN ?_
         refine rt (bR (tR (tR (bR (bR (tR (tR (bR (tR ?_)))))))))
         refine fret (v := .bool false) (.tmp .nil) rfl ?_
         have e2 : false = nameOk l := by first | (exact (name_bad (k := k) (by omega) (part_nil (by assumption))).symm) | (exact (name_bad (k := k) (by omega) (part_len0 (by omega))).symm) | (exact (name_bad (k := k) (by omega) (part_bad (by assumption))).symm) | (exact (name_bad (k := k) (by omega) (part_bad1 (j := j) (by omega) (by assumption))).symm) | (exact (name_end2 (by omega) ha (by omega)).symm) | (exact (name_end1 (by omega) ha (by omega)).symm) | exact name_end3 (by omega) ha (by omega) (by assumption) | exact name_end4 (by omega) ha (by omega) (by assumption)
         exact ⟨(congrArg (Value.bool) e2), (hs4.pick [] rfl (by decide))⟩
       · have h6 : (letC (((splitB (46 : UInt8) l).getD k []).getD j 0)) = true := by simpa using h4
         refine sk ?_
         refine bN ?_
         refine nN ?_
         refine rg ?_
         refine q trivial rfl rfl (mv (v := I ((j : Nat) : Int)) rfl) ?_
         refine q trivial rfl rfl (add (a := ((j : Nat) : Int)) (b := 1) rfl rfl (by first | (exact ⟨by omega, by omega⟩) | (have hsb := splitB_getD 46 l k; have hsl := splitB_len 46 l; have hcl := List.count_le_length (a := (46 : UInt8)) (l := l); exact ⟨by omega, by omega⟩))) ?_
         refine q trivial rfl rfl (asg (v := I (((j : Nat) : Int) + 1)) rfl) ?_
         refine nl ?_
         refine nN ?_
         refine ⟨(j + 1), ⟨⟨rfl, rfl, rfl, rfl, rfl, trivial⟩, (by omega), (all_step (d := 0) (by omega) hb (by assumption)), hs4⟩, ?_⟩
         omega
     · refine ex (tE (tE (bE ?_)))
       refine bN ?_
       refine nN ?_
       refine rg ?_
       refine q trivial rfl rfl (mv (v := I ((k : Nat) : Int)) rfl) ?_
       refine q trivial rfl rfl (add (a := ((k : Nat) : Int)) (b := 1) rfl rfl (by first | (exact ⟨by omega, by omega⟩) | (have hsb := splitB_getD 46 l k; have hsl := splitB_len 46 l; have hcl := List.count_le_length (a := (46 : UInt8)) (l := l); exact ⟨by omega, by omega⟩))) ?_
       refine q trivial rfl rfl (asg (v := I (((k : Nat) : Int) + 1)) rfl) ?_
       refine nl ?_
       refine nN ?_
       refine ⟨(k + 1), ⟨⟨rfl, rfl, rfl, trivial⟩, (by omega), (all_step (d := []) (by omega) ha (part_mk1 (j := j) (by omega) (by omega) hb)), hs3⟩, ?_⟩
       omega
 · refine ex (tE (tE (bE ?_)))
   refine nN ?_
   refine sq ?_
   refine rg ?_
   refine q trivial rfl rfl (mv (v := .slice A1 ((splitB (46 : UInt8) l).length) c1) rfl) ?_
   refine q trivial rfl rfl (mv (v := .slice A1 ((splitB (46 : UInt8) l).length) c1) rfl) ?_
   refine q trivial rfl rfl (lnA (n := (splitB (46 : UInt8) l).length) sl81 rfl) ?_
   refine q trivial rfl rfl (subN (a := (splitB (46 : UInt8) l).length) (b := 1) rfl rfl (by have hsb := splitB_getD 46 l k; have hsl := splitB_len 46 l; have hcl := List.count_le_length (a := (46 : UInt8)) (l := l); have := splitB_pos 46 l; omega) (by have hsb := splitB_getD 46 l k; have hsl := splitB_len 46 l; have hcl := List.count_le_length (a := (46 : UInt8)) (l := l); have := splitB_pos 46 l; omega)) ?_
   refine ixw1 (((splitB (46 : UInt8) l).length) - 1) sl81 rfl rfl (hs2.sl0 0 rfl) (by first | (first | omega | (simp; done) | (simp; omega)) | (have hsb := splitB_getD 46 l k; have hsl := splitB_len 46 l; have hcl := List.count_le_length (a := (46 : UInt8)) (l := l); first | omega | (simp; done) | (simp; omega))) (getm Str [] (by first | (first | omega | (simp; done) | (simp; omega)) | (have hsb := splitB_getD 46 l k; have hsl := splitB_len 46 l; have hcl := List.count_le_length (a := (46 : UInt8)) (l := l); first | omega | (simp; done) | (simp; omega)))) trivial rfl (fun a2 ha2 => ?_)
   refine q trivial rfl rfl (lda (v := Str ((splitB (46 : UInt8) l).getD (((splitB (46 : UInt8) l).length) - 1) [])) (SH.refl w2 []) ha2 (fun _ h => h) rfl rfl one9) ?_
   refine q trivial rfl rfl (asg (v := Str ((splitB (46 : UInt8) l).getD (((splitB (46 : UInt8) l).length) - 1) [])) rfl) ?_
   refine nl ?_
   refine nN ?_
   refine sq ?_
   refine rg ?_
   refine q trivial rfl rfl (mv (v := Str l) rfl) ?_
   refine q trivial rfl rfl (lnS (l := l) st9 rfl) ?_
   refine q trivial rfl rfl (leq (k := .i64) (a := ((l.length : Nat) : Int)) (b := 20) rfl rfl) ?_
   refine q trivial rfl rfl (mv (v := .bool (decide (((l.length : Nat) : Int) ≤ 20))) rfl) ?_
   refine spd (p := ((l.length : Nat) : Int) ≤ 20) 43 rfl (fun h7 => ?_) (fun h7 => ?_)
   · refine q ⟨_, rfl, rfl⟩ rfl rfl (mv (v := Str ((splitB (46 : UInt8) l).getD (((splitB (46 : UInt8) l).length) - 1) [])) rfl) ?_
     refine q ⟨_, rfl, rfl⟩ rfl rfl (ixs (l := (splitB (46 : UInt8) l).getD (((splitB (46 : UInt8) l).length) - 1) []) 0 st9 rfl rfl (by first | omega | exact name_last (by omega) ha (by have := splitB_pos 46 l; omega))) ?_
     refine q ⟨_, rfl, rfl⟩ rfl rfl (geq (k := .u8) (a := (((((splitB (46 : UInt8) l).getD (((splitB (46 : UInt8) l).length) - 1) []).getD 0 0).toNat : Nat) : Int)) (b := 97) rfl rfl) ?_
     refine q trivial rfl rfl (pt (v := .bool (decide ((97 : Int) ≤ (((((splitB (46 : UInt8) l).getD (((splitB (46 : UInt8) l).length) - 1) []).getD 0 0).toNat : Nat) : Int)))) rfl rfl) ?_
     refine q trivial rfl rfl (mv (v := .bool (decide ((97 : Int) ≤ (((((splitB (46 : UInt8) l).getD (((splitB (46 : UInt8) l).length) - 1) []).getD 0 0).toNat : Nat) : Int)))) rfl) ?_
     refine spd (p := (97 : Int) ≤ (((((splitB (46 : UInt8) l).getD (((splitB (46 : UInt8) l).length) - 1) []).getD 0 0).toNat : Nat) : Int)) 48 rfl (fun h8 => ?_) (fun h8 => ?_)
     · refine q ⟨_, rfl, rfl⟩ rfl rfl (mv (v := Str ((splitB (46 : UInt8) l).getD (((splitB (46 : UInt8) l).length) - 1) [])) rfl) ?_
       refine q ⟨_, rfl, rfl⟩ rfl rfl (ixs (l := (splitB (46 : UInt8) l).getD (((splitB (46 : UInt8) l).length) - 1) []) 0 st9 rfl rfl (by first | omega | exact name_last (by omega) ha (by have := splitB_pos 46 l; omega))) ?_
       refine q ⟨_, rfl, rfl⟩ rfl rfl (leq (k := .u8) (a := (((((splitB (46 : UInt8) l).getD (((splitB (46 : UInt8) l).length) - 1) []).getD 0 0).toNat : Nat) : Int)) (b := 122) rfl rfl) ?_
       refine q trivial rfl rfl (pt (v := .bool (decide ((((((splitB (46 : UInt8) l).getD (((splitB (46 : UInt8) l).length) - 1) []).getD 0 0).toNat : Nat) : Int) ≤ 122))) rfl rfl) ?_
       refine q trivial rfl rfl (asg (v := .bool (decide ((((((splitB (46 : UInt8) l).getD (((splitB (46 : UInt8) l).length) - 1) []).getD 0 0).toNat : Nat) : Int) ≤ 122))) rfl) ?_
       refine nl ?_
       refine nN ?_
       refine rt ?_
       refine fret (v := .bool (decide ((((((splitB (46 : UInt8) l).getD (((splitB (46 : UInt8) l).length) - 1) []).getD 0 0).toNat : Nat) : Int) ≤ 122))) (.tmp .nil) rfl ?_
       have e3 : (decide ((((((splitB (46 : UInt8) l).getD (((splitB (46 : UInt8) l).length) - 1) []).getD 0 0).toNat : Nat) : Int) ≤ 122)) = nameOk l := by first | (exact (name_bad (k := k) (by omega) (part_nil (by assumption))).symm) | (exact (name_bad (k := k) (by omega) (part_len0 (by omega))).symm) | (exact (name_bad (k := k) (by omega) (part_bad (by assumption))).symm) | (exact (name_bad (k := k) (by omega) (part_bad1 (j := j) (by omega) (by assumption))).symm) | (exact (name_end2 (by omega) ha (by omega)).symm) | (exact (name_end1 (by omega) ha (by omega)).symm) | exact name_end3 (by omega) ha (by omega) (by assumption) | exact name_end4 (by omega) ha (by omega) (by assumption)
       exact ⟨(congrArg (Value.bool) e3), (hs2.pick [] rfl (by decide))⟩
     · refine gk false rfl rfl rfl rfl rfl ?_
       refine gk false rfl rfl rfl rfl rfl ?_
       refine gk false rfl rfl rfl rfl rfl ?_
       refine q trivial rfl rfl (pf (v := .bool false) rfl rfl) ?_
       refine q trivial rfl rfl (asg (v := .bool false) rfl) ?_
       refine nl ?_
       refine nN ?_
       refine rt ?_
       refine fret (v := .bool false) (.tmp .nil) rfl ?_
       have e4 : false = nameOk l := by first | (exact (name_bad (k := k) (by omega) (part_nil (by assumption))).symm) | (exact (name_bad (k := k) (by omega) (part_len0 (by omega))).symm) | (exact (name_bad (k := k) (by omega) (part_bad (by assumption))).symm) | (exact (name_bad (k := k) (by omega) (part_bad1 (j := j) (by omega) (by assumption))).symm) | (exact (name_end2 (by omega) ha (by omega)).symm) | (exact (name_end1 (by omega) ha (by omega)).symm) | exact name_end3 (by omega) ha (by omega) (by assumption) | exact name_end4 (by omega) ha (by omega) (by assumption)
       exact ⟨(congrArg (Value.bool) e4), (hs2.pick [] rfl (by decide))⟩
   · refine gk false rfl rfl rfl rfl rfl ?_
     refine gk false rfl rfl rfl rfl rfl ?_
     refine gk false rfl rfl rfl rfl rfl ?_
     refine q trivial rfl rfl (pf (v := .bool false) rfl rfl) ?_
     refine q trivial rfl rfl (mv (v := .bool false) rfl) ?_
     refine gk false rfl rfl rfl rfl rfl ?_
     refine gk false rfl rfl rfl rfl rfl ?_
     refine gk false rfl rfl rfl rfl rfl ?_
     refine q trivial rfl rfl (pf (v := .bool false) rfl rfl) ?_
     refine q trivial rfl rfl (asg (v := .bool false) rfl) ?_
     refine nl ?_
     refine nN ?_
     refine rt ?_
     refine fret (v := .bool false) (.tmp .nil) rfl ?_
     have e5 : false = nameOk l := by first | (exact (name_bad (k := k) (by omega) (part_nil (by assumption))).symm) | (exact (name_bad (k := k) (by omega) (part_len0 (by omega))).symm) | (exact (name_bad (k := k) (by omega) (part_bad (by assumption))).symm) | (exact (name_bad (k := k) (by omega) (part_bad1 (j := j) (by omega) (by assumption))).symm) | (exact (name_end2 (by omega) ha (by omega)).symm) | (exact (name_end1 (by omega) ha (by omega)).symm) | exact name_end3 (by omega) ha (by omega) (by assumption) | exact name_end4 (by omega) ha (by omega) (by assumption)
     exact ⟨(congrArg (Value.bool) e5), (hs2.pick [] rfl (by decide))⟩

theorem sQuadValid {Aqs : Option Addr} {cqs : Nat} (qs : List Int) (w : World) (hqs : Sl w [] 1 Aqs qs.length cqs (qs.map I)) : Does Try.prog 69 [.slice Aqs qs.length cqs] w (fun v w' => v = .bool (quadOk qs) ∧ SH w w' [] []) := by
 refine fn_enter (N := 10) Try.func69 rfl (by kernel_rfl) rfl rfl rfl ?_
 have hs0 : SH w w [] [] := SH.refl w []
 have hqs_m : qs.length ≤ 9223372036854775807 := Nat.le_trans hqs.cap hqs.capMax
 refine sq ?_
 refine rg ?_
 refine q trivial rfl rfl (asg (v := .bool false) rfl) ?_
 refine nl ?_
 refine nN ?_
 refine sq ?_
 refine rg ?_
 refine q trivial rfl rfl (mv (v := .slice Aqs qs.length cqs) rfl) ?_
 refine cl trivial rfl (sBytesValid (Azs := Aqs) (czs := cqs) (zs := qs) (w := _) (hzs := (hqs.up0 hs0))) ?_
 rintro _ w1 ⟨rfl, hs1'⟩
 have hs1 : SH w w1 [] [] := hs0.call0 hs1'
 clear hs1'
 refine q trivial rfl rfl (mv (v := .bool (isBytes qs)) rfl) ?_
 refine spl (b := isBytes qs) 5 rfl (fun h1 => ?_) (fun h1 => ?_)
 · refine q ⟨_, rfl, rfl⟩ rfl rfl (mv (v := .slice Aqs qs.length cqs) rfl) ?_
   refine q ⟨_, rfl, rfl⟩ rfl rfl (lnA (n := qs.length) sl24 rfl) ?_
   refine q ⟨_, rfl, rfl⟩ rfl rfl (eqi (k := .i64) (a := ((qs.length : Nat) : Int)) (b := 4) rfl rfl) ?_
   refine q trivial rfl rfl (pt (v := .bool (decide (((qs.length : Nat) : Int) = 4))) rfl rfl) ?_
   refine q trivial rfl rfl (asg (v := .bool (decide (((qs.length : Nat) : Int) = 4))) rfl) ?_
   refine nl ?_
   refine nN ?_
   refine rt ?_
   refine fret (v := .bool (decide (((qs.length : Nat) : Int) = 4))) (.tmp .nil) rfl ?_
   have e1 : (decide (((qs.length : Nat) : Int) = 4)) = quadOk qs := by simp [quadOk, h1] <;> omega
   exact ⟨(congrArg (Value.bool) e1), hs1⟩
 · refine gk false rfl rfl rfl rfl rfl ?_
   refine gk false rfl rfl rfl rfl rfl ?_
   refine gk false rfl rfl rfl rfl rfl ?_
   refine q trivial rfl rfl (pf (v := .bool false) rfl rfl) ?_
   refine q trivial rfl rfl (asg (v := .bool false) rfl) ?_
   refine nl ?_
   refine nN ?_
   refine rt ?_
   refine fret (v := .bool false) (.tmp .nil) rfl ?_
   have e2 : false = quadOk qs := by simp [quadOk, h1] <;> omega
   exact ⟨(congrArg (Value.bool) e2), hs1⟩

theorem sUserValid (s : List UInt8) (w : World) (hs_n : s.length ≤ 9223372036854775807) : Does Try.prog 66 [Str s] w (fun v w' => v = .bool (userOk s) ∧ SH w w' [] []) := by
 refine fn_enter (N := 24) Try.func66 rfl (by kernel_rfl) rfl rfl rfl ?_
 have hs0 : SH w w [] [] := SH.refl w []
 refine sq ?_
 refine rg ?_
 refine q trivial rfl rfl (asg (v := .bool false) rfl) ?_
 refine nl ?_
 refine nN ?_
 refine sq ?_
 refine sq ?_
 refine rg ?_
 refine q trivial rfl rfl (asg (v := I 0) rfl) ?_
 refine nl ?_
 refine nN ?_
 refine bl ?_
 refine lp (σ := Nat) (fun (k : Nat) f w' => Has f [(0, Str s), (3, I ((k : Nat) : Int))] ∧ (k ≤ s.length) ∧ ((s.take k).all (okC []) = true) ∧ SH w w' [] []) (fun k => s.length - k) 0 ⟨⟨rfl, rfl, trivial⟩, (by simp), (by simp), hs0⟩ ?_
 rintro k f w1 ⟨hf, hk, ha, hs1⟩
 obtain ⟨g1, rfl⟩ := has_upd hf
 clear hf
 refine sq ?_
 refine sq ?_
 refine rg ?_
 refine q trivial rfl rfl (mv (v := I ((k : Nat) : Int)) rfl) ?_
 refine q trivial rfl rfl (mv (v := Str s) rfl) ?_
 refine q trivial rfl rfl (lnS (l := s) st9 rfl) ?_
 refine q trivial rfl rfl (lss (k := .i64) (a := ((k : Nat) : Int)) (b := ((s.length : Nat) : Int)) rfl rfl) ?_
 refine nl ?_
 refine nN ?_
 refine cdd (p := ((k : Nat) : Int) < ((s.length : Nat) : Int)) rfl (fun h1 => ?_) (fun h1 => ?_)
 · refine sk ?_
   refine nN ?_
   refine sq ?_
   refine bl ?_
   refine sq ?_
   refine rg ?_
   refine q trivial rfl rfl (mv (v := Str s) rfl) ?_
   refine q trivial rfl rfl (mv (v := I ((k : Nat) : Int)) rfl) ?_
   refine q trivial rfl rfl (ixs (l := s) k st9 rfl rfl (by first | omega | (simp; done) | (simp; omega))) ?_
   refine cl trivial rfl (sLetter (c := (s.getD k 0)) (w := _)) ?_
   rintro _ w2 ⟨rfl, hs2'⟩
   have hs2 : SH w w2 [] [] := hs1.call0 hs2'
   clear hs2'
   refine q trivial rfl rfl (nt (b := letC (s.getD k 0)) rfl) ?_
   refine q trivial rfl rfl (mv (v := .bool (!(letC (s.getD k 0)))) rfl) ?_
   refine spl (b := !(letC (s.getD k 0))) 15 rfl (fun h2 => ?_) (fun h2 => ?_)
   · have h3 : (letC (s.getD k 0)) = false := by simpa using h2
     refine gk true rfl rfl rfl rfl rfl ?_
     refine gk true rfl rfl rfl rfl rfl ?_
     refine gk true rfl rfl rfl rfl rfl ?_
     refine gk true rfl rfl rfl rfl rfl ?_
     refine q trivial rfl rfl (pt (v := .bool true) rfl rfl) ?_
     refine nl ?_
     refine nN ?_
     refine cdt rfl ?_
     refine sq ?_
     refine rg ?_
     refine q trivial rfl rfl (asg (v := .bool false) rfl) ?_
     refine nl ?_
     refine nN ?_
     refine rt (bR (tR (tR (bR (tR ?_)))))
     refine fret (v := .bool false) (.tmp .nil) rfl ?_
     have e1 : false = userOk s := by first | exact (user_bad (k := k) (by omega) (.inl (by assumption))).symm | exact (user_bad (k := k) (by omega) (.inr (by assumption))).symm | exact user_end (by omega) ha
     exact ⟨(congrArg (Value.bool) e1), hs2⟩
   · have h4 : (letC (s.getD k 0)) = true := by simpa using h2
     refine q ⟨_, rfl, rfl⟩ rfl rfl (mv (v := Str s) rfl) ?_
     refine q ⟨_, rfl, rfl⟩ rfl rfl (mv (v := I ((k : Nat) : Int)) rfl) ?_
     refine q ⟨_, rfl, rfl⟩ rfl rfl (ixs (l := s) k st9 rfl rfl (by first | omega | (simp; done) | (simp; omega))) ?_
     refine q ⟨_, rfl, rfl⟩ rfl rfl (eqi (k := .u8) (a := (((s.getD k 0).toNat : Nat) : Int)) (b := 45) rfl rfl) ?_
     refine q trivial rfl rfl (pf (v := .bool (decide ((((s.getD k 0).toNat : Nat) : Int) = 45))) rfl rfl) ?_
     refine nl ?_
     refine nN ?_
     refine cdd (p := (((s.getD k 0).toNat : Nat) : Int) = 45) rfl (fun h5 => ?_) (fun h5 => ?_)
     · refine sq ?_
       refine rg ?_
       refine q trivial rfl rfl (asg (v := .bool false) rfl) ?_
       refine nl ?_
       refine nN ?_
       refine rt (bR (tR (tR (bR (tR ?_)))))
       refine fret (v := .bool false) (.tmp .nil) rfl ?_
       have e2 : false = userOk s := by first | exact (user_bad (k := k) (by omega) (.inl (by assumption))).symm | exact (user_bad (k := k) (by omega) (.inr (by assumption))).symm | exact user_end (by omega) ha
       exact ⟨(congrArg (Value.bool) e2), hs2⟩
     · refine sk ?_
       refine bN ?_
       refine nN ?_
       refine rg ?_
       refine q trivial rfl rfl (mv (v := I ((k : Nat) : Int)) rfl) ?_
       refine q trivial rfl rfl (add (a := ((k : Nat) : Int)) (b := 1) rfl rfl (by exact ⟨by omega, by omega⟩)) ?_
       refine q trivial rfl rfl (asg (v := I (((k : Nat) : Int) + 1)) rfl) ?_
       refine nl ?_
       refine nN ?_
       refine ⟨(k + 1), ⟨⟨rfl, rfl, trivial⟩, (by omega), (all_step (d := 0) (by omega) ha (user_mk (by assumption) (by assumption))), hs2⟩, ?_⟩
       omega
 · refine ex (tE (tE (bE ?_)))
   refine nN ?_
   refine sq ?_
   refine rg ?_
   refine q trivial rfl rfl (mv (v := Str s) rfl) ?_
   refine q trivial rfl rfl (lnS (l := s) st9 rfl) ?_
   refine q trivial rfl rfl (leq (k := .i64) (a := ((s.length : Nat) : Int)) (b := 8) rfl rfl) ?_
   refine q trivial rfl rfl (asg (v := .bool (decide (((s.length : Nat) : Int) ≤ 8))) rfl) ?_
   refine nl ?_
   refine nN ?_
   refine rt ?_
   refine fret (v := .bool (decide (((s.length : Nat) : Int) ≤ 8))) (.tmp .nil) rfl ?_
   have e3 : (decide (((s.length : Nat) : Int) ≤ 8)) = userOk s := by first | exact (user_bad (k := k) (by omega) (.inl (by assumption))).symm | exact (user_bad (k := k) (by omega) (.inr (by assumption))).symm | exact user_end (by omega) ha
   exact ⟨(congrArg (Value.bool) e3), hs1⟩

theorem l5Has {Azs : Option Addr} {czs : Nat} (zs : List Int) (n : Int) (w : World) (hzs : Sl w [] 1 Azs zs.length czs (zs.map I)) : Does Try.prog 68 [.slice Azs zs.length czs, I n] w (fun v w' => v = .bool (decide (n ∈ zs)) ∧ SH w w' [] []) := by
 refine fn_enter (N := 18) Try.func68 rfl (by kernel_rfl) rfl rfl rfl ?_
 have hs0 : SH w w [] [] := SH.refl w []
 have hzs_m : zs.length ≤ 9223372036854775807 := Nat.le_trans hzs.cap hzs.capMax
 refine sq ?_
 refine rg ?_
 refine q trivial rfl rfl (asg (v := .bool false) rfl) ?_
 refine nl ?_
 refine nN ?_
 refine sq ?_
 refine sq ?_
 refine rg ?_
 refine q trivial rfl rfl (asg (v := I 0) rfl) ?_
 refine nl ?_
 refine nN ?_
 refine bl ?_
 refine lp (σ := Nat) (fun (k : Nat) f w' => Has f [(0, .slice Azs zs.length czs), (1, I n), (5, I ((k : Nat) : Int))] ∧ (k ≤ zs.length) ∧ (n ∉ zs.take k) ∧ SH w w' [] []) (fun k => zs.length - k) 0 ⟨⟨rfl, rfl, rfl, trivial⟩, (by simp), (by simp), hs0⟩ ?_
 rintro k f w1 ⟨hf, hk, hn, hs1⟩
 obtain ⟨g1, rfl⟩ := has_upd hf
 clear hf
 refine sq ?_
 refine sq ?_
 refine rg ?_
 refine q trivial rfl rfl (mv (v := I ((k : Nat) : Int)) rfl) ?_
 refine q trivial rfl rfl (mv (v := .slice Azs zs.length czs) rfl) ?_
 refine q trivial rfl rfl (lnA (n := zs.length) sl24 rfl) ?_
 refine q trivial rfl rfl (lss (k := .i64) (a := ((k : Nat) : Int)) (b := ((zs.length : Nat) : Int)) rfl rfl) ?_
 refine nl ?_
 refine nN ?_
 refine cdd (p := ((k : Nat) : Int) < ((zs.length : Nat) : Int)) rfl (fun h1 => ?_) (fun h1 => ?_)
 · refine sk ?_
   refine nN ?_
   refine sq ?_
   refine bl ?_
   refine sq ?_
   refine rg ?_
   refine q trivial rfl rfl (mv (v := .slice Azs zs.length czs) rfl) ?_
   refine q trivial rfl rfl (mv (v := I ((k : Nat) : Int)) rfl) ?_
   refine ixw1 k sl24 rfl rfl hzs (by first | omega | (simp; done) | (simp; omega)) (getm I 0 (by first | omega | (simp; done) | (simp; omega))) trivial rfl (fun a1 ha1 => ?_)
   refine q trivial rfl rfl (lda (v := I (zs.getD k 0)) hs1 ha1 (fun _ h => h) rfl rfl one3) ?_
   refine q trivial rfl rfl (mv (v := I n) rfl) ?_
   refine q trivial rfl rfl (eqi (k := .i64) (a := zs.getD k 0) (b := n) rfl rfl) ?_
   refine nl ?_
   refine nN ?_
   refine cdd (p := (zs.getD k 0) = n) rfl (fun h2 => ?_) (fun h2 => ?_)
   · refine sq ?_
     refine rg ?_
     refine q trivial rfl rfl (asg (v := .bool true) rfl) ?_
     refine nl ?_
     refine nN ?_
     refine rt (bR (tR (tR (bR (tR ?_)))))
     refine fret (v := .bool true) (.tmp .nil) rfl ?_
     have e1 : true = (decide (n ∈ zs)) := by exact (decide_eq_true (has_yes (k := k) (by omega) (by omega))).symm
     exact ⟨(congrArg (Value.bool) e1), hs1⟩
   · refine sk ?_
     refine bN ?_
     refine nN ?_
     refine rg ?_
     refine q trivial rfl rfl (mv (v := I ((k : Nat) : Int)) rfl) ?_
     refine q trivial rfl rfl (add (a := ((k : Nat) : Int)) (b := 1) rfl rfl (by exact ⟨by omega, by omega⟩)) ?_
     refine q trivial rfl rfl (asg (v := I (((k : Nat) : Int) + 1)) rfl) ?_
     refine nl ?_
     refine nN ?_
     refine ⟨(k + 1), ⟨⟨rfl, rfl, rfl, trivial⟩, (by omega), (has_step (by omega) hn (by omega)), hs1⟩, ?_⟩
     omega
 · refine ex (tE (tE (bE ?_)))
   refine nN ?_
   refine sq ?_
   refine rg ?_
   refine q trivial rfl rfl (asg (v := .bool false) rfl) ?_
   refine nl ?_
   refine nN ?_
   refine rt ?_
   refine fret (v := .bool false) (.tmp .nil) rfl ?_
   have e2 : false = (decide (n ∈ zs)) := by exact (decide_eq_false (has_no (k := k) (by omega) hn)).symm
   exact ⟨(congrArg (Value.bool) e2), hs1⟩

theorem sL5Ok {Ams : Option Addr} {cms : Nat} (ms : List Int) (w : World) (hms : Sl w [] 1 Ams ms.length cms (ms.map I)) : Does Try.prog 53 [.slice Ams ms.length cms] w (fun v w' => v = .bool (methOk ms) ∧ SH w w' [] []) := by
 refine fn_enter (N := 29) Try.func53 rfl (by kernel_rfl) rfl rfl rfl ?_
 have hs0 : SH w w [] [] := SH.refl w []
 have hms_m : ms.length ≤ 9223372036854775807 := Nat.le_trans hms.cap hms.capMax
 refine sq ?_
 refine rg ?_
 refine q trivial rfl rfl (asg (v := .bool false) rfl) ?_
 refine nl ?_
 refine nN ?_
 refine sq ?_
 refine sq ?_
 refine rg ?_
 refine q trivial rfl rfl (asg (v := I 0) rfl) ?_
 refine nl ?_
 refine nN ?_
 refine bl ?_
 refine lp (σ := Nat) (fun (k : Nat) f w' => Has f [(0, .slice Ams ms.length cms), (3, I ((k : Nat) : Int))] ∧ (k ≤ ms.length) ∧ (methT ms k) ∧ SH w w' [] []) (fun k => ms.length - k) 0 ⟨⟨rfl, rfl, trivial⟩, (by simp), (methT0 ms), hs0⟩ ?_
 rintro k f w1 ⟨hf, hk, ha, hs1⟩
 obtain ⟨g1, rfl⟩ := has_upd hf
 clear hf
 refine sq ?_
 refine sq ?_
 refine rg ?_
 refine q trivial rfl rfl (mv (v := I ((k : Nat) : Int)) rfl) ?_
 refine q trivial rfl rfl (mv (v := .slice Ams ms.length cms) rfl) ?_
 refine q trivial rfl rfl (lnA (n := ms.length) sl24 rfl) ?_
 refine q trivial rfl rfl (lss (k := .i64) (a := ((k : Nat) : Int)) (b := ((ms.length : Nat) : Int)) rfl rfl) ?_
 refine nl ?_
 refine nN ?_
 refine cdd (p := ((k : Nat) : Int) < ((ms.length : Nat) : Int)) rfl (fun h1 => ?_) (fun h1 => ?_)
 · refine sk ?_
   refine nN ?_
   refine sq ?_
   refine bl ?_
   refine sq ?_
   refine rq (fun w' => SH w w' [] []) mixed (by kernel_rfl) hs1.drew ?_
   refine qq trivial rfl rfl (fun wq hsq => mv (v := .slice Ams ms.length cms) rfl) ?_
   refine qq trivial rfl rfl (fun wq hsq => mv (v := I ((k : Nat) : Int)) rfl) ?_
   refine ixq1 k sl24 rfl rfl hms (by first | omega | (simp; done) | (simp; omega)) (getm I 0 (by first | omega | (simp; done) | (simp; omega))) trivial rfl (fun a1 ha1 => ?_)
   refine qq trivial rfl rfl (fun wq hsq => lda (v := I (ms.getD k 0)) hsq ha1 (fun _ h => h) rfl rfl one3) ?_
   refine qc (.bool (decide (0 ≤ (ms.getD k 0) ∧ (ms.getD k 0) ≤ 254))) trivial rfl (fun wq hsq => (sIn (x := ms.getD k 0) (lo := 0) (hi := 254) (w := _)).mono (fun v w' h => ⟨h.1, by simpa using hsq.call0 h.2⟩)) ?_
   refine qq trivial rfl rfl (fun wq hsq => nd (p := 0 ≤ (ms.getD k 0) ∧ (ms.getD k 0) ≤ 254) rfl) ?_
   refine qq trivial rfl rfl (fun wq hsq => mv (v := .bool (decide (¬ (0 ≤ (ms.getD k 0) ∧ (ms.getD k 0) ≤ 254)))) rfl) ?_
   refine qspd (p := ¬ (0 ≤ (ms.getD k 0) ∧ (ms.getD k 0) ≤ 254)) 16 rfl (fun h2 => ?_) (fun h2 => ?_)
   · refine qk true rfl rfl rfl rfl rfl ?_
     refine qk true rfl rfl rfl rfl rfl ?_
     refine qk true rfl rfl rfl rfl rfl ?_
     refine qk true rfl rfl rfl rfl rfl ?_
     refine qk true rfl rfl rfl rfl rfl ?_
     refine qk true rfl rfl rfl rfl rfl ?_
     refine qk true rfl rfl rfl rfl rfl ?_
     refine qk true rfl rfl rfl rfl rfl ?_
     refine qq trivial rfl rfl (fun wq hsq => pt (v := .bool true) rfl rfl) ?_
     refine qn (fun w2 hs2 => ?_)
     refine nN ?_
     refine cdt rfl ?_
     refine sq ?_
     refine rg ?_
     refine q trivial rfl rfl (asg (v := .bool false) rfl) ?_
     refine nl ?_
     refine nN ?_
     refine rt (bR (tR (tR (bR (tR ?_)))))
     refine fret (v := .bool false) (.tmp .nil) rfl ?_
     have e1 : false = methOk ms := by first | exact (meth_bad1 (k := k) (by omega) (by assumption)).symm | exact (meth_bad2 (k := k) (by omega) (by assumption)).symm | exact meth_end (by omega) ha
     exact ⟨(congrArg (Value.bool) e1), hs2⟩
   · refine qq ⟨_, rfl, rfl⟩ rfl rfl (fun wq hsq => mv (v := .slice Ams ms.length cms) rfl) ?_
     refine qq ⟨_, rfl, rfl⟩ rfl rfl (fun wq hsq => mv (v := I ((k : Nat) : Int)) rfl) ?_
     refine qq ⟨_, rfl, rfl⟩ rfl rfl (fun wq hsq => cuhm_ (zs := ms) k sl24 rfl rfl (by first | omega | (simp; done) | (simp; omega)) hms.cap) ?_
     refine qq ⟨_, rfl, rfl⟩ rfl rfl (fun wq hsq => mv (v := .slice Ams ms.length cms) rfl) ?_
     refine qq ⟨_, rfl, rfl⟩ rfl rfl (fun wq hsq => mv (v := I ((k : Nat) : Int)) rfl) ?_
     refine ixq1 k sl24 rfl rfl hms (by first | omega | (simp; done) | (simp; omega)) (getm I 0 (by first | omega | (simp; done) | (simp; omega))) ⟨_, rfl, rfl⟩ rfl (fun a2 ha2 => ?_)
     refine qq ⟨_, rfl, rfl⟩ rfl rfl (fun wq hsq => lda (v := I (ms.getD k 0)) hsq ha2 (fun _ h => h) rfl rfl one3) ?_
     refine qc (.bool (decide ((ms.getD k 0) ∈ (ms.take k)))) ⟨_, rfl, rfl⟩ rfl (fun wq hsq => (l5Has (Azs := Ams) (czs := cms) (zs := ms.take k) (n := ms.getD k 0) (w := _) (hzs := (Sl.cuthm (hms.up0 hsq) (by first | omega | (simp; done) | (simp; omega))))).mono (fun v w' h => ⟨h.1, by simpa using hsq.call0 h.2⟩)) ?_
     refine qq trivial rfl rfl (fun wq hsq => pf (v := .bool (decide ((ms.getD k 0) ∈ (ms.take k)))) rfl rfl) ?_
     refine qn (fun w3 hs3 => ?_)
     refine nN ?_
     refine cdd (p := (ms.getD k 0) ∈ (ms.take k)) rfl (fun h3 => ?_) (fun h3 => ?_)
     · refine sq ?_
       refine rg ?_
       refine q trivial rfl rfl (asg (v := .bool false) rfl) ?_
       refine nl ?_
       refine nN ?_
       refine rt (bR (tR (tR (bR (tR ?_)))))
       refine fret (v := .bool false) (.tmp .nil) rfl ?_
       have e2 : false = methOk ms := by first | exact (meth_bad1 (k := k) (by omega) (by assumption)).symm | exact (meth_bad2 (k := k) (by omega) (by assumption)).symm | exact meth_end (by omega) ha
       exact ⟨(congrArg (Value.bool) e2), hs3⟩
     · refine sk ?_
       refine bN ?_
       refine nN ?_
       refine rg ?_
       refine q trivial rfl rfl (mv (v := I ((k : Nat) : Int)) rfl) ?_
       refine q trivial rfl rfl (add (a := ((k : Nat) : Int)) (b := 1) rfl rfl (by exact ⟨by omega, by omega⟩)) ?_
       refine q trivial rfl rfl (asg (v := I (((k : Nat) : Int) + 1)) rfl) ?_
       refine nl ?_
       refine nN ?_
       refine ⟨(k + 1), ⟨⟨rfl, rfl, trivial⟩, (by omega), (methT_step (by omega) ha (Decidable.not_not.1 (by assumption)) (by assumption)), hs3⟩, ?_⟩
       omega
 · refine ex (tE (tE (bE ?_)))
   refine nN ?_
   refine sq ?_
   refine rg ?_
   refine q trivial rfl rfl (mv (v := .slice Ams ms.length cms) rfl) ?_
   refine q trivial rfl rfl (lnA (n := ms.length) sl24 rfl) ?_
   refine cl trivial rfl (sIn (x := ((ms.length : Nat) : Int)) (lo := 1) (hi := 8) (w := _)) ?_
   rintro _ w4 ⟨rfl, hs4'⟩
   have hs4 : SH w w4 [] [] := hs1.call0 hs4'
   clear hs4'
   refine q trivial rfl rfl (asg (v := .bool (decide (1 ≤ ((ms.length : Nat) : Int) ∧ ((ms.length : Nat) : Int) ≤ 8))) rfl) ?_
   refine nl ?_
   refine nN ?_
   refine rt ?_
   refine fret (v := .bool (decide (1 ≤ ((ms.length : Nat) : Int) ∧ ((ms.length : Nat) : Int) ≤ 8))) (.tmp .nil) rfl ?_
   have e3 : (decide (1 ≤ ((ms.length : Nat) : Int) ∧ ((ms.length : Nat) : Int) ≤ 8)) = methOk ms := by first | exact (meth_bad1 (k := k) (by omega) (by assumption)).symm | exact (meth_bad2 (k := k) (by omega) (by assumption)).symm | exact meth_end (by omega) ha
   exact ⟨(congrArg (Value.bool) e3), hs4⟩

theorem sAddressValid (ak : Int) {Aaq : Option Addr} {caq : Nat} (aq : List Int) (an : List UInt8) (apt : Int) (w : World) (haq : Sl w [] 1 Aaq aq.length caq (aq.map I)) (han_n : an.length ≤ 1099511627776) : Does Try.prog 54 [.agg #[I ak, .slice Aaq aq.length caq, Str an, I apt]] w (fun v w' => v = .bool (addrOk ak aq an apt) ∧ SH w w' [] []) := by
 refine fn_enter (N := 30) Try.func54 rfl (by kernel_rfl) rfl rfl rfl ?_
 have hs0 : SH w w [] [] := SH.refl w []
 have haq_m : aq.length ≤ 9223372036854775807 := Nat.le_trans haq.cap haq.capMax
 refine sq ?_
 refine rg ?_
 refine bx (v := .agg #[I ak, .slice Aaq aq.length caq, Str an, I apt]) (cs := [I ak, .slice Aaq aq.length caq, Str an, I apt]) hs0 rfl rfl trivial rfl (fun b1 w1 (hs1 : SH w w1 [] [.blk b1 52 [I ak, .slice Aaq aq.length caq, Str an, I apt]]) => ?_)
 refine q trivial rfl rfl (asg (v := .bool false) rfl) ?_
 refine nl ?_
 refine nN ?_
 refine sq ?_
 refine sq ?_
 refine rg ?_
 refine q trivial rfl rfl (fa 3 fo52_3 rfl) ?_
 refine q trivial rfl rfl (ld (v := I apt) hs1 0 rfl rfl rfl one3) ?_
 refine cl trivial rfl (sIn (x := apt) (lo := 0) (hi := 65535) (w := _)) ?_
 rintro _ w2 ⟨rfl, hs2'⟩
 have hs2 : SH w w2 [] [.blk b1 52 [I ak, .slice Aaq aq.length caq, Str an, I apt]] := hs1.call0 hs2'
 clear hs2'
 refine q trivial rfl rfl (nd (p := 0 ≤ apt ∧ apt ≤ 65535) rfl) ?_
 refine nl ?_
 refine nN ?_
 refine cdd (p := ¬ (0 ≤ apt ∧ apt ≤ 65535)) rfl (fun h1 => ?_) (fun h1 => ?_)
 · refine sq ?_
   refine rg ?_
   refine q trivial rfl rfl (asg (v := .bool false) rfl) ?_
   refine nl ?_
   refine nN ?_
   refine rt (tR ?_)
   refine fret (v := .bool false) (.tmp .nil) rfl ?_
   have e1 : false = addrOk ak aq an apt := by first | (rw [addr_is1 (by assumption)]; simp [h1]; done) | (rw [addr_is3 (by assumption)]; simp [h1]; done) | (rw [addr_is3 (by assumption)]; have hq0 : aq = [] := List.eq_nil_of_length_eq_zero (by omega); simp [hq0, h1]; done) | (rw [addr_is3 (by assumption)]; have hq0 : ¬ aq = [] := fun he => absurd (by rw [he]; rfl : ((aq.length : Nat) : Int) = 0) (by assumption); simp [hq0, h1]; done) | (rw [addr_is1 (by assumption)]; have hp0 : 0 ≤ apt ∧ apt ≤ 65535 := Decidable.not_not.1 (by assumption); simp [hp0.1, hp0.2, h1]; done) | (rw [addr_is3 (by assumption)]; have hp0 : 0 ≤ apt ∧ apt ≤ 65535 := Decidable.not_not.1 (by assumption); simp [hp0.1, hp0.2, h1]; done) | exact (addr_port _ _ (by assumption)).symm | exact (addr_no _ _ _ (by assumption) (by assumption)).symm
   exact ⟨(congrArg (Value.bool) e1), (hs2.pick [] rfl (by decide))⟩
 · refine sk ?_
   refine nN ?_
   refine sq ?_
   refine sq ?_
   refine rg ?_
   refine q trivial rfl rfl (fa 0 fo52_0 rfl) ?_
   refine q trivial rfl rfl (ld (v := I ak) hs2 0 rfl rfl rfl one3) ?_
   refine nl ?_
   refine nN ?_
   refine bl ?_
   refine sq ?_
   refine rg ?_
   refine q trivial rfl rfl (eqi (k := .i64) (a := ak) (b := 1) rfl rfl) ?_
   refine q trivial rfl rfl (asg (v := .bool (decide (ak = 1))) rfl) ?_
   refine nl ?_
   refine nN ?_
   refine cdd (p := ak = 1) rfl (fun h2 => ?_) (fun h2 => ?_)
   · refine sq ?_
     refine rg ?_
     refine q trivial rfl rfl (fa 1 fo52_1 rfl) ?_
     refine q trivial rfl rfl (ld (v := .slice Aaq aq.length caq) hs2 0 rfl rfl rfl one24) ?_
     refine cl trivial rfl (sQuadValid (Aqs := Aaq) (cqs := caq) (qs := aq) (w := _) (hqs := (haq.up0 hs2))) ?_
     rintro _ w3 ⟨rfl, hs3'⟩
     have hs3 : SH w w3 [] [.blk b1 52 [I ak, .slice Aaq aq.length caq, Str an, I apt]] := hs2.call0 hs3'
     clear hs3'
     refine q trivial rfl rfl (mv (v := .bool (quadOk aq)) rfl) ?_
     refine spl (b := quadOk aq) 14 rfl (fun h3 => ?_) (fun h3 => ?_)
     · refine q ⟨_, rfl, rfl⟩ rfl rfl (fa 2 fo52_2 rfl) ?_
       refine q ⟨_, rfl, rfl⟩ rfl rfl (ld (v := Str an) hs3 0 rfl rfl rfl one9) ?_
       refine q ⟨_, rfl, rfl⟩ rfl rfl (eqs (l := an) (m := []) rfl rfl) ?_
       refine q trivial rfl rfl (pt (v := .bool (decide (an = []))) rfl rfl) ?_
       refine q trivial rfl rfl (asg (v := .bool (decide (an = []))) rfl) ?_
       refine nl ?_
       refine nN ?_
       refine rt (bR (tR ?_))
       refine fret (v := .bool (decide (an = []))) (.tmp .nil) rfl ?_
       have e2 : (decide (an = [])) = addrOk ak aq an apt := by first | (rw [addr_is1 (by assumption)]; simp [h1, h2, h3]; done) | (rw [addr_is3 (by assumption)]; simp [h1, h2, h3]; done) | (rw [addr_is3 (by assumption)]; have hq0 : aq = [] := List.eq_nil_of_length_eq_zero (by omega); simp [hq0, h1, h2, h3]; done) | (rw [addr_is3 (by assumption)]; have hq0 : ¬ aq = [] := fun he => absurd (by rw [he]; rfl : ((aq.length : Nat) : Int) = 0) (by assumption); simp [hq0, h1, h2, h3]; done) | (rw [addr_is1 (by assumption)]; have hp0 : 0 ≤ apt ∧ apt ≤ 65535 := Decidable.not_not.1 (by assumption); simp [hp0.1, hp0.2, h1, h2, h3]; done) | (rw [addr_is3 (by assumption)]; have hp0 : 0 ≤ apt ∧ apt ≤ 65535 := Decidable.not_not.1 (by assumption); simp [hp0.1, hp0.2, h1, h2, h3]; done) | exact (addr_port _ _ (by assumption)).symm | exact (addr_no _ _ _ (by assumption) (by assumption)).symm
       exact ⟨(congrArg (Value.bool) e2), (hs3.pick [] rfl (by decide))⟩
     · refine gk false rfl rfl rfl rfl rfl ?_
       refine gk false rfl rfl rfl rfl rfl ?_
       refine gk false rfl rfl rfl rfl rfl ?_
       refine q trivial rfl rfl (pf (v := .bool false) rfl rfl) ?_
       refine q trivial rfl rfl (asg (v := .bool false) rfl) ?_
       refine nl ?_
       refine nN ?_
       refine rt (bR (tR ?_))
       refine fret (v := .bool false) (.tmp .nil) rfl ?_
       have e3 : false = addrOk ak aq an apt := by first | (rw [addr_is1 (by assumption)]; simp [h1, h2, h3]; done) | (rw [addr_is3 (by assumption)]; simp [h1, h2, h3]; done) | (rw [addr_is3 (by assumption)]; have hq0 : aq = [] := List.eq_nil_of_length_eq_zero (by omega); simp [hq0, h1, h2, h3]; done) | (rw [addr_is3 (by assumption)]; have hq0 : ¬ aq = [] := fun he => absurd (by rw [he]; rfl : ((aq.length : Nat) : Int) = 0) (by assumption); simp [hq0, h1, h2, h3]; done) | (rw [addr_is1 (by assumption)]; have hp0 : 0 ≤ apt ∧ apt ≤ 65535 := Decidable.not_not.1 (by assumption); simp [hp0.1, hp0.2, h1, h2, h3]; done) | (rw [addr_is3 (by assumption)]; have hp0 : 0 ≤ apt ∧ apt ≤ 65535 := Decidable.not_not.1 (by assumption); simp [hp0.1, hp0.2, h1, h2, h3]; done) | exact (addr_port _ _ (by assumption)).symm | exact (addr_no _ _ _ (by assumption) (by assumption)).symm
       exact ⟨(congrArg (Value.bool) e3), (hs3.pick [] rfl (by decide))⟩
   · refine sq ?_
     refine rg ?_
     refine q trivial rfl rfl (eqi (k := .i64) (a := ak) (b := 3) rfl rfl) ?_
     refine q trivial rfl rfl (asg (v := .bool (decide (ak = 3))) rfl) ?_
     refine nl ?_
     refine nN ?_
     refine cdd (p := ak = 3) rfl (fun h4 => ?_) (fun h4 => ?_)
     · refine sq ?_
       refine rg ?_
       refine q trivial rfl rfl (fa 2 fo52_2 rfl) ?_
       refine q trivial rfl rfl (ld (v := Str an) hs2 0 rfl rfl rfl one9) ?_
       refine cl trivial rfl (sNameValid (l := an) (w := _) (hl_n := (by first | omega | (simp; done) | (simp; omega)))) ?_
       rintro _ w4 ⟨rfl, hs4'⟩
       have hs4 : SH w w4 [] [.blk b1 52 [I ak, .slice Aaq aq.length caq, Str an, I apt]] := hs2.call0 hs4'
       clear hs4'
       refine q trivial rfl rfl (mv (v := .bool (nameOk an)) rfl) ?_
       refine spl (b := nameOk an) 24 rfl (fun h5 => ?_) (fun h5 => ?_)
       · refine q ⟨_, rfl, rfl⟩ rfl rfl (fa 1 fo52_1 rfl) ?_
         refine q ⟨_, rfl, rfl⟩ rfl rfl (ld (v := .slice Aaq aq.length caq) hs4 0 rfl rfl rfl one24) ?_
         refine q ⟨_, rfl, rfl⟩ rfl rfl (lnA (n := aq.length) sl24 rfl) ?_
         refine q ⟨_, rfl, rfl⟩ rfl rfl (eqi (k := .i64) (a := ((aq.length : Nat) : Int)) (b := 0) rfl rfl) ?_
         refine q trivial rfl rfl (pt (v := .bool (decide (((aq.length : Nat) : Int) = 0))) rfl rfl) ?_
         refine q trivial rfl rfl (asg (v := .bool (decide (((aq.length : Nat) : Int) = 0))) rfl) ?_
         refine nl ?_
         refine nN ?_
         refine rt (bR (tR ?_))
         refine fret (v := .bool (decide (((aq.length : Nat) : Int) = 0))) (.tmp .nil) rfl ?_
         have e4 : (decide (((aq.length : Nat) : Int) = 0)) = addrOk ak aq an apt := by first | (rw [addr_is1 (by assumption)]; simp [h1, h2, h4, h5]; done) | (rw [addr_is3 (by assumption)]; simp [h1, h2, h4, h5]; done) | (rw [addr_is3 (by assumption)]; have hq0 : aq = [] := List.eq_nil_of_length_eq_zero (by omega); simp [hq0, h1, h2, h4, h5]; done) | (rw [addr_is3 (by assumption)]; have hq0 : ¬ aq = [] := fun he => absurd (by rw [he]; rfl : ((aq.length : Nat) : Int) = 0) (by assumption); simp [hq0, h1, h2, h4, h5]; done) | (rw [addr_is1 (by assumption)]; have hp0 : 0 ≤ apt ∧ apt ≤ 65535 := Decidable.not_not.1 (by assumption); simp [hp0.1, hp0.2, h1, h2, h4, h5]; done) | (rw [addr_is3 (by assumption)]; have hp0 : 0 ≤ apt ∧ apt ≤ 65535 := Decidable.not_not.1 (by assumption); simp [hp0.1, hp0.2, h1, h2, h4, h5]; done) | exact (addr_port _ _ (by assumption)).symm | exact (addr_no _ _ _ (by assumption) (by assumption)).symm
         exact ⟨(congrArg (Value.bool) e4), (hs4.pick [] rfl (by decide))⟩
       · refine gk false rfl rfl rfl rfl rfl ?_
         refine gk false rfl rfl rfl rfl rfl ?_
         refine gk false rfl rfl rfl rfl rfl ?_
         refine gk false rfl rfl rfl rfl rfl ?_
         refine q trivial rfl rfl (pf (v := .bool false) rfl rfl) ?_
         refine q trivial rfl rfl (asg (v := .bool false) rfl) ?_
         refine nl ?_
         refine nN ?_
         refine rt (bR (tR ?_))
         refine fret (v := .bool false) (.tmp .nil) rfl ?_
         have e5 : false = addrOk ak aq an apt := by first | (rw [addr_is1 (by assumption)]; simp [h1, h2, h4, h5]; done) | (rw [addr_is3 (by assumption)]; simp [h1, h2, h4, h5]; done) | (rw [addr_is3 (by assumption)]; have hq0 : aq = [] := List.eq_nil_of_length_eq_zero (by omega); simp [hq0, h1, h2, h4, h5]; done) | (rw [addr_is3 (by assumption)]; have hq0 : ¬ aq = [] := fun he => absurd (by rw [he]; rfl : ((aq.length : Nat) : Int) = 0) (by assumption); simp [hq0, h1, h2, h4, h5]; done) | (rw [addr_is1 (by assumption)]; have hp0 : 0 ≤ apt ∧ apt ≤ 65535 := Decidable.not_not.1 (by assumption); simp [hp0.1, hp0.2, h1, h2, h4, h5]; done) | (rw [addr_is3 (by assumption)]; have hp0 : 0 ≤ apt ∧ apt ≤ 65535 := Decidable.not_not.1 (by assumption); simp [hp0.1, hp0.2, h1, h2, h4, h5]; done) | exact (addr_port _ _ (by assumption)).symm | exact (addr_no _ _ _ (by assumption) (by assumption)).symm
         exact ⟨(congrArg (Value.bool) e5), (hs4.pick [] rfl (by decide))⟩
     · refine sk ?_
       refine bN ?_
       refine nN ?_
       refine sq ?_
       refine rg ?_
       refine q trivial rfl rfl (asg (v := .bool false) rfl) ?_
       refine nl ?_
       refine nN ?_
       refine rt ?_
       refine fret (v := .bool false) (.tmp .nil) rfl ?_
       have e6 : false = addrOk ak aq an apt := by first | (rw [addr_is1 (by assumption)]; simp [h1, h2, h4]; done) | (rw [addr_is3 (by assumption)]; simp [h1, h2, h4]; done) | (rw [addr_is3 (by assumption)]; have hq0 : aq = [] := List.eq_nil_of_length_eq_zero (by omega); simp [hq0, h1, h2, h4]; done) | (rw [addr_is3 (by assumption)]; have hq0 : ¬ aq = [] := fun he => absurd (by rw [he]; rfl : ((aq.length : Nat) : Int) = 0) (by assumption); simp [hq0, h1, h2, h4]; done) | (rw [addr_is1 (by assumption)]; have hp0 : 0 ≤ apt ∧ apt ≤ 65535 := Decidable.not_not.1 (by assumption); simp [hp0.1, hp0.2, h1, h2, h4]; done) | (rw [addr_is3 (by assumption)]; have hp0 : 0 ≤ apt ∧ apt ≤ 65535 := Decidable.not_not.1 (by assumption); simp [hp0.1, hp0.2, h1, h2, h4]; done) | exact (addr_port _ _ (by assumption)).symm | exact (addr_no _ _ _ (by assumption) (by assumption)).symm
       exact ⟨(congrArg (Value.bool) e6), (hs2.pick [] rfl (by decide))⟩

set_option maxHeartbeats 8000000 in
theorem l91Quad {rb : Nat} {Ab : Option Addr} {cb : Nat} {bs : List UInt8} {p : Nat} (w : World) (hr : w.heap[rb]? = some (.cells [.slice Ab bs.length cb, .int .i64 ((p : Nat) : Int)].toArray 47 (0, 0))) (hb : Sl w [rb] 1 Ab bs.length cb (bs.map U)) (hbn : bs.length ≤ 2000) (hp : p ≤ 549755813888) : Does Try.prog 57 [pB rb] w (fun v w' => ∃ Ar : Option Addr, ∃ cr : Nat, ∃ r : List Int, ∃ q : Nat, v = .slice Ar r.length cr ∧ (r.length ≤ 4) ∧ (q ≤ p + 10) ∧ SH w w' [rb] [.blk rb 47 [.slice Ab bs.length cb, I ((q : Nat) : Int)], .own Ar r.length cr 3 1 (r.map I)]) := by
 refine fn_enter (N := 31) Try.func57 rfl (by kernel_rfl) rfl rfl rfl ?_
 have hs0 : SH w w [rb] [.blk rb 47 [.slice Ab bs.length cb, I ((p : Nat) : Int)]] := SH.entry1 hr
 refine sq ?_
 refine rg ?_
 refine q trivial rfl rfl (asg (v := ns) rfl) ?_
 refine nl ?_
 refine nN ?_
 refine sq ?_
 refine raJ (fun w' => ∃ L, SH w w' [rb] L ∧ True) (fun f w' => ∃ (r1' : Int) (q1' b2' : Nat) (r4' : Int) (q4' : Nat) (r8' : Int) (q8' : Nat) (r10' : Int) (q10' : Nat) (r12' : Int) (q12' b13' : Nat), Has f [(0, pB rb), (3, sb b13' (([([0, 1, 10, 255, r1'] : List Int).getD r4'.toNat 0, r8', r10', r12'] : List Int).length) 4)] ∧ (0 ≤ r1' ∧ (r1' < 256 ∨ r1' = 0)) ∧ (q1' ≤ p + 1) ∧ (0 ≤ r4' ∧ (r4' < 5 ∨ r4' = 0)) ∧ (q4' ≤ q1' + 1) ∧ (0 ≤ r8' ∧ (r8' < 2 ∨ r8' = 0)) ∧ (q8' ≤ q4' + 1) ∧ (0 ≤ r10' ∧ (r10' < 2 ∨ r10' = 0)) ∧ (q10' ≤ q8' + 1) ∧ (0 ≤ r12' ∧ (r12' < 256 ∨ r12' = 0)) ∧ (q12' ≤ q10' + 1) ∧ SH w w' [rb] [.blk rb 47 [.slice Ab bs.length cb, I ((q12' : Nat) : Int)], oI b13' ([([0, 1, 10, 255, r1'] : List Int).getD r4'.toNat 0, r8', r10', r12'] : List Int) 4 3, oI b2' ([0, 1, 10, 255, r1'] : List Int) 5 3]) mixed ?_ ?_
 · refine dag (fuel' := 2) (listed' := lbits 15 8191) (fun f w' => ∃ (r1' : Int) (q1' b2' : Nat) (r4' : Int) (q4' : Nat) (r8' : Int) (q8' : Nat) (r10' : Int) (q10' : Nat) (r12' : Int) (q12' : Nat), Has f [(0, pB rb), (10, I (([0, 1, 10, 255, r1'] : List Int).getD r4'.toNat 0)), (12, I r8'), (14, I r10'), (16, I r12')] ∧ (0 ≤ r1' ∧ (r1' < 256 ∨ r1' = 0)) ∧ (q1' ≤ p + 1) ∧ (0 ≤ r4' ∧ (r4' < 5 ∨ r4' = 0)) ∧ (q4' ≤ q1' + 1) ∧ (0 ≤ r8' ∧ (r8' < 2 ∨ r8' = 0)) ∧ (q8' ≤ q4' + 1) ∧ (0 ≤ r10' ∧ (r10' < 2 ∨ r10' = 0)) ∧ (q10' ≤ q8' + 1) ∧ (0 ≤ r12' ∧ (r12' < 256 ∨ r12' = 0)) ∧ (q12' ≤ q10' + 1) ∧ SH w w' [rb] [.blk rb 47 [.slice Ab bs.length cb, I ((q12' : Nat) : Int)], oI b2' ([0, 1, 10, 255, r1'] : List Int) 5 3]) ?_ (fun D_1_0 => ?_)
   · rintro f w1 ⟨r1', q1', b2', r4', q4', r8', q8', r10', q10', r12', q12', hf, p1, p2, p3, p4, p5, p6, p7, p8, p9, p10, hs1⟩
     obtain ⟨g1, rfl⟩ := has_upd hf
     clear hf
     refine aaL [13] (fa_one ?_)
     refine one_ rfl ?_
     refine bsk hs1 sl24 [I (([0, 1, 10, 255, r1'] : List Int).getD r4'.toNat 0), I r8', I r10', I r12'] [I (([0, 1, 10, 255, r1'] : List Int).getD r4'.toNat 0), I r8', I r10', I r12'] trivial rfl (fun b13' w2 hs2 => ?_)
     refine nl (kq ⟨_, hs2, trivial⟩ ?_)
     refine tk (fuel := 0) (is := [14]) (.cons rfl (.nil)) (by kernel_rfl) (by kernel_rfl) ⟨_, hs2, trivial⟩ ?_
     refine .op trivial rfl rfl (fun wq _ => asg (v := sb b13' (([([0, 1, 10, 255, r1'] : List Int).getD r4'.toNat 0, r8', r10', r12'] : List Int).length) 4) rfl) ?_
     refine .nil ?_
     refine ad (by kernel_rfl) ?_
     exact ⟨r1', q1', b2', r4', q4', r8', q8', r10', q10', r12', q12', b13', ⟨rfl, rfl, trivial⟩, p1, p2, p3, p4, p5, p6, p7, p8, p9, p10, (hs2.pick [0, 2, 1] rfl (by decide))⟩
   refine dag (fuel' := 3) (listed' := lbits 15 4095) (fun f w' => ∃ (r1' : Int) (q1' b2' : Nat) (r4' : Int) (q4' : Nat) (r8' : Int) (q8' : Nat) (r10' : Int) (q10' : Nat), Has f [(0, pB rb), (10, I (([0, 1, 10, 255, r1'] : List Int).getD r4'.toNat 0)), (12, I r8'), (14, I r10'), (15, pB rb)] ∧ (0 ≤ r1' ∧ (r1' < 256 ∨ r1' = 0)) ∧ (q1' ≤ p + 1) ∧ (0 ≤ r4' ∧ (r4' < 5 ∨ r4' = 0)) ∧ (q4' ≤ q1' + 1) ∧ (0 ≤ r8' ∧ (r8' < 2 ∨ r8' = 0)) ∧ (q8' ≤ q4' + 1) ∧ (0 ≤ r10' ∧ (r10' < 2 ∨ r10' = 0)) ∧ (q10' ≤ q8' + 1) ∧ SH w w' [rb] [.blk rb 47 [.slice Ab bs.length cb, I ((q10' : Nat) : Int)], oI b2' ([0, 1, 10, 255, r1'] : List Int) 5 3]) ?_ (fun D_1_1 => ?_)
   · rintro f w3 ⟨r1', q1', b2', r4', q4', r8', q8', r10', q10', hf, p11, p12, p13, p14, p15, p16, p17, p18, hs3⟩
     obtain ⟨g2, rfl⟩ := has_upd hf
     clear hf
     refine aaL [12] (fa_one ?_)
     refine one_ rfl ?_
     refine cl trivial rfl (pick (rb := rb) (Ab := Ab) (cb := cb) (bs := bs) (p := q10') (n := 256) (w := _) (hr := (blk_heap hs3 0 rfl)) (hb := (hb.up hs3 (fun _ h => h) (fun _ h => .inl h))) (hbn := (by first | assumption | (simp; omega))) (hp := (by omega))) ?_
     rintro _ w4 ⟨r12', q12', rfl, p19, p20, hs4'⟩
     have hs4 := hs3.callM 0 rfl hs4' (by intro k hk; simp at hk; exact hk.symm)
     clear hs4'
     exact nl (kq ⟨_, hs4, trivial⟩ (alc D_1_0 ⟨r1', q1', b2', r4', q4', r8', q8', r10', q10', r12', q12', ⟨rfl, rfl, rfl, rfl, rfl, trivial⟩, p11, p12, p13, p14, p15, p16, p17, p18, p19, p20, (hs4.pick [1, 0] rfl (by decide))⟩))
   refine dag (fuel' := 3) (listed' := lbits 15 8127) (fun f w' => ∃ (r1' : Int) (q1' b2' : Nat) (r4' : Int) (q4' : Nat) (r8' : Int) (q8' : Nat) (r10' : Int) (q10' : Nat) (r12' : Int) (q12' : Nat), Has f [(0, pB rb), (9, .pointer (some ⟨b2', r4'.toNat * 1, none⟩)), (12, I r8'), (14, I r10'), (16, I r12')] ∧ (0 ≤ r1' ∧ (r1' < 256 ∨ r1' = 0)) ∧ (q1' ≤ p + 1) ∧ (0 ≤ r4' ∧ (r4' < 5 ∨ r4' = 0)) ∧ (q4' ≤ q1' + 1) ∧ (0 ≤ r8' ∧ (r8' < 2 ∨ r8' = 0)) ∧ (q8' ≤ q4' + 1) ∧ (0 ≤ r10' ∧ (r10' < 2 ∨ r10' = 0)) ∧ (q10' ≤ q8' + 1) ∧ (0 ≤ r12' ∧ (r12' < 256 ∨ r12' = 0)) ∧ (q12' ≤ q10' + 1) ∧ SH w w' [rb] [.blk rb 47 [.slice Ab bs.length cb, I ((q12' : Nat) : Int)], oI b2' ([0, 1, 10, 255, r1'] : List Int) 5 3]) ?_ (fun D_1_2 => ?_)
   · rintro f w5 ⟨r1', q1', b2', r4', q4', r8', q8', r10', q10', r12', q12', hf, p21, p22, p23, p24, p25, p26, p27, p28, p29, p30, hs5⟩
     obtain ⟨g3, rfl⟩ := has_upd hf
     clear hf
     refine aaL [6] (fa_one ?_)
     refine one_ rfl ?_
     refine q trivial rfl rfl (ldo1n (g := I) (ys := ([0, 1, 10, 255, r1'] : List Int)) (o := r4'.toNat) 0 hs5 1 rfl rfl (by first | omega | (simp; done) | (simp; omega)) one3) ?_
     exact nl (kq ⟨_, hs5, trivial⟩ (alc D_1_0 ⟨r1', q1', b2', r4', q4', r8', q8', r10', q10', r12', q12', ⟨rfl, rfl, rfl, rfl, rfl, trivial⟩, p21, p22, p23, p24, p25, p26, p27, p28, p29, p30, hs5⟩))
   refine dag (fuel' := 4) (listed' := lbits 15 3071) (fun f w' => ∃ (r1' : Int) (q1' b2' : Nat) (r4' : Int) (q4' : Nat) (r8' : Int) (q8' : Nat), Has f [(0, pB rb), (10, I (([0, 1, 10, 255, r1'] : List Int).getD r4'.toNat 0)), (12, I r8'), (13, pB rb), (15, pB rb)] ∧ (0 ≤ r1' ∧ (r1' < 256 ∨ r1' = 0)) ∧ (q1' ≤ p + 1) ∧ (0 ≤ r4' ∧ (r4' < 5 ∨ r4' = 0)) ∧ (q4' ≤ q1' + 1) ∧ (0 ≤ r8' ∧ (r8' < 2 ∨ r8' = 0)) ∧ (q8' ≤ q4' + 1) ∧ SH w w' [rb] [.blk rb 47 [.slice Ab bs.length cb, I ((q8' : Nat) : Int)], oI b2' ([0, 1, 10, 255, r1'] : List Int) 5 3]) ?_ (fun D_1_3 => ?_)
   · rintro f w6 ⟨r1', q1', b2', r4', q4', r8', q8', hf, p31, p32, p33, p34, p35, p36, hs6⟩
     obtain ⟨g4, rfl⟩ := has_upd hf
     clear hf
     refine aaL [10] (fa_one ?_)
     refine one_ rfl ?_
     refine cl trivial rfl (pick (rb := rb) (Ab := Ab) (cb := cb) (bs := bs) (p := q8') (n := 2) (w := _) (hr := (blk_heap hs6 0 rfl)) (hb := (hb.up hs6 (fun _ h => h) (fun _ h => .inl h))) (hbn := (by first | assumption | (simp; omega))) (hp := (by omega))) ?_
     rintro _ w7 ⟨r10', q10', rfl, p37, p38, hs7'⟩
     have hs7 := hs6.callM 0 rfl hs7' (by intro k hk; simp at hk; exact hk.symm)
     clear hs7'
     exact nl (kq ⟨_, hs7, trivial⟩ (alc D_1_1 ⟨r1', q1', b2', r4', q4', r8', q8', r10', q10', ⟨rfl, rfl, rfl, rfl, rfl, trivial⟩, p31, p32, p33, p34, p35, p36, p37, p38, (hs7.pick [1, 0] rfl (by decide))⟩))
   refine dag (fuel' := 4) (listed' := lbits 15 4031) (fun f w' => ∃ (r1' : Int) (q1' b2' : Nat) (r4' : Int) (q4' : Nat) (r8' : Int) (q8' : Nat) (r10' : Int) (q10' : Nat), Has f [(0, pB rb), (9, .pointer (some ⟨b2', r4'.toNat * 1, none⟩)), (12, I r8'), (14, I r10'), (15, pB rb)] ∧ (0 ≤ r1' ∧ (r1' < 256 ∨ r1' = 0)) ∧ (q1' ≤ p + 1) ∧ (0 ≤ r4' ∧ (r4' < 5 ∨ r4' = 0)) ∧ (q4' ≤ q1' + 1) ∧ (0 ≤ r8' ∧ (r8' < 2 ∨ r8' = 0)) ∧ (q8' ≤ q4' + 1) ∧ (0 ≤ r10' ∧ (r10' < 2 ∨ r10' = 0)) ∧ (q10' ≤ q8' + 1) ∧ SH w w' [rb] [.blk rb 47 [.slice Ab bs.length cb, I ((q10' : Nat) : Int)], oI b2' ([0, 1, 10, 255, r1'] : List Int) 5 3]) ?_ (fun D_1_4 => ?_)
   · rintro f w8 ⟨r1', q1', b2', r4', q4', r8', q8', r10', q10', hf, p39, p40, p41, p42, p43, p44, p45, p46, hs8⟩
     obtain ⟨g5, rfl⟩ := has_upd hf
     clear hf
     refine aaL [6, 12] (fa_cons ?_ (fa_one ?_))
     · refine one_ rfl ?_
       refine q trivial rfl rfl (ldo1n (g := I) (ys := ([0, 1, 10, 255, r1'] : List Int)) (o := r4'.toNat) 0 hs8 1 rfl rfl (by first | omega | (simp; done) | (simp; omega)) one3) ?_
       exact nl (kq ⟨_, hs8, trivial⟩ (alc D_1_1 ⟨r1', q1', b2', r4', q4', r8', q8', r10', q10', ⟨rfl, rfl, rfl, rfl, rfl, trivial⟩, p39, p40, p41, p42, p43, p44, p45, p46, hs8⟩))
     · refine one_ rfl ?_
       refine cl trivial rfl (pick (rb := rb) (Ab := Ab) (cb := cb) (bs := bs) (p := q10') (n := 256) (w := _) (hr := (blk_heap hs8 0 rfl)) (hb := (hb.up hs8 (fun _ h => h) (fun _ h => .inl h))) (hbn := (by first | assumption | (simp; omega))) (hp := (by omega))) ?_
       rintro _ w9 ⟨r12', q12', rfl, p47, p48, hs9'⟩
       have hs9 := hs8.callM 0 rfl hs9' (by intro k hk; simp at hk; exact hk.symm)
       clear hs9'
       exact nl (kq ⟨_, hs9, trivial⟩ (alc D_1_2 ⟨r1', q1', b2', r4', q4', r8', q8', r10', q10', r12', q12', ⟨rfl, rfl, rfl, rfl, rfl, trivial⟩, p39, p40, p41, p42, p43, p44, p45, p46, p47, p48, (hs9.pick [1, 0] rfl (by decide))⟩))
   refine dag (fuel' := 5) (listed' := lbits 15 2815) (fun f w' => ∃ (r1' : Int) (q1' b2' : Nat) (r4' : Int) (q4' : Nat), Has f [(0, pB rb), (10, I (([0, 1, 10, 255, r1'] : List Int).getD r4'.toNat 0)), (11, pB rb), (13, pB rb), (15, pB rb)] ∧ (0 ≤ r1' ∧ (r1' < 256 ∨ r1' = 0)) ∧ (q1' ≤ p + 1) ∧ (0 ≤ r4' ∧ (r4' < 5 ∨ r4' = 0)) ∧ (q4' ≤ q1' + 1) ∧ SH w w' [rb] [.blk rb 47 [.slice Ab bs.length cb, I ((q4' : Nat) : Int)], oI b2' ([0, 1, 10, 255, r1'] : List Int) 5 3]) ?_ (fun D_1_5 => ?_)
   · rintro f w10 ⟨r1', q1', b2', r4', q4', hf, p49, p50, p51, p52, hs10⟩
     obtain ⟨g6, rfl⟩ := has_upd hf
     clear hf
     refine aaL [8] (fa_one ?_)
     refine one_ rfl ?_
     refine cl trivial rfl (pick (rb := rb) (Ab := Ab) (cb := cb) (bs := bs) (p := q4') (n := 2) (w := _) (hr := (blk_heap hs10 0 rfl)) (hb := (hb.up hs10 (fun _ h => h) (fun _ h => .inl h))) (hbn := (by first | assumption | (simp; omega))) (hp := (by omega))) ?_
     rintro _ w11 ⟨r8', q8', rfl, p53, p54, hs11'⟩
     have hs11 := hs10.callM 0 rfl hs11' (by intro k hk; simp at hk; exact hk.symm)
     clear hs11'
     exact nl (kq ⟨_, hs11, trivial⟩ (alc D_1_3 ⟨r1', q1', b2', r4', q4', r8', q8', ⟨rfl, rfl, rfl, rfl, rfl, trivial⟩, p49, p50, p51, p52, p53, p54, (hs11.pick [1, 0] rfl (by decide))⟩))
   refine dag (fuel' := 5) (listed' := lbits 15 3007) (fun f w' => ∃ (r1' : Int) (q1' b2' : Nat) (r4' : Int) (q4' : Nat) (r8' : Int) (q8' : Nat), Has f [(0, pB rb), (9, .pointer (some ⟨b2', r4'.toNat * 1, none⟩)), (12, I r8'), (13, pB rb), (15, pB rb)] ∧ (0 ≤ r1' ∧ (r1' < 256 ∨ r1' = 0)) ∧ (q1' ≤ p + 1) ∧ (0 ≤ r4' ∧ (r4' < 5 ∨ r4' = 0)) ∧ (q4' ≤ q1' + 1) ∧ (0 ≤ r8' ∧ (r8' < 2 ∨ r8' = 0)) ∧ (q8' ≤ q4' + 1) ∧ SH w w' [rb] [.blk rb 47 [.slice Ab bs.length cb, I ((q8' : Nat) : Int)], oI b2' ([0, 1, 10, 255, r1'] : List Int) 5 3]) ?_ (fun D_1_6 => ?_)
   · rintro f w12 ⟨r1', q1', b2', r4', q4', r8', q8', hf, p55, p56, p57, p58, p59, p60, hs12⟩
     obtain ⟨g7, rfl⟩ := has_upd hf
     clear hf
     refine aaL [6, 10] (fa_cons ?_ (fa_one ?_))
     · refine one_ rfl ?_
       refine q trivial rfl rfl (ldo1n (g := I) (ys := ([0, 1, 10, 255, r1'] : List Int)) (o := r4'.toNat) 0 hs12 1 rfl rfl (by first | omega | (simp; done) | (simp; omega)) one3) ?_
       exact nl (kq ⟨_, hs12, trivial⟩ (alc D_1_3 ⟨r1', q1', b2', r4', q4', r8', q8', ⟨rfl, rfl, rfl, rfl, rfl, trivial⟩, p55, p56, p57, p58, p59, p60, hs12⟩))
     · refine one_ rfl ?_
       refine cl trivial rfl (pick (rb := rb) (Ab := Ab) (cb := cb) (bs := bs) (p := q8') (n := 2) (w := _) (hr := (blk_heap hs12 0 rfl)) (hb := (hb.up hs12 (fun _ h => h) (fun _ h => .inl h))) (hbn := (by first | assumption | (simp; omega))) (hp := (by omega))) ?_
       rintro _ w13 ⟨r10', q10', rfl, p61, p62, hs13'⟩
       have hs13 := hs12.callM 0 rfl hs13' (by intro k hk; simp at hk; exact hk.symm)
       clear hs13'
       exact nl (kq ⟨_, hs13, trivial⟩ (alc D_1_4 ⟨r1', q1', b2', r4', q4', r8', q8', r10', q10', ⟨rfl, rfl, rfl, rfl, rfl, trivial⟩, p55, p56, p57, p58, p59, p60, p61, p62, (hs13.pick [1, 0] rfl (by decide))⟩))
   refine dag (fuel' := 5) (listed' := lbits 15 8091) (fun f w' => ∃ (r1' : Int) (q1' : Nat) (r4' : Int) (q4' : Nat) (r8' : Int) (q8' : Nat) (r10' : Int) (q10' : Nat) (r12' : Int) (q12' : Nat), Has f [(0, pB rb), (5, I r1'), (8, I r4'), (12, I r8'), (14, I r10'), (16, I r12')] ∧ (0 ≤ r1' ∧ (r1' < 256 ∨ r1' = 0)) ∧ (q1' ≤ p + 1) ∧ (0 ≤ r4' ∧ (r4' < 5 ∨ r4' = 0)) ∧ (q4' ≤ q1' + 1) ∧ (0 ≤ r8' ∧ (r8' < 2 ∨ r8' = 0)) ∧ (q8' ≤ q4' + 1) ∧ (0 ≤ r10' ∧ (r10' < 2 ∨ r10' = 0)) ∧ (q10' ≤ q8' + 1) ∧ (0 ≤ r12' ∧ (r12' < 256 ∨ r12' = 0)) ∧ (q12' ≤ q10' + 1) ∧ SH w w' [rb] [.blk rb 47 [.slice Ab bs.length cb, I ((q12' : Nat) : Int)]]) ?_ (fun D_1_7 => ?_)
   · rintro f w14 ⟨r1', q1', r4', q4', r8', q8', r10', q10', r12', q12', hf, p63, p64, p65, p66, p67, p68, p69, p70, p71, p72, hs14⟩
     obtain ⟨g8, rfl⟩ := has_upd hf
     clear hf
     refine aaL [2] (fa_one ?_)
     refine one_ rfl ?_
     refine bsk hs14 sl24 [I 0, I 1, I 10, I 255, I r1'] [I 0, I 1, I 10, I 255, I r1'] trivial rfl (fun b2' w15 hs15 => ?_)
     refine nl (kq ⟨_, hs15, trivial⟩ ?_)
     refine tk (fuel := 3) (is := [5]) (.cons rfl (.nil)) (by kernel_rfl) (by kernel_rfl) ⟨_, hs15, trivial⟩ ?_
     refine .op trivial rfl rfl (fun wq _ => ixo r4'.toNat sl24 rfl (ieq (x := r4') (by omega)) (by first | omega | (simp; done) | (simp; omega))) ?_
     refine .nil ?_
     exact alc D_1_2 ⟨r1', q1', b2', r4', q4', r8', q8', r10', q10', r12', q12', ⟨rfl, rfl, rfl, rfl, rfl, trivial⟩, p63, p64, p65, p66, p67, p68, p69, p70, p71, p72, hs15⟩
   refine dag (fuel' := 6) (listed' := lbits 15 2751) (fun f w' => ∃ (r1' : Int) (q1' b2' : Nat) (r4' : Int) (q4' : Nat), Has f [(0, pB rb), (9, .pointer (some ⟨b2', r4'.toNat * 1, none⟩)), (11, pB rb), (13, pB rb), (15, pB rb)] ∧ (0 ≤ r1' ∧ (r1' < 256 ∨ r1' = 0)) ∧ (q1' ≤ p + 1) ∧ (0 ≤ r4' ∧ (r4' < 5 ∨ r4' = 0)) ∧ (q4' ≤ q1' + 1) ∧ SH w w' [rb] [.blk rb 47 [.slice Ab bs.length cb, I ((q4' : Nat) : Int)], oI b2' ([0, 1, 10, 255, r1'] : List Int) 5 3]) ?_ (fun D_1_8 => ?_)
   · rintro f w16 ⟨r1', q1', b2', r4', q4', hf, p73, p74, p75, p76, hs16⟩
     obtain ⟨g9, rfl⟩ := has_upd hf
     clear hf
     refine aaL [6, 8] (fa_cons ?_ (fa_one ?_))
     · refine one_ rfl ?_
       refine q trivial rfl rfl (ldo1n (g := I) (ys := ([0, 1, 10, 255, r1'] : List Int)) (o := r4'.toNat) 0 hs16 1 rfl rfl (by first | omega | (simp; done) | (simp; omega)) one3) ?_
       exact nl (kq ⟨_, hs16, trivial⟩ (alc D_1_5 ⟨r1', q1', b2', r4', q4', ⟨rfl, rfl, rfl, rfl, rfl, trivial⟩, p73, p74, p75, p76, hs16⟩))
     · refine one_ rfl ?_
       refine cl trivial rfl (pick (rb := rb) (Ab := Ab) (cb := cb) (bs := bs) (p := q4') (n := 2) (w := _) (hr := (blk_heap hs16 0 rfl)) (hb := (hb.up hs16 (fun _ h => h) (fun _ h => .inl h))) (hbn := (by first | assumption | (simp; omega))) (hp := (by omega))) ?_
       rintro _ w17 ⟨r8', q8', rfl, p77, p78, hs17'⟩
       have hs17 := hs16.callM 0 rfl hs17' (by intro k hk; simp at hk; exact hk.symm)
       clear hs17'
       exact nl (kq ⟨_, hs17, trivial⟩ (alc D_1_6 ⟨r1', q1', b2', r4', q4', r8', q8', ⟨rfl, rfl, rfl, rfl, rfl, trivial⟩, p73, p74, p75, p76, p77, p78, (hs17.pick [1, 0] rfl (by decide))⟩))
   refine dag (fuel' := 6) (listed' := lbits 15 3995) (fun f w' => ∃ (r1' : Int) (q1' : Nat) (r4' : Int) (q4' : Nat) (r8' : Int) (q8' : Nat) (r10' : Int) (q10' : Nat), Has f [(0, pB rb), (5, I r1'), (8, I r4'), (12, I r8'), (14, I r10'), (15, pB rb)] ∧ (0 ≤ r1' ∧ (r1' < 256 ∨ r1' = 0)) ∧ (q1' ≤ p + 1) ∧ (0 ≤ r4' ∧ (r4' < 5 ∨ r4' = 0)) ∧ (q4' ≤ q1' + 1) ∧ (0 ≤ r8' ∧ (r8' < 2 ∨ r8' = 0)) ∧ (q8' ≤ q4' + 1) ∧ (0 ≤ r10' ∧ (r10' < 2 ∨ r10' = 0)) ∧ (q10' ≤ q8' + 1) ∧ SH w w' [rb] [.blk rb 47 [.slice Ab bs.length cb, I ((q10' : Nat) : Int)]]) ?_ (fun D_1_9 => ?_)
   · rintro f w18 ⟨r1', q1', r4', q4', r8', q8', r10', q10', hf, p79, p80, p81, p82, p83, p84, p85, p86, hs18⟩
     obtain ⟨g10, rfl⟩ := has_upd hf
     clear hf
     refine aaL [2, 12] (fa_cons ?_ (fa_one ?_))
     · refine one_ rfl ?_
       refine bsk hs18 sl24 [I 0, I 1, I 10, I 255, I r1'] [I 0, I 1, I 10, I 255, I r1'] trivial rfl (fun b2' w19 hs19 => ?_)
       refine nl (kq ⟨_, hs19, trivial⟩ ?_)
       refine tk (fuel := 4) (is := [5]) (.cons rfl (.nil)) (by kernel_rfl) (by kernel_rfl) ⟨_, hs19, trivial⟩ ?_
       refine .op trivial rfl rfl (fun wq _ => ixo r4'.toNat sl24 rfl (ieq (x := r4') (by omega)) (by first | omega | (simp; done) | (simp; omega))) ?_
       refine .nil ?_
       exact alc D_1_4 ⟨r1', q1', b2', r4', q4', r8', q8', r10', q10', ⟨rfl, rfl, rfl, rfl, rfl, trivial⟩, p79, p80, p81, p82, p83, p84, p85, p86, hs19⟩
     · refine one_ rfl ?_
       refine cl trivial rfl (pick (rb := rb) (Ab := Ab) (cb := cb) (bs := bs) (p := q10') (n := 256) (w := _) (hr := (blk_heap hs18 0 rfl)) (hb := (hb.up hs18 (fun _ h => h) (fun _ h => .inl h))) (hbn := (by first | assumption | (simp; omega))) (hp := (by omega))) ?_
       rintro _ w20 ⟨r12', q12', rfl, p87, p88, hs20'⟩
       have hs20 := hs18.callM 0 rfl hs20' (by intro k hk; simp at hk; exact hk.symm)
       clear hs20'
       exact nl (kq ⟨_, hs20, trivial⟩ (alc D_1_7 ⟨r1', q1', r4', q4', r8', q8', r10', q10', r12', q12', ⟨rfl, rfl, rfl, rfl, rfl, rfl, trivial⟩, p79, p80, p81, p82, p83, p84, p85, p86, p87, p88, hs20⟩))
   refine dag (fuel' := 7) (listed' := lbits 15 2971) (fun f w' => ∃ (r1' : Int) (q1' : Nat) (r4' : Int) (q4' : Nat) (r8' : Int) (q8' : Nat), Has f [(0, pB rb), (5, I r1'), (8, I r4'), (12, I r8'), (13, pB rb), (15, pB rb)] ∧ (0 ≤ r1' ∧ (r1' < 256 ∨ r1' = 0)) ∧ (q1' ≤ p + 1) ∧ (0 ≤ r4' ∧ (r4' < 5 ∨ r4' = 0)) ∧ (q4' ≤ q1' + 1) ∧ (0 ≤ r8' ∧ (r8' < 2 ∨ r8' = 0)) ∧ (q8' ≤ q4' + 1) ∧ SH w w' [rb] [.blk rb 47 [.slice Ab bs.length cb, I ((q8' : Nat) : Int)]]) ?_ (fun D_1_10 => ?_)
   · rintro f w21 ⟨r1', q1', r4', q4', r8', q8', hf, p89, p90, p91, p92, p93, p94, hs21⟩
     obtain ⟨g11, rfl⟩ := has_upd hf
     clear hf
     refine aaL [2, 10] (fa_cons ?_ (fa_one ?_))
     · refine one_ rfl ?_
       refine bsk hs21 sl24 [I 0, I 1, I 10, I 255, I r1'] [I 0, I 1, I 10, I 255, I r1'] trivial rfl (fun b2' w22 hs22 => ?_)
       refine nl (kq ⟨_, hs22, trivial⟩ ?_)
       refine tk (fuel := 5) (is := [5]) (.cons rfl (.nil)) (by kernel_rfl) (by kernel_rfl) ⟨_, hs22, trivial⟩ ?_
       refine .op trivial rfl rfl (fun wq _ => ixo r4'.toNat sl24 rfl (ieq (x := r4') (by omega)) (by first | omega | (simp; done) | (simp; omega))) ?_
       refine .nil ?_
       exact alc D_1_6 ⟨r1', q1', b2', r4', q4', r8', q8', ⟨rfl, rfl, rfl, rfl, rfl, trivial⟩, p89, p90, p91, p92, p93, p94, hs22⟩
     · refine one_ rfl ?_
       refine cl trivial rfl (pick (rb := rb) (Ab := Ab) (cb := cb) (bs := bs) (p := q8') (n := 2) (w := _) (hr := (blk_heap hs21 0 rfl)) (hb := (hb.up hs21 (fun _ h => h) (fun _ h => .inl h))) (hbn := (by first | assumption | (simp; omega))) (hp := (by omega))) ?_
       rintro _ w23 ⟨r10', q10', rfl, p95, p96, hs23'⟩
       have hs23 := hs21.callM 0 rfl hs23' (by intro k hk; simp at hk; exact hk.symm)
       clear hs23'
       exact nl (kq ⟨_, hs23, trivial⟩ (alc D_1_9 ⟨r1', q1', r4', q4', r8', q8', r10', q10', ⟨rfl, rfl, rfl, rfl, rfl, rfl, trivial⟩, p89, p90, p91, p92, p93, p94, p95, p96, hs23⟩))
   refine dag (fuel' := 8) (listed' := lbits 15 2703) (fun f w' => ∃ (r1' : Int) (q1' b2' : Nat), Has f [(0, pB rb), (6, sb b2' (([0, 1, 10, 255, r1'] : List Int).length) 5), (7, pB rb), (11, pB rb), (13, pB rb), (15, pB rb)] ∧ (0 ≤ r1' ∧ (r1' < 256 ∨ r1' = 0)) ∧ (q1' ≤ p + 1) ∧ SH w w' [rb] [.blk rb 47 [.slice Ab bs.length cb, I ((q1' : Nat) : Int)], oI b2' ([0, 1, 10, 255, r1'] : List Int) 5 3]) ?_ (fun D_1_11 => ?_)
   · rintro f w24 ⟨r1', q1', b2', hf, p97, p98, hs24⟩
     obtain ⟨g12, rfl⟩ := has_upd hf
     clear hf
     refine aaL [4] (fa_one ?_)
     refine one_ rfl ?_
     refine cl trivial rfl (pick (rb := rb) (Ab := Ab) (cb := cb) (bs := bs) (p := q1') (n := 5) (w := _) (hr := (blk_heap hs24 0 rfl)) (hb := (hb.up hs24 (fun _ h => h) (fun _ h => .inl h))) (hbn := (by first | assumption | (simp; omega))) (hp := (by omega))) ?_
     rintro _ w25 ⟨r4', q4', rfl, p99, p100, hs25'⟩
     have hs25 := hs24.callM 0 rfl hs25' (by intro k hk; simp at hk; exact hk.symm)
     clear hs25'
     refine nl (kq ⟨_, hs25, trivial⟩ ?_)
     refine tk (fuel := 6) (is := [5]) (.cons rfl (.nil)) (by kernel_rfl) (by kernel_rfl) ⟨_, hs25, trivial⟩ ?_
     refine .op trivial rfl rfl (fun wq _ => ixo r4'.toNat sl24 rfl (ieq (x := r4') (by omega)) (by first | omega | (simp; done) | (simp; omega))) ?_
     refine .nil ?_
     exact alc D_1_8 ⟨r1', q1', b2', r4', q4', ⟨rfl, rfl, rfl, rfl, rfl, trivial⟩, p97, p98, p99, p100, (hs25.pick [1, 0] rfl (by decide))⟩
   refine dag (fuel' := 8) (listed' := lbits 15 2715) (fun f w' => ∃ (r1' : Int) (q1' : Nat) (r4' : Int) (q4' : Nat), Has f [(0, pB rb), (5, I r1'), (8, I r4'), (11, pB rb), (13, pB rb), (15, pB rb)] ∧ (0 ≤ r1' ∧ (r1' < 256 ∨ r1' = 0)) ∧ (q1' ≤ p + 1) ∧ (0 ≤ r4' ∧ (r4' < 5 ∨ r4' = 0)) ∧ (q4' ≤ q1' + 1) ∧ SH w w' [rb] [.blk rb 47 [.slice Ab bs.length cb, I ((q4' : Nat) : Int)]]) ?_ (fun D_1_12 => ?_)
   · rintro f w26 ⟨r1', q1', r4', q4', hf, p101, p102, p103, p104, hs26⟩
     obtain ⟨g13, rfl⟩ := has_upd hf
     clear hf
     refine aaL [2, 8] (fa_cons ?_ (fa_one ?_))
     · refine one_ rfl ?_
       refine bsk hs26 sl24 [I 0, I 1, I 10, I 255, I r1'] [I 0, I 1, I 10, I 255, I r1'] trivial rfl (fun b2' w27 hs27 => ?_)
       refine nl (kq ⟨_, hs27, trivial⟩ ?_)
       refine tk (fuel := 6) (is := [5]) (.cons rfl (.nil)) (by kernel_rfl) (by kernel_rfl) ⟨_, hs27, trivial⟩ ?_
       refine .op trivial rfl rfl (fun wq _ => ixo r4'.toNat sl24 rfl (ieq (x := r4') (by omega)) (by first | omega | (simp; done) | (simp; omega))) ?_
       refine .nil ?_
       exact alc D_1_8 ⟨r1', q1', b2', r4', q4', ⟨rfl, rfl, rfl, rfl, rfl, trivial⟩, p101, p102, p103, p104, hs27⟩
     · refine one_ rfl ?_
       refine cl trivial rfl (pick (rb := rb) (Ab := Ab) (cb := cb) (bs := bs) (p := q4') (n := 2) (w := _) (hr := (blk_heap hs26 0 rfl)) (hb := (hb.up hs26 (fun _ h => h) (fun _ h => .inl h))) (hbn := (by first | assumption | (simp; omega))) (hp := (by omega))) ?_
       rintro _ w28 ⟨r8', q8', rfl, p105, p106, hs28'⟩
       have hs28 := hs26.callM 0 rfl hs28' (by intro k hk; simp at hk; exact hk.symm)
       clear hs28'
       exact nl (kq ⟨_, hs28, trivial⟩ (alc D_1_10 ⟨r1', q1', r4', q4', r8', q8', ⟨rfl, rfl, rfl, rfl, rfl, rfl, trivial⟩, p101, p102, p103, p104, p105, p106, hs28⟩))
   refine dag (fuel' := 9) (listed' := lbits 15 2699) (fun f w' => ∃ (r1' : Int) (q1' : Nat), Has f [(0, pB rb), (5, I r1'), (7, pB rb), (11, pB rb), (13, pB rb), (15, pB rb)] ∧ (0 ≤ r1' ∧ (r1' < 256 ∨ r1' = 0)) ∧ (q1' ≤ p + 1) ∧ SH w w' [rb] [.blk rb 47 [.slice Ab bs.length cb, I ((q1' : Nat) : Int)]]) ?_ (fun D_1_13 => ?_)
   · rintro f w29 ⟨r1', q1', hf, p107, p108, hs29⟩
     obtain ⟨g14, rfl⟩ := has_upd hf
     clear hf
     refine aaL [2, 4] (fa_cons ?_ (fa_one ?_))
     · refine one_ rfl ?_
       refine bsk hs29 sl24 [I 0, I 1, I 10, I 255, I r1'] [I 0, I 1, I 10, I 255, I r1'] trivial rfl (fun b2' w30 hs30 => ?_)
       exact nl (kq ⟨_, hs30, trivial⟩ (alc D_1_11 ⟨r1', q1', b2', ⟨rfl, rfl, rfl, rfl, rfl, rfl, trivial⟩, p107, p108, hs30⟩))
     · refine one_ rfl ?_
       refine cl trivial rfl (pick (rb := rb) (Ab := Ab) (cb := cb) (bs := bs) (p := q1') (n := 5) (w := _) (hr := (blk_heap hs29 0 rfl)) (hb := (hb.up hs29 (fun _ h => h) (fun _ h => .inl h))) (hbn := (by first | assumption | (simp; omega))) (hp := (by omega))) ?_
       rintro _ w31 ⟨r4', q4', rfl, p109, p110, hs31'⟩
       have hs31 := hs29.callM 0 rfl hs31' (by intro k hk; simp at hk; exact hk.symm)
       clear hs31'
       exact nl (kq ⟨_, hs31, trivial⟩ (alc D_1_12 ⟨r1', q1', r4', q4', ⟨rfl, rfl, rfl, rfl, rfl, rfl, trivial⟩, p107, p108, p109, p110, hs31⟩))
   refine dag (fuel' := 10) (listed' := lbits 15 2697) (fun f w' => Has f [(0, pB rb), (4, pB rb), (7, pB rb), (11, pB rb), (13, pB rb), (15, pB rb)] ∧ SH w w' [rb] [.blk rb 47 [.slice Ab bs.length cb, I ((p : Nat) : Int)]]) ?_ (fun D_1_14 => ?_)
   · rintro f w32 ⟨hf, hs32⟩
     obtain ⟨g15, rfl⟩ := has_upd hf
     clear hf
     refine aaL [1] (fa_one ?_)
     refine one_ rfl ?_
     refine cl trivial rfl (pick (rb := rb) (Ab := Ab) (cb := cb) (bs := bs) (p := p) (n := 256) (w := _) (hr := (blk_heap hs32 0 rfl)) (hb := (hb.up hs32 (fun _ h => h) (fun _ h => .inl h))) (hbn := (by first | assumption | (simp; omega))) (hp := (by omega))) ?_
     rintro _ w33 ⟨r1', q1', rfl, p111, p112, hs33'⟩
     have hs33 := hs32.callM 0 rfl hs33' (by intro k hk; simp at hk; exact hk.symm)
     clear hs33'
     exact nl (kq ⟨_, hs33, trivial⟩ (alc D_1_13 ⟨r1', q1', ⟨rfl, rfl, rfl, rfl, rfl, rfl, trivial⟩, p111, p112, hs33⟩))
   have hs34 := hs0.drew
   refine tk (fuel := 10) (is := [0, 3, 7, 9, 11]) (.cons rfl (.cons rfl (.cons rfl (.cons rfl (.cons rfl (.nil)))))) (by kernel_rfl) (by kernel_rfl) ⟨_, hs34, trivial⟩ ?_
   refine .op trivial rfl rfl (fun wq _ => mv (v := pB rb) rfl) ?_
   refine .op trivial rfl rfl (fun wq _ => mv (v := pB rb) rfl) ?_
   refine .op trivial rfl rfl (fun wq _ => mv (v := pB rb) rfl) ?_
   refine .op trivial rfl rfl (fun wq _ => mv (v := pB rb) rfl) ?_
   refine .op trivial rfl rfl (fun wq _ => mv (v := pB rb) rfl) ?_
   refine .nil ?_
   exact alc D_1_14 ⟨⟨rfl, rfl, rfl, rfl, rfl, rfl, trivial⟩, hs34⟩
 rintro f w34 ⟨r1', q1', b2', r4', q4', r8', q8', r10', q10', r12', q12', b13', hf, p113, p114, p115, p116, p117, p118, p119, p120, p121, p122, hs35⟩
 obtain ⟨g16, rfl⟩ := has_upd hf
 clear hf
 refine nN ?_
 refine sq ?_
 refine sq ?_
 refine rg ?_
 refine q trivial rfl rfl (mv (v := pB rb) rfl) ?_
 refine cl trivial rfl (pick (rb := rb) (Ab := Ab) (cb := cb) (bs := bs) (p := q12') (n := 40) (w := _) (hr := (blk_heap hs35 0 rfl)) (hb := (hb.up hs35 (fun _ h => h) (fun _ h => .inl h))) (hbn := (by first | assumption | (simp; omega))) (hp := (by omega))) ?_
 rintro _ w35 ⟨r1, q1, rfl, p123, p124, hs36'⟩
 have hs36 : SH w w35 [rb] [oI b13' ([([0, 1, 10, 255, r1'] : List Int).getD r4'.toNat 0, r8', r10', r12'] : List Int) 4 3, oI b2' ([0, 1, 10, 255, r1'] : List Int) 5 3, .blk rb 47 [.slice Ab bs.length cb, I ((q1 : Nat) : Int)]] := hs35.callM 0 rfl hs36' (by intro k hk; simp at hk; exact hk.symm)
 clear hs36'
 refine nl ?_
 refine nN ?_
 refine bl ?_
 refine sq ?_
 refine rg ?_
 refine q trivial rfl rfl (eqi (k := .i64) (a := r1) (b := 0) rfl rfl) ?_
 refine q trivial rfl rfl (asg (v := .bool (decide (r1 = 0))) rfl) ?_
 refine nl ?_
 refine nN ?_
 refine cdd (p := r1 = 0) rfl (fun h1 => ?_) (fun h1 => ?_)
 · refine rg ?_
   refine q trivial rfl rfl (mv (v := sb b13' (([([0, 1, 10, 255, r1'] : List Int).getD r4'.toNat 0, r8', r10', r12'] : List Int).length) 4) rfl) ?_
   refine q trivial rfl rfl (mv (v := pB rb) rfl) ?_
   refine cl trivial rfl (pick (rb := rb) (Ab := Ab) (cb := cb) (bs := bs) (p := q1) (n := 4) (w := _) (hr := (blk_heap hs36 2 rfl)) (hb := (hb.up hs36 (fun _ h => h) (fun _ h => .inl h))) (hbn := (by first | assumption | (simp; omega))) (hp := (by omega))) ?_
   rintro _ w36 ⟨r2, q2, rfl, p125, p126, hs37'⟩
   have hs37 : SH w w36 [rb] [oI b13' ([([0, 1, 10, 255, r1'] : List Int).getD r4'.toNat 0, r8', r10', r12'] : List Int) 4 3, oI b2' ([0, 1, 10, 255, r1'] : List Int) 5 3, .blk rb 47 [.slice Ab bs.length cb, I ((q2 : Nat) : Int)]] := hs36.callM 2 rfl hs37' (by intro k hk; simp at hk; exact hk.symm)
   clear hs37'
   refine q trivial rfl rfl (ixo r2.toNat sl24 rfl (ieq (x := r2) (by omega)) (by first | omega | (simp; done) | (simp; omega))) ?_
   refine stomn (g := I) (ys := ([([0, 1, 10, 255, r1'] : List Int).getD r4'.toNat 0, r8', r10', r12'] : List Int)) (o := r2.toNat) (u := 256) hs37 0 rfl rfl rfl rfl (by first | omega | (simp; done) | (simp; omega)) rfl one3 trivial (fun w37 (hs38 : SH w w37 [rb] [oI b2' ([0, 1, 10, 255, r1'] : List Int) 5 3, .blk rb 47 [.slice Ab bs.length cb, I ((q2 : Nat) : Int)], .own (some ⟨b13', 0, none⟩) (([([0, 1, 10, 255, r1'] : List Int).getD r4'.toNat 0, r8', r10', r12'] : List Int).length) 4 3 1 ((([([0, 1, 10, 255, r1'] : List Int).getD r4'.toNat 0, r8', r10', r12'] : List Int).set r2.toNat 256).map I)]) => ?_)
   refine nl ?_
   refine bN ?_
   refine nN ?_
   refine sq ?_
   refine rg ?_
   refine q trivial rfl rfl (mv (v := sb b13' (([([0, 1, 10, 255, r1'] : List Int).getD r4'.toNat 0, r8', r10', r12'] : List Int).length) 4) rfl) ?_
   refine q trivial rfl rfl (asg (v := sb b13' (([([0, 1, 10, 255, r1'] : List Int).getD r4'.toNat 0, r8', r10', r12'] : List Int).length) 4) rfl) ?_
   have e1 : ([([0, 1, 10, 255, r1'] : List Int).getD r4'.toNat 0, r8', r10', r12'] : List Int).length = (([([0, 1, 10, 255, r1'] : List Int).getD r4'.toNat 0, r8', r10', r12'] : List Int).set r2.toNat 256).length := by first | rfl | (simp; done) | (simp; omega) | (simp at *; omega)
   have hs39 : SH w w37 [rb] [oI b2' ([0, 1, 10, 255, r1'] : List Int) 5 3, .blk rb 47 [.slice Ab bs.length cb, I ((q2 : Nat) : Int)], oI b13' (([([0, 1, 10, 255, r1'] : List Int).getD r4'.toNat 0, r8', r10', r12'] : List Int).set r2.toNat 256) 4 3] := (hs38.cast (lc rfl (lc rfl (lc (own_eq (g := I) rfl e1 rfl rfl) rfl))))
   refine re 2 (v := sb b13' ((([([0, 1, 10, 255, r1'] : List Int).getD r4'.toNat 0, r8', r10', r12'] : List Int).set r2.toNat 256).length) 4) (show (sb b13' (([([0, 1, 10, 255, r1'] : List Int).getD r4'.toNat 0, r8', r10', r12'] : List Int).length) 4 : Value) = sb b13' ((([([0, 1, 10, 255, r1'] : List Int).getD r4'.toNat 0, r8', r10', r12'] : List Int).set r2.toNat 256).length) 4 from slv rfl e1 rfl) ?_
   refine nl ?_
   refine nN ?_
   refine rt ?_
   refine fret (v := sb b13' ((([([0, 1, 10, 255, r1'] : List Int).getD r4'.toNat 0, r8', r10', r12'] : List Int).set r2.toNat 256).length) 4) (.tmp .nil) rfl ?_
   exact ⟨(some ⟨b13', 0, none⟩), 4, ([([0, 1, 10, 255, r1'] : List Int).getD r4'.toNat 0, r8', r10', r12'] : List Int).set r2.toNat 256, q2, rfl, (by first | omega | (simp; omega) | simp), (by omega), (hs39.pick [1, 2] rfl (by decide))⟩
 · refine sq ?_
   refine rg ?_
   refine q trivial rfl rfl (eqi (k := .i64) (a := r1) (b := 1) rfl rfl) ?_
   refine q trivial rfl rfl (asg (v := .bool (decide (r1 = 1))) rfl) ?_
   refine nl ?_
   refine nN ?_
   refine cdd (p := r1 = 1) rfl (fun h2 => ?_) (fun h2 => ?_)
   · refine sq ?_
     refine rg ?_
     refine q trivial rfl rfl (mv (v := sb b13' (([([0, 1, 10, 255, r1'] : List Int).getD r4'.toNat 0, r8', r10', r12'] : List Int).length) 4) rfl) ?_
     have e2 : (([([0, 1, 10, 255, r1'] : List Int).getD r4'.toNat 0, r8', r10', r12'] : List Int).map I).take (3 * 1) = (([([0, 1, 10, 255, r1'] : List Int).getD r4'.toNat 0, r8', r10', r12'] : List Int).take 3).map I := by first | rfl | simp [List.map_take]
     have hs40 : SH w w35 [rb] [oI b2' ([0, 1, 10, 255, r1'] : List Int) 5 3, .blk rb 47 [.slice Ab bs.length cb, I ((q1 : Nat) : Int)], .own (some ⟨b13', 0, none⟩) 3 4 3 1 ((([([0, 1, 10, 255, r1'] : List Int).getD r4'.toNat 0, r8', r10', r12'] : List Int).take 3).map I)] := e2 ▸ SH.trunc hs36 0 (3) rfl (by first | omega | (simp; done) | (simp; omega))
     refine q trivial rfl rfl (cuh 3 sl24 rfl rfl (Nat.le_trans (by first | omega | (simp; done) | (simp; omega)) (own_cap hs36 0 rfl).1)) ?_
     refine q trivial rfl rfl (asg (v := sb b13' 3 4) rfl) ?_
     have e3 : 3 = (([([0, 1, 10, 255, r1'] : List Int).getD r4'.toNat 0, r8', r10', r12'] : List Int).take 3).length := by first | rfl | (simp; done) | (simp; omega) | (simp at *; omega)
     have hs41 : SH w w35 [rb] [oI b2' ([0, 1, 10, 255, r1'] : List Int) 5 3, .blk rb 47 [.slice Ab bs.length cb, I ((q1 : Nat) : Int)], oI b13' (([([0, 1, 10, 255, r1'] : List Int).getD r4'.toNat 0, r8', r10', r12'] : List Int).take 3) 4 3] := (hs40.cast (lc rfl (lc rfl (lc (own_eq (g := I) rfl e3 rfl rfl) rfl))))
     refine re 2 (v := sb b13' ((([([0, 1, 10, 255, r1'] : List Int).getD r4'.toNat 0, r8', r10', r12'] : List Int).take 3).length) 4) (show (sb b13' 3 4 : Value) = sb b13' ((([([0, 1, 10, 255, r1'] : List Int).getD r4'.toNat 0, r8', r10', r12'] : List Int).take 3).length) 4 from slv rfl e3 rfl) ?_
     refine nl ?_
     refine nN ?_
     refine rt (bR (tR ?_))
     refine fret (v := sb b13' ((([([0, 1, 10, 255, r1'] : List Int).getD r4'.toNat 0, r8', r10', r12'] : List Int).take 3).length) 4) (.tmp .nil) rfl ?_
     exact ⟨(some ⟨b13', 0, none⟩), 4, ([([0, 1, 10, 255, r1'] : List Int).getD r4'.toNat 0, r8', r10', r12'] : List Int).take 3, q1, rfl, (by first | omega | (simp; omega) | simp), (by omega), (hs41.pick [1, 2] rfl (by decide))⟩
   · refine sk ?_
     refine bN ?_
     refine nN ?_
     refine sq ?_
     refine rg ?_
     refine q trivial rfl rfl (mv (v := sb b13' (([([0, 1, 10, 255, r1'] : List Int).getD r4'.toNat 0, r8', r10', r12'] : List Int).length) 4) rfl) ?_
     refine q trivial rfl rfl (asg (v := sb b13' (([([0, 1, 10, 255, r1'] : List Int).getD r4'.toNat 0, r8', r10', r12'] : List Int).length) 4) rfl) ?_
     refine nl ?_
     refine nN ?_
     refine rt ?_
     refine fret (v := sb b13' (([([0, 1, 10, 255, r1'] : List Int).getD r4'.toNat 0, r8', r10', r12'] : List Int).length) 4) (.tmp .nil) rfl ?_
     exact ⟨(some ⟨b13', 0, none⟩), 4, ([([0, 1, 10, 255, r1'] : List Int).getD r4'.toNat 0, r8', r10', r12'] : List Int), q1, rfl, (by first | omega | (simp; omega) | simp), (by omega), (hs36.pick [2, 0] rfl (by decide))⟩

set_option maxHeartbeats 8000000 in
theorem l91Port {rb : Nat} {Ab : Option Addr} {cb : Nat} {bs : List UInt8} {p : Nat} (w : World) (hr : w.heap[rb]? = some (.cells [.slice Ab bs.length cb, .int .i64 ((p : Nat) : Int)].toArray 47 (0, 0))) (hb : Sl w [rb] 1 Ab bs.length cb (bs.map U)) (hbn : bs.length ≤ 2000) (hp : p ≤ 549755813888) : Does Try.prog 58 [pB rb] w (fun v w' => ∃ r : Int, ∃ q : Nat, v = .int .i64 r ∧ (q ≤ p + 10) ∧ SH w w' [rb] [.blk rb 47 [.slice Ab bs.length cb, I ((q : Nat) : Int)]]) := by
 refine fn_enter (N := 18) Try.func58 rfl (by kernel_rfl) rfl rfl rfl ?_
 have hs0 : SH w w [rb] [.blk rb 47 [.slice Ab bs.length cb, I ((p : Nat) : Int)]] := SH.entry1 hr
 refine sq ?_
 refine rg ?_
 refine q trivial rfl rfl (asg (v := I 0) rfl) ?_
 refine nl ?_
 refine nN ?_
 refine sq ?_
 refine sq ?_
 refine rg ?_
 refine q trivial rfl rfl (mv (v := pB rb) rfl) ?_
 refine cl trivial rfl (pick (rb := rb) (Ab := Ab) (cb := cb) (bs := bs) (p := p) (n := 40) (w := _) (hr := (blk_heap hs0 0 rfl)) (hb := (hb.up hs0 (fun _ h => h) (fun _ h => .inl h))) (hbn := (by first | assumption | (simp; omega))) (hp := (by omega))) ?_
 rintro _ w1 ⟨r1, q1, rfl, p1, p2, hs1'⟩
 have hs1 : SH w w1 [rb] [.blk rb 47 [.slice Ab bs.length cb, I ((q1 : Nat) : Int)]] := hs0.callM 0 rfl hs1' (by intro k hk; simp at hk; exact hk.symm)
 clear hs1'
 refine q trivial rfl rfl (eqi (k := .i64) (a := r1) (b := 0) rfl rfl) ?_
 refine nl ?_
 refine nN ?_
 refine cdd (p := r1 = 0) rfl (fun h1 => ?_) (fun h1 => ?_)
 · refine sq ?_
   refine rg ?_
   refine bsk hs1 sl24 [I (-1), I 65536] [I (-1), I 65536] trivial rfl (fun b1 w2 (hs2 : SH w w2 [rb] [.blk rb 47 [.slice Ab bs.length cb, I ((q1 : Nat) : Int)], oI b1 ([(-1), 65536] : List Int) 2 3]) => ?_)
   refine q trivial rfl rfl (mv (v := pB rb) rfl) ?_
   refine cl trivial rfl (pick (rb := rb) (Ab := Ab) (cb := cb) (bs := bs) (p := q1) (n := 2) (w := _) (hr := (blk_heap hs2 0 rfl)) (hb := (hb.up hs2 (fun _ h => h) (fun _ h => .inl h))) (hbn := (by first | assumption | (simp; omega))) (hp := (by omega))) ?_
   rintro _ w3 ⟨r2, q2, rfl, p3, p4, hs3'⟩
   have hs3 : SH w w3 [rb] [oI b1 ([(-1), 65536] : List Int) 2 3, .blk rb 47 [.slice Ab bs.length cb, I ((q2 : Nat) : Int)]] := hs2.callM 0 rfl hs3' (by intro k hk; simp at hk; exact hk.symm)
   clear hs3'
   refine q trivial rfl rfl (ixo r2.toNat sl24 rfl (ieq (x := r2) (by omega)) (by first | omega | (simp; done) | (simp; omega))) ?_
   refine q trivial rfl rfl (ldo1n (g := I) (ys := ([(-1), 65536] : List Int)) (o := r2.toNat) 0 hs3 0 rfl rfl (by first | omega | (simp; done) | (simp; omega)) one3) ?_
   refine q trivial rfl rfl (asg (v := I (([(-1), 65536] : List Int).getD r2.toNat 0)) rfl) ?_
   refine nl ?_
   refine nN ?_
   refine rt (tR ?_)
   refine fret (v := I (([(-1), 65536] : List Int).getD r2.toNat 0)) (.tmp .nil) rfl ?_
   exact ⟨([(-1), 65536] : List Int).getD r2.toNat 0, q2, rfl, (by omega), (hs3.pick [1] rfl (by decide))⟩
 · refine sk ?_
   refine nN ?_
   refine sq ?_
   refine rg ?_
   refine q trivial rfl rfl (mv (v := pB rb) rfl) ?_
   refine cl trivial rfl (pick (rb := rb) (Ab := Ab) (cb := cb) (bs := bs) (p := q1) (n := 65536) (w := _) (hr := (blk_heap hs1 0 rfl)) (hb := (hb.up hs1 (fun _ h => h) (fun _ h => .inl h))) (hbn := (by first | assumption | (simp; omega))) (hp := (by omega))) ?_
   rintro _ w4 ⟨r3, q3, rfl, p5, p6, hs4'⟩
   have hs4 : SH w w4 [rb] [.blk rb 47 [.slice Ab bs.length cb, I ((q3 : Nat) : Int)]] := hs1.callM 0 rfl hs4' (by intro k hk; simp at hk; exact hk.symm)
   clear hs4'
   refine bsk hs4 sl24 [I 0, I 80, I 443, I 65535, I r3] [I 0, I 80, I 443, I 65535, I r3] trivial rfl (fun b2 w5 (hs5 : SH w w5 [rb] [.blk rb 47 [.slice Ab bs.length cb, I ((q3 : Nat) : Int)], oI b2 ([0, 80, 443, 65535, r3] : List Int) 5 3]) => ?_)
   refine q trivial rfl rfl (mv (v := pB rb) rfl) ?_
   refine cl trivial rfl (pick (rb := rb) (Ab := Ab) (cb := cb) (bs := bs) (p := q3) (n := 5) (w := _) (hr := (blk_heap hs5 0 rfl)) (hb := (hb.up hs5 (fun _ h => h) (fun _ h => .inl h))) (hbn := (by first | assumption | (simp; omega))) (hp := (by omega))) ?_
   rintro _ w6 ⟨r4, q4, rfl, p7, p8, hs6'⟩
   have hs6 : SH w w6 [rb] [oI b2 ([0, 80, 443, 65535, r3] : List Int) 5 3, .blk rb 47 [.slice Ab bs.length cb, I ((q4 : Nat) : Int)]] := hs5.callM 0 rfl hs6' (by intro k hk; simp at hk; exact hk.symm)
   clear hs6'
   refine q trivial rfl rfl (ixo r4.toNat sl24 rfl (ieq (x := r4) (by omega)) (by first | omega | (simp; done) | (simp; omega))) ?_
   refine q trivial rfl rfl (ldo1n (g := I) (ys := ([0, 80, 443, 65535, r3] : List Int)) (o := r4.toNat) 0 hs6 0 rfl rfl (by first | omega | (simp; done) | (simp; omega)) one3) ?_
   refine q trivial rfl rfl (asg (v := I (([0, 80, 443, 65535, r3] : List Int).getD r4.toNat 0)) rfl) ?_
   refine nl ?_
   refine nN ?_
   refine rt ?_
   refine fret (v := I (([0, 80, 443, 65535, r3] : List Int).getD r4.toNat 0)) (.tmp .nil) rfl ?_
   exact ⟨([0, 80, 443, 65535, r3] : List Int).getD r4.toNat 0, q4, rfl, (by omega), (hs6.pick [1] rfl (by decide))⟩

theorem l91Name {rb : Nat} {Ab : Option Addr} {cb : Nat} {bs : List UInt8} {p : Nat} (w : World) (hr : w.heap[rb]? = some (.cells [.slice Ab bs.length cb, .int .i64 ((p : Nat) : Int)].toArray 47 (0, 0))) (hb : Sl w [rb] 1 Ab bs.length cb (bs.map U)) (hbn : bs.length ≤ 2000) (hp : p ≤ 274877906944) : Does Try.prog 59 [pB rb] w (fun v w' => ∃ s : List UInt8, ∃ q : Nat, v = Str s ∧ (s.length ≤ 21) ∧ (q ≤ p + 10) ∧ SH w w' [rb] [.blk rb 47 [.slice Ab bs.length cb, I ((q : Nat) : Int)]]) := by
 refine fn_enter (N := 12) Try.func59 rfl (by kernel_rfl) rfl rfl rfl ?_
 have hs0 : SH w w [rb] [.blk rb 47 [.slice Ab bs.length cb, I ((p : Nat) : Int)]] := SH.entry1 hr
 refine sq ?_
 refine rg ?_
 refine q trivial rfl rfl (asg (v := Str []) rfl) ?_
 refine nl ?_
 refine nN ?_
 refine sq ?_
 refine sq ?_
 refine rg ?_
 refine q trivial rfl rfl (mv (v := pB rb) rfl) ?_
 refine cl trivial rfl (pick (rb := rb) (Ab := Ab) (cb := cb) (bs := bs) (p := p) (n := 20) (w := _) (hr := (blk_heap hs0 0 rfl)) (hb := (hb.up hs0 (fun _ h => h) (fun _ h => .inl h))) (hbn := (by first | assumption | (simp; omega))) (hp := (by omega))) ?_
 rintro _ w1 ⟨r1, q1, rfl, p1, p2, hs1'⟩
 have hs1 : SH w w1 [rb] [.blk rb 47 [.slice Ab bs.length cb, I ((q1 : Nat) : Int)]] := hs0.callM 0 rfl hs1' (by intro k hk; simp at hk; exact hk.symm)
 clear hs1'
 refine q trivial rfl rfl (eqi (k := .i64) (a := r1) (b := 0) rfl rfl) ?_
 refine nl ?_
 refine nN ?_
 refine cdd (p := r1 = 0) rfl (fun h1 => ?_) (fun h1 => ?_)
 · refine sq ?_
   refine rg ?_
   refine q trivial rfl rfl (mv (v := pB rb) rfl) ?_
   refine bsk hs1 sl81 [Str [], Str [97, 46, 46, 98], Str [46, 97], Str [97, 46], Str [65], Str [97, 95, 98], Str [97, 98, 99, 100, 101, 102, 103, 104, 105, 106, 107, 108, 109, 110, 111, 112, 113, 114, 115, 116], Str [97, 98, 99, 100, 101, 102, 103, 104, 105, 106, 107, 108, 109, 110, 111, 112, 113, 114, 115, 116, 117], Str [97, 46, 57]] [Str [], Str [97, 46, 46, 98], Str [46, 97], Str [97, 46], Str [65], Str [97, 95, 98], Str [97, 98, 99, 100, 101, 102, 103, 104, 105, 106, 107, 108, 109, 110, 111, 112, 113, 114, 115, 116], Str [97, 98, 99, 100, 101, 102, 103, 104, 105, 106, 107, 108, 109, 110, 111, 112, 113, 114, 115, 116, 117], Str [97, 46, 57]] trivial rfl (fun b1 w2 (hs2 : SH w w2 [rb] [.blk rb 47 [.slice Ab bs.length cb, I ((q1 : Nat) : Int)], .own (some ⟨b1, 0, none⟩) (([[], [97, 46, 46, 98], [46, 97], [97, 46], [65], [97, 95, 98], [97, 98, 99, 100, 101, 102, 103, 104, 105, 106, 107, 108, 109, 110, 111, 112, 113, 114, 115, 116], [97, 98, 99, 100, 101, 102, 103, 104, 105, 106, 107, 108, 109, 110, 111, 112, 113, 114, 115, 116, 117], [97, 46, 57]] : List (List UInt8)).length) 9 9 1 (([[], [97, 46, 46, 98], [46, 97], [97, 46], [65], [97, 95, 98], [97, 98, 99, 100, 101, 102, 103, 104, 105, 106, 107, 108, 109, 110, 111, 112, 113, 114, 115, 116], [97, 98, 99, 100, 101, 102, 103, 104, 105, 106, 107, 108, 109, 110, 111, 112, 113, 114, 115, 116, 117], [97, 46, 57]] : List (List UInt8)).map Str)]) => ?_)
   refine cl trivial rfl (rdOf (rb := rb) (Ab := Ab) (cb := cb) (bs := bs) (p := q1) (Ass := (some ⟨b1, 0, none⟩)) (css := 9) (ss := ([[], [97, 46, 46, 98], [46, 97], [97, 46], [65], [97, 95, 98], [97, 98, 99, 100, 101, 102, 103, 104, 105, 106, 107, 108, 109, 110, 111, 112, 113, 114, 115, 116], [97, 98, 99, 100, 101, 102, 103, 104, 105, 106, 107, 108, 109, 110, 111, 112, 113, 114, 115, 116, 117], [97, 46, 57]] : List (List UInt8))) (w := _) (hr := (blk_heap hs2 0 rfl)) (hb := (hb.up hs2 (fun _ h => h) (fun _ h => .inl h))) (hbn := (by first | assumption | (simp; omega))) (hp := (by omega)) (hss := (hs2.sl 1 rfl (by intro k hk; simp at hk; subst hk; exact ⟨_, memi 0 rfl, rfl⟩))) (hne := (by first | omega | assumption | (simp; done) | (simp; omega)))) ?_
   rintro _ w3 ⟨s1, q2, rfl, p3, p4, hs3'⟩
   have hs3 : SH w w3 [rb] [.own (some ⟨b1, 0, none⟩) (([[], [97, 46, 46, 98], [46, 97], [97, 46], [65], [97, 95, 98], [97, 98, 99, 100, 101, 102, 103, 104, 105, 106, 107, 108, 109, 110, 111, 112, 113, 114, 115, 116], [97, 98, 99, 100, 101, 102, 103, 104, 105, 106, 107, 108, 109, 110, 111, 112, 113, 114, 115, 116, 117], [97, 46, 57]] : List (List UInt8)).length) 9 9 1 (([[], [97, 46, 46, 98], [46, 97], [97, 46], [65], [97, 95, 98], [97, 98, 99, 100, 101, 102, 103, 104, 105, 106, 107, 108, 109, 110, 111, 112, 113, 114, 115, 116], [97, 98, 99, 100, 101, 102, 103, 104, 105, 106, 107, 108, 109, 110, 111, 112, 113, 114, 115, 116, 117], [97, 46, 57]] : List (List UInt8)).map Str), .blk rb 47 [.slice Ab bs.length cb, I ((q2 : Nat) : Int)]] := hs2.callM 0 rfl hs3' (by intro k hk; simp at hk; exact hk.symm)
   clear hs3'
   refine q trivial rfl rfl (asg (v := Str s1) rfl) ?_
   refine nl ?_
   refine nN ?_
   refine rt (tR ?_)
   refine fret (v := Str s1) (.tmp .nil) rfl ?_
   exact ⟨s1, q2, rfl, (by first | exact names9 (by assumption) | exact names6 (by assumption)), (by omega), (hs3.pick [1] rfl (by decide))⟩
 · refine sk ?_
   refine nN ?_
   refine sq ?_
   refine rg ?_
   refine q trivial rfl rfl (mv (v := pB rb) rfl) ?_
   refine bsk hs1 sl81 [Str [120, 46, 111, 114, 103], Str [119, 119, 119, 46, 120, 46, 111, 114, 103], Str [97], Str [98, 45, 99, 46, 110, 101, 116], Str [57, 97, 46, 98], Str [121]] [Str [120, 46, 111, 114, 103], Str [119, 119, 119, 46, 120, 46, 111, 114, 103], Str [97], Str [98, 45, 99, 46, 110, 101, 116], Str [57, 97, 46, 98], Str [121]] trivial rfl (fun b2 w4 (hs4 : SH w w4 [rb] [.blk rb 47 [.slice Ab bs.length cb, I ((q1 : Nat) : Int)], .own (some ⟨b2, 0, none⟩) (([[120, 46, 111, 114, 103], [119, 119, 119, 46, 120, 46, 111, 114, 103], [97], [98, 45, 99, 46, 110, 101, 116], [57, 97, 46, 98], [121]] : List (List UInt8)).length) 6 9 1 (([[120, 46, 111, 114, 103], [119, 119, 119, 46, 120, 46, 111, 114, 103], [97], [98, 45, 99, 46, 110, 101, 116], [57, 97, 46, 98], [121]] : List (List UInt8)).map Str)]) => ?_)
   refine cl trivial rfl (rdOf (rb := rb) (Ab := Ab) (cb := cb) (bs := bs) (p := q1) (Ass := (some ⟨b2, 0, none⟩)) (css := 6) (ss := ([[120, 46, 111, 114, 103], [119, 119, 119, 46, 120, 46, 111, 114, 103], [97], [98, 45, 99, 46, 110, 101, 116], [57, 97, 46, 98], [121]] : List (List UInt8))) (w := _) (hr := (blk_heap hs4 0 rfl)) (hb := (hb.up hs4 (fun _ h => h) (fun _ h => .inl h))) (hbn := (by first | assumption | (simp; omega))) (hp := (by omega)) (hss := (hs4.sl 1 rfl (by intro k hk; simp at hk; subst hk; exact ⟨_, memi 0 rfl, rfl⟩))) (hne := (by first | omega | assumption | (simp; done) | (simp; omega)))) ?_
   rintro _ w5 ⟨s2, q3, rfl, p5, p6, hs5'⟩
   have hs5 : SH w w5 [rb] [.own (some ⟨b2, 0, none⟩) (([[120, 46, 111, 114, 103], [119, 119, 119, 46, 120, 46, 111, 114, 103], [97], [98, 45, 99, 46, 110, 101, 116], [57, 97, 46, 98], [121]] : List (List UInt8)).length) 6 9 1 (([[120, 46, 111, 114, 103], [119, 119, 119, 46, 120, 46, 111, 114, 103], [97], [98, 45, 99, 46, 110, 101, 116], [57, 97, 46, 98], [121]] : List (List UInt8)).map Str), .blk rb 47 [.slice Ab bs.length cb, I ((q3 : Nat) : Int)]] := hs4.callM 0 rfl hs5' (by intro k hk; simp at hk; exact hk.symm)
   clear hs5'
   refine q trivial rfl rfl (asg (v := Str s2) rfl) ?_
   refine nl ?_
   refine nN ?_
   refine rt ?_
   refine fret (v := Str s2) (.tmp .nil) rfl ?_
   exact ⟨s2, q3, rfl, (by first | exact names9 (by assumption) | exact names6 (by assumption)), (by omega), (hs5.pick [1] rfl (by decide))⟩

set_option maxHeartbeats 8000000 in
theorem l91Address {rb : Nat} {Ab : Option Addr} {cb : Nat} {bs : List UInt8} {p : Nat} (w : World) (hr : w.heap[rb]? = some (.cells [.slice Ab bs.length cb, .int .i64 ((p : Nat) : Int)].toArray 47 (0, 0))) (hb : Sl w [rb] 1 Ab bs.length cb (bs.map U)) (hbn : bs.length ≤ 2000) (hp : p ≤ 137438953472) : Does Try.prog 40 [pB rb] w (fun v w' => ∃ Aqr : Option Addr, ∃ cqr : Nat, ∃ ak : Int, ∃ aq : List Int, ∃ an : List UInt8, ∃ apt : Int, ∃ q : Nat, v = .agg #[.int .i64 ak, .slice Aqr aq.length cqr, Str an, .int .i64 apt] ∧ (aq.length ≤ 4) ∧ (an.length ≤ 21) ∧ (q ≤ p + 40) ∧ SH w w' [rb] [.blk rb 47 [.slice Ab bs.length cb, I ((q : Nat) : Int)], .own Aqr aq.length cqr 3 1 (aq.map I)]) := by
 refine fn_enter (N := 25) Try.func40 rfl (by kernel_rfl) rfl rfl rfl ?_
 have hs0 : SH w w [rb] [.blk rb 47 [.slice Ab bs.length cb, I ((p : Nat) : Int)]] := SH.entry1 hr
 refine sq ?_
 refine rg ?_
 refine al (v := .agg #[I 0, ns, Str [], I 0]) (cs := [I 0, ns, Str [], I 0]) hs0 tz52 rfl trivial rfl (fun b1 w1 (hs1 : SH w w1 [rb] [.blk rb 47 [.slice Ab bs.length cb, I ((p : Nat) : Int)], .blk b1 52 [I 0, ns, Str [], I 0]]) => ?_)
 refine nl ?_
 refine nN ?_
 refine sq ?_
 refine sq ?_
 refine rg ?_
 refine q trivial rfl rfl (mv (v := pB rb) rfl) ?_
 refine cl trivial rfl (pick (rb := rb) (Ab := Ab) (cb := cb) (bs := bs) (p := p) (n := 2) (w := _) (hr := (blk_heap hs1 0 rfl)) (hb := (hb.up hs1 (fun _ h => h) (fun _ h => .inl h))) (hbn := (by first | assumption | (simp; omega))) (hp := (by omega))) ?_
 rintro _ w2 ⟨r1, q1, rfl, p1, p2, hs2'⟩
 have hs2 : SH w w2 [rb] [.blk b1 52 [I 0, ns, Str [], I 0], .blk rb 47 [.slice Ab bs.length cb, I ((q1 : Nat) : Int)]] := hs1.callM 0 rfl hs2' (by intro k hk; simp at hk; exact hk.symm)
 clear hs2'
 refine q trivial rfl rfl (eqi (k := .i64) (a := r1) (b := 0) rfl rfl) ?_
 refine nl ?_
 refine nN ?_
 refine cdd (p := r1 = 0) rfl (fun h1 => ?_) (fun h1 => ?_)
 · refine sq ?_
   refine rg ?_
   refine q trivial rfl rfl (mv (v := pB rb) rfl) ?_
   refine cl trivial rfl (l91Quad (rb := rb) (Ab := Ab) (cb := cb) (bs := bs) (p := q1) (w := _) (hr := (blk_heap hs2 1 rfl)) (hb := (hb.up hs2 (fun _ h => h) (fun _ h => .inl h))) (hbn := (by first | assumption | (simp; omega))) (hp := (by omega))) ?_
   rintro _ w3 ⟨A1, c1, r2, q2, rfl, p3, p4, hs3'⟩
   have hs3 : SH w w3 [rb] [.blk b1 52 [I 0, ns, Str [], I 0], .blk rb 47 [.slice Ab bs.length cb, I ((q2 : Nat) : Int)], .own A1 r2.length c1 3 1 (r2.map I)] := hs2.callM 1 rfl hs3' (by intro k hk; simp at hk; exact hk.symm)
   clear hs3'
   refine q trivial rfl rfl (mv (v := pB rb) rfl) ?_
   refine cl trivial rfl (l91Port (rb := rb) (Ab := Ab) (cb := cb) (bs := bs) (p := q2) (w := _) (hr := (blk_heap hs3 1 rfl)) (hb := (hb.up hs3 (fun _ h => h) (fun _ h => .inl h))) (hbn := (by first | assumption | (simp; omega))) (hp := (by omega))) ?_
   rintro _ w4 ⟨r3, q3, rfl, p5, hs4'⟩
   have hs4 : SH w w4 [rb] [.blk b1 52 [I 0, ns, Str [], I 0], .own A1 r2.length c1 3 1 (r2.map I), .blk rb 47 [.slice Ab bs.length cb, I ((q3 : Nat) : Int)]] := hs3.callM 1 rfl hs4' (by intro k hk; simp at hk; exact hk.symm)
   clear hs4'
   refine q trivial rfl rfl (bdv (v := .agg #[I 1, .slice A1 r2.length c1, Str [], I r3]) [(0, I 1), (1, .slice A1 r2.length c1), (3, I r3)] rfl (fun _ => by kernel_rfl)) ?_
   refine stg (vs := [I 1, .slice A1 r2.length c1, Str [], I r3]) hs4 0 rfl rfl rfl rfl rfl rfl rfl ag52 trivial (fun w5 (hs5 : SH w w5 [rb] [.own A1 r2.length c1 3 1 (r2.map I), .blk rb 47 [.slice Ab bs.length cb, I ((q3 : Nat) : Int)], .blk b1 52 [I 1, .slice A1 r2.length c1, Str [], I r3]]) => ?_)
   refine nl ?_
   refine nN ?_
   refine rt (tR ?_)
   refine fret (v := .agg #[I 1, .slice A1 r2.length c1, Str [], I r3]) (resC hs5 2 rfl rfl ag52 rfl .nil) rfl ?_
   exact ⟨A1, c1, 1, r2, [], r3, q3, rfl, (by first | omega | simp), (by first | omega | simp), (by omega), (hs5.pick [1, 0] rfl (by decide))⟩
 · refine sk ?_
   refine nN ?_
   refine sq ?_
   refine rg ?_
   refine bsk hs2 sl24 [] [] trivial rfl (fun b2 w6 (hs6 : SH w w6 [rb] [.blk b1 52 [I 0, ns, Str [], I 0], .blk rb 47 [.slice Ab bs.length cb, I ((q1 : Nat) : Int)], oI b2 ([] : List Int) 0 3]) => ?_)
   refine q trivial rfl rfl (mv (v := pB rb) rfl) ?_
   refine cl trivial rfl (l91Name (rb := rb) (Ab := Ab) (cb := cb) (bs := bs) (p := q1) (w := _) (hr := (blk_heap hs6 1 rfl)) (hb := (hb.up hs6 (fun _ h => h) (fun _ h => .inl h))) (hbn := (by first | assumption | (simp; omega))) (hp := (by omega))) ?_
   rintro _ w7 ⟨s1, q4, rfl, p6, p7, hs7'⟩
   have hs7 : SH w w7 [rb] [.blk b1 52 [I 0, ns, Str [], I 0], oI b2 ([] : List Int) 0 3, .blk rb 47 [.slice Ab bs.length cb, I ((q4 : Nat) : Int)]] := hs6.callM 1 rfl hs7' (by intro k hk; simp at hk; exact hk.symm)
   clear hs7'
   refine q trivial rfl rfl (mv (v := pB rb) rfl) ?_
   refine cl trivial rfl (l91Port (rb := rb) (Ab := Ab) (cb := cb) (bs := bs) (p := q4) (w := _) (hr := (blk_heap hs7 2 rfl)) (hb := (hb.up hs7 (fun _ h => h) (fun _ h => .inl h))) (hbn := (by first | assumption | (simp; omega))) (hp := (by omega))) ?_
   rintro _ w8 ⟨r4, q5, rfl, p8, hs8'⟩
   have hs8 : SH w w8 [rb] [.blk b1 52 [I 0, ns, Str [], I 0], oI b2 ([] : List Int) 0 3, .blk rb 47 [.slice Ab bs.length cb, I ((q5 : Nat) : Int)]] := hs7.callM 2 rfl hs8' (by intro k hk; simp at hk; exact hk.symm)
   clear hs8'
   refine q trivial rfl rfl (bdv (v := .agg #[I 3, sb b2 (([] : List Int).length) 0, Str s1, I r4]) [(0, I 3), (1, sb b2 (([] : List Int).length) 0), (2, Str s1), (3, I r4)] rfl (fun _ => by kernel_rfl)) ?_
   refine al (v := .agg #[I 0, ns, Str [], I 0]) (cs := [I 0, ns, Str [], I 0]) hs8 tz52 rfl trivial rfl (fun b3 w9 (hs9 : SH w w9 [rb] [.blk b1 52 [I 0, ns, Str [], I 0], oI b2 ([] : List Int) 0 3, .blk rb 47 [.slice Ab bs.length cb, I ((q5 : Nat) : Int)], .blk b3 52 [I 0, ns, Str [], I 0]]) => ?_)
   refine stg (vs := [I 3, sb b2 (([] : List Int).length) 0, Str s1, I r4]) hs9 3 rfl rfl rfl rfl rfl rfl rfl ag52 trivial (fun w10 (hs10 : SH w w10 [rb] [.blk b1 52 [I 0, ns, Str [], I 0], oI b2 ([] : List Int) 0 3, .blk rb 47 [.slice Ab bs.length cb, I ((q5 : Nat) : Int)], .blk b3 52 [I 3, sb b2 (([] : List Int).length) 0, Str s1, I r4]]) => ?_)
   refine nl ?_
   refine nN ?_
   refine sq ?_
   refine sq ?_
   refine rg ?_
   refine q trivial rfl rfl (mv (v := pB rb) rfl) ?_
   refine cl trivial rfl (pick (rb := rb) (Ab := Ab) (cb := cb) (bs := bs) (p := q5) (n := 40) (w := _) (hr := (blk_heap hs10 2 rfl)) (hb := (hb.up hs10 (fun _ h => h) (fun _ h => .inl h))) (hbn := (by first | assumption | (simp; omega))) (hp := (by omega))) ?_
   rintro _ w11 ⟨r5, q6, rfl, p9, p10, hs11'⟩
   have hs11 : SH w w11 [rb] [.blk b1 52 [I 0, ns, Str [], I 0], oI b2 ([] : List Int) 0 3, .blk b3 52 [I 3, sb b2 (([] : List Int).length) 0, Str s1, I r4], .blk rb 47 [.slice Ab bs.length cb, I ((q6 : Nat) : Int)]] := hs10.callM 2 rfl hs11' (by intro k hk; simp at hk; exact hk.symm)
   clear hs11'
   refine q trivial rfl rfl (eqi (k := .i64) (a := r5) (b := 0) rfl rfl) ?_
   refine nl ?_
   refine nN ?_
   refine cdd (p := r5 = 0) rfl (fun h2 => ?_) (fun h2 => ?_)
   · refine rg ?_
     refine q trivial rfl rfl (mv (v := pB rb) rfl) ?_
     refine cl trivial rfl (pick (rb := rb) (Ab := Ab) (cb := cb) (bs := bs) (p := q6) (n := 5) (w := _) (hr := (blk_heap hs11 3 rfl)) (hb := (hb.up hs11 (fun _ h => h) (fun _ h => .inl h))) (hbn := (by first | assumption | (simp; omega))) (hp := (by omega))) ?_
     rintro _ w12 ⟨r6, q7, rfl, p11, p12, hs12'⟩
     have hs12 : SH w w12 [rb] [.blk b1 52 [I 0, ns, Str [], I 0], oI b2 ([] : List Int) 0 3, .blk b3 52 [I 3, sb b2 (([] : List Int).length) 0, Str s1, I r4], .blk rb 47 [.slice Ab bs.length cb, I ((q7 : Nat) : Int)]] := hs11.callM 3 rfl hs12' (by intro k hk; simp at hk; exact hk.symm)
     clear hs12'
     refine q trivial rfl rfl (fa 0 fo52_0 rfl) ?_
     refine st (v := I r6) hs12 2 rfl rfl rfl rfl rfl one3 trivial (fun w13 (hs13 : SH w w13 [rb] [.blk b1 52 [I 0, ns, Str [], I 0], oI b2 ([] : List Int) 0 3, .blk rb 47 [.slice Ab bs.length cb, I ((q7 : Nat) : Int)], .blk b3 52 [I r6, sb b2 (([] : List Int).length) 0, Str s1, I r4]]) => ?_)
     refine nl ?_
     refine nN ?_
     refine sq ?_
     refine rg ?_
     refine q trivial rfl rfl (ldg (vs := [I r6, sb b2 (([] : List Int).length) 0, Str s1, I r4]) hs13 3 rfl rfl rfl rfl ag52) ?_
     refine stg (vs := [I r6, sb b2 (([] : List Int).length) 0, Str s1, I r4]) hs13 0 rfl rfl rfl rfl rfl rfl rfl ag52 trivial (fun w14 (hs14 : SH w w14 [rb] [oI b2 ([] : List Int) 0 3, .blk rb 47 [.slice Ab bs.length cb, I ((q7 : Nat) : Int)], .blk b3 52 [I r6, sb b2 (([] : List Int).length) 0, Str s1, I r4], .blk b1 52 [I r6, sb b2 (([] : List Int).length) 0, Str s1, I r4]]) => ?_)
     refine nl ?_
     refine nN ?_
     refine rt ?_
     refine fret (v := .agg #[I r6, sb b2 (([] : List Int).length) 0, Str s1, I r4]) (resC hs14 3 rfl rfl ag52 rfl .nil) rfl ?_
     exact ⟨(some ⟨b2, 0, none⟩), 0, r6, ([] : List Int), s1, r4, q7, rfl, (by first | omega | simp), (by first | omega | simp), (by omega), (hs14.pick [1, 0] rfl (by decide))⟩
   · refine sk ?_
     refine nN ?_
     refine sq ?_
     refine rg ?_
     refine q trivial rfl rfl (ldg (vs := [I 3, sb b2 (([] : List Int).length) 0, Str s1, I r4]) hs11 2 rfl rfl rfl rfl ag52) ?_
     refine stg (vs := [I 3, sb b2 (([] : List Int).length) 0, Str s1, I r4]) hs11 0 rfl rfl rfl rfl rfl rfl rfl ag52 trivial (fun w15 (hs15 : SH w w15 [rb] [oI b2 ([] : List Int) 0 3, .blk b3 52 [I 3, sb b2 (([] : List Int).length) 0, Str s1, I r4], .blk rb 47 [.slice Ab bs.length cb, I ((q6 : Nat) : Int)], .blk b1 52 [I 3, sb b2 (([] : List Int).length) 0, Str s1, I r4]]) => ?_)
     refine nl ?_
     refine nN ?_
     refine rt ?_
     refine fret (v := .agg #[I 3, sb b2 (([] : List Int).length) 0, Str s1, I r4]) (resC hs15 3 rfl rfl ag52 rfl .nil) rfl ?_
     exact ⟨(some ⟨b2, 0, none⟩), 0, 3, ([] : List Int), s1, r4, q6, rfl, (by first | omega | simp), (by first | omega | simp), (by omega), (hs15.pick [2, 0] rfl (by decide))⟩

theorem iTextBytes (s : List UInt8) (w : World) (hs_n : s.length ≤ 2147483648) : Does Try.prog 26 [Str s] w (fun v w' => ∃ Ar : Option Addr, ∃ cr : Nat, v = .slice Ar (textI s).length cr ∧ SH w w' [] [.own Ar ((textI s).length) cr 3 1 ((textI s).map I)]) := by
 refine fn_enter (N := 22) Try.func26 rfl (by kernel_rfl) rfl rfl rfl ?_
 have hs0 : SH w w [] [] := SH.refl w []
 refine sq ?_
 refine rg ?_
 refine q trivial rfl rfl (asg (v := ns) rfl) ?_
 refine nl ?_
 refine nN ?_
 refine sq ?_
 refine rg ?_
 refine q trivial rfl rfl (mv (v := Str s) rfl) ?_
 refine q trivial rfl rfl (lnS (l := s) st9 rfl) ?_
 refine mkm (g := I) (z := 0) (n := s.length) hs0 sl24 rfl rfl rfl (by omega) (by unfold maxLen; omega) trivial rfl (fun b1 w1 (hs1 : SH w w1 [] [oI b1 (List.replicate s.length (0 : Int)) s.length 3]) => ?_)
 refine q trivial rfl rfl (asg (v := sb b1 ((List.replicate s.length (0 : Int)).length) s.length) rfl) ?_
 refine nl ?_
 refine nN ?_
 refine sq ?_
 refine sq ?_
 refine rg ?_
 refine q trivial rfl rfl (mv (v := sb b1 ((List.replicate s.length (0 : Int)).length) s.length) rfl) ?_
 refine q trivial rfl rfl (lnA (n := (List.replicate s.length (0 : Int)).length) sl24 rfl) ?_
 refine q trivial rfl rfl (mv (v := I 0) rfl) ?_
 refine nl ?_
 refine nN ?_
 refine bl ?_
 have e1 : List.replicate s.length (0 : Int) = (textI s).take 0 ++ List.replicate (s.length - 0) (0 : Int) := by simp
 have e2 : (List.replicate s.length (0 : Int)).length = s.length := by first | rfl | (simp; done) | (simp; omega) | omega
 refine lp (σ := (Option Addr) × Nat × Nat) (fun ⟨Ag3, cg3, k⟩ f w' => Has f [(0, Str s), (3, .slice Ag3 s.length cg3), (9, I (((List.replicate s.length (0 : Int)).length : Nat) : Int)), (10, I ((k : Nat) : Int))] ∧ (k ≤ s.length) ∧ SH w w' [] [.own Ag3 s.length cg3 3 1 (((textI s).take k ++ List.replicate (s.length - k) (0 : Int)).map I)]) (fun ⟨Ag3, cg3, k⟩ => s.length - k) ((some ⟨b1, 0, none⟩), s.length, 0) ⟨⟨rfl, (show (.slice (some ⟨b1, 0, none⟩) ((List.replicate s.length (0 : Int)).length) s.length : Value) = .slice (some ⟨b1, 0, none⟩) s.length s.length from slv rfl e2 rfl), rfl, rfl, trivial⟩, (by simp), (hs1.cast (lc (own_eq (g := I) rfl e2 rfl e1) rfl))⟩ ?_
 rintro ⟨Ag3, cg3, k⟩ f w2 ⟨hf, hk, hs2⟩
 obtain ⟨g1, rfl⟩ := has_upd hf
 clear hf
 refine sq ?_
 refine rg ?_
 refine q trivial rfl rfl (lss (k := .i64) (a := ((k : Nat) : Int)) (b := (((List.replicate s.length (0 : Int)).length : Nat) : Int)) rfl rfl) ?_
 refine nl ?_
 refine nN ?_
 refine sq ?_
 refine cdd (p := ((k : Nat) : Int) < (((List.replicate s.length (0 : Int)).length : Nat) : Int)) rfl (fun h1 => ?_) (fun h1 => ?_)
 · refine sk ?_
   refine nN ?_
   refine sq ?_
   refine bl ?_
   refine sq ?_
   refine rg ?_
   refine q trivial rfl rfl (mv (v := I ((k : Nat) : Int)) rfl) ?_
   refine q trivial rfl rfl (asg (v := I ((k : Nat) : Int)) rfl) ?_
   refine nl ?_
   refine nN ?_
   refine rg ?_
   refine q trivial rfl rfl (mv (v := .slice Ag3 s.length cg3) rfl) ?_
   refine q trivial rfl rfl (mv (v := I ((k : Nat) : Int)) rfl) ?_
   refine q trivial rfl rfl (mv (v := Str s) rfl) ?_
   refine q trivial rfl rfl (mv (v := I ((k : Nat) : Int)) rfl) ?_
   refine q trivial rfl rfl (ixs (l := s) k st9 rfl rfl (by first | omega | (simp; done) | (simp; omega))) ?_
   refine q trivial rfl rfl (cvI (a := (((s.getD k 0).toNat : Nat) : Int)) (s := .u8) ti5 ti3 rfl (by have := u8_bd ((s.getD k 0)); exact ⟨by omega, by omega⟩)) ?_
   obtain ⟨b2, rfl⟩ := own_form hs2 0 rfl (by first | omega | (simp; done) | (simp; omega))
   refine q trivial rfl rfl (ixo k sl24 rfl rfl (by first | omega | (simp; done) | (simp; omega))) ?_
   refine stomn (g := I) (ys := (textI s).take k ++ List.replicate (s.length - k) (0 : Int)) (o := k) (u := (((s.getD k 0).toNat : Nat) : Int)) hs2 0 rfl rfl rfl rfl (by first | omega | (simp; done) | (simp; omega)) rfl one3 trivial (fun w3 (hs3 : SH w w3 [] [.own (some ⟨b2, 0, none⟩) s.length cg3 3 1 ((((textI s).take k ++ List.replicate (s.length - k) (0 : Int)).set k (((s.getD k 0).toNat : Nat) : Int)).map I)]) => ?_)
   refine nl ?_
   refine bN ?_
   refine nN ?_
   refine rg ?_
   refine q trivial rfl rfl (add (a := ((k : Nat) : Int)) (b := 1) rfl rfl (by exact ⟨by omega, by omega⟩)) ?_
   refine q trivial rfl rfl (mv (v := I (((k : Nat) : Int) + 1)) rfl) ?_
   refine nl ?_
   refine nN ?_
   have e3 : ((textI s).take k ++ List.replicate (s.length - k) (0 : Int)).set k (((s.getD k 0).toNat : Nat) : Int) = (textI s).take (k + 1) ++ List.replicate (s.length - (k + 1)) (0 : Int) := by exact textI_set (by omega)
   refine ⟨((some ⟨b2, 0, none⟩), cg3, k + 1), ⟨⟨rfl, rfl, rfl, rfl, trivial⟩, (by omega), (hs3.cast (lc (own_eq (g := I) rfl rfl rfl e3) rfl))⟩, ?_⟩
   show s.length - (k + 1) < s.length - k
   omega
 · refine ex (tE (tE (bE ?_)))
   refine nN ?_
   refine sq ?_
   refine rg ?_
   refine q trivial rfl rfl (mv (v := .slice Ag3 s.length cg3) rfl) ?_
   refine q trivial rfl rfl (asg (v := .slice Ag3 s.length cg3) rfl) ?_
   refine nl ?_
   refine nN ?_
   refine rt ?_
   refine fret (v := .slice Ag3 s.length cg3) (.tmp .nil) rfl ?_
   have e4 : (textI s).take k ++ List.replicate (s.length - k) (0 : Int) = textI s := by have : k = s.length := (by omega); subst this; rw [textI_all (Nat.le_refl _)]; simp
   have e5 : s.length = (textI s).length := by exact (show s.length = ((textI s).take k ++ List.replicate (s.length - k) (0 : Int)).length by (simp [textI_len]; omega)).trans (congrArg List.length e4)
   exact ⟨Ag3, cg3, (slv rfl e5 rfl), (hs2.cast (lc (own_eq (g := I) rfl e5 rfl e4) rfl))⟩

theorem sL1Text (s : List UInt8) (w : World) (hs_n : s.length ≤ 2147483648) : Does Try.prog 38 [Str s] w (fun v w' => ∃ Ar : Option Addr, ∃ cr : Nat, v = .slice Ar (textI s).length cr ∧ SH w w' [] [.own Ar ((textI s).length) cr 3 1 ((textI s).map I)]) := by
 refine fn_enter (N := 20) Try.func38 rfl (by kernel_rfl) rfl rfl rfl ?_
 have hs0 : SH w w [] [] := SH.refl w []
 refine sq ?_
 refine rg ?_
 refine q trivial rfl rfl (asg (v := ns) rfl) ?_
 refine nl ?_
 refine nN ?_
 refine sq ?_
 refine rg ?_
 refine bsk hs0 sl24 [] [] trivial rfl (fun b1 w1 (hs1 : SH w w1 [] [oI b1 ([] : List Int) 0 3]) => ?_)
 refine q trivial rfl rfl (asg (v := sb b1 (([] : List Int).length) 0) rfl) ?_
 refine nl ?_
 refine nN ?_
 refine sq ?_
 refine sq ?_
 refine rg ?_
 refine q trivial rfl rfl (asg (v := I 0) rfl) ?_
 refine nl ?_
 refine nN ?_
 refine bl ?_
 have e1 : ([] : List Int) = (textI s).take 0 := by simp
 have e2 : ([] : List Int).length = ((textI s).take 0).length := by rw [e1]
 refine lp (σ := (Option Addr) × Nat × Nat) (fun ⟨Ag3, cg3, k⟩ f w' => Has f [(0, Str s), (3, .slice Ag3 (((textI s).take k).length) cg3), (4, I ((k : Nat) : Int))] ∧ (k ≤ s.length) ∧ SH w w' [] [.own Ag3 (((textI s).take k).length) cg3 3 1 (((textI s).take k).map I)]) (fun ⟨Ag3, cg3, k⟩ => s.length - k) ((some ⟨b1, 0, none⟩), 0, 0) ⟨⟨rfl, (show (.slice (some ⟨b1, 0, none⟩) (([] : List Int).length) 0 : Value) = .slice (some ⟨b1, 0, none⟩) (((textI s).take 0).length) 0 from slv rfl e2 rfl), rfl, trivial⟩, (by simp), (hs1.cast (lc (own_eq (g := I) rfl e2 rfl e1) rfl))⟩ ?_
 rintro ⟨Ag3, cg3, k⟩ f w2 ⟨hf, hk, hs2⟩
 obtain ⟨g1, rfl⟩ := has_upd hf
 clear hf
 refine sq ?_
 refine sq ?_
 refine rg ?_
 refine q trivial rfl rfl (mv (v := I ((k : Nat) : Int)) rfl) ?_
 refine q trivial rfl rfl (mv (v := Str s) rfl) ?_
 refine q trivial rfl rfl (lnS (l := s) st9 rfl) ?_
 refine q trivial rfl rfl (lss (k := .i64) (a := ((k : Nat) : Int)) (b := ((s.length : Nat) : Int)) rfl rfl) ?_
 refine nl ?_
 refine nN ?_
 refine cdd (p := ((k : Nat) : Int) < ((s.length : Nat) : Int)) rfl (fun h1 => ?_) (fun h1 => ?_)
 · refine sk ?_
   refine nN ?_
   refine sq ?_
   refine bl ?_
   refine rg ?_
   refine q trivial rfl rfl (mv (v := .slice Ag3 (((textI s).take k).length) cg3) rfl) ?_
   refine q trivial rfl rfl (mv (v := Str s) rfl) ?_
   refine q trivial rfl rfl (mv (v := I ((k : Nat) : Int)) rfl) ?_
   refine q trivial rfl rfl (ixs (l := s) k st9 rfl rfl (by first | (first | omega | (simp; done) | (simp; omega)) | (have htl := textI_len s; first | omega | (simp; done) | (simp; omega)))) ?_
   refine q trivial rfl rfl (cvI (a := (((s.getD k 0).toNat : Nat) : Int)) (s := .u8) ti5 ti3 rfl (by have := u8_bd ((s.getD k 0)); exact ⟨by omega, by omega⟩)) ?_
   refine bsk hs2 sl24 [I (((s.getD k 0).toNat : Nat) : Int)] [I (((s.getD k 0).toNat : Nat) : Int)] trivial rfl (fun b2 w3 (hs3 : SH w w3 [] [.own Ag3 (((textI s).take k).length) cg3 3 1 (((textI s).take k).map I), oI b2 ([(((s.getD k 0).toNat : Nat) : Int)] : List Int) 1 3]) => ?_)
   refine apm (g := I) (ys := (textI s).take k) (zs := ([(((s.getD k 0).toNat : Nat) : Int)] : List Int)) hs3 0 rfl sl24 rfl rfl rfl (hs3.sl0 1 rfl) (fun _ => rfl) (by unfold maxLen; have htl := textI_len s; simp only [List.length_take, List.length_cons, List.length_nil]; omega) (by have htl := textI_len s; simp only [List.length_take, List.length_cons, List.length_nil]; omega) trivial rfl (fun A1 c1 w4 (hs4 : SH w w4 [] [oI b2 ([(((s.getD k 0).toNat : Nat) : Int)] : List Int) 1 3, .own A1 ((((textI s).take k) ++ ([(((s.getD k 0).toNat : Nat) : Int)] : List Int)).length) c1 3 1 ((((textI s).take k) ++ ([(((s.getD k 0).toNat : Nat) : Int)] : List Int)).map I)]) => ?_)
   refine q trivial rfl rfl (asg (v := .slice A1 ((((textI s).take k) ++ ([(((s.getD k 0).toNat : Nat) : Int)] : List Int)).length) c1) rfl) ?_
   refine nl ?_
   refine bN ?_
   refine nN ?_
   refine rg ?_
   refine q trivial rfl rfl (mv (v := I ((k : Nat) : Int)) rfl) ?_
   refine q trivial rfl rfl (add (a := ((k : Nat) : Int)) (b := 1) rfl rfl (by first | (exact ⟨by omega, by omega⟩) | (have htl := textI_len s; exact ⟨by omega, by omega⟩))) ?_
   refine q trivial rfl rfl (asg (v := I (((k : Nat) : Int) + 1)) rfl) ?_
   refine nl ?_
   refine nN ?_
   have e3 : ((textI s).take k) ++ ([(((s.getD k 0).toNat : Nat) : Int)] : List Int) = (textI s).take (k + 1) := by exact textI_app (by omega)
   have e4 : (((textI s).take k) ++ ([(((s.getD k 0).toNat : Nat) : Int)] : List Int)).length = ((textI s).take (k + 1)).length := by rw [e3]
   refine ⟨(A1, c1, k + 1), ⟨⟨rfl, (show (.slice A1 ((((textI s).take k) ++ ([(((s.getD k 0).toNat : Nat) : Int)] : List Int)).length) c1 : Value) = .slice A1 (((textI s).take (k + 1)).length) c1 from slv rfl e4 rfl), rfl, trivial⟩, (by omega), ((hs4.pick [1] rfl (by decide)).cast (lc (own_eq (g := I) rfl e4 rfl e3) rfl))⟩, ?_⟩
   show s.length - (k + 1) < s.length - k
   omega
 · refine ex (tE (tE (bE ?_)))
   refine nN ?_
   refine sq ?_
   refine rg ?_
   refine q trivial rfl rfl (mv (v := .slice Ag3 (((textI s).take k).length) cg3) rfl) ?_
   refine q trivial rfl rfl (asg (v := .slice Ag3 (((textI s).take k).length) cg3) rfl) ?_
   refine nl ?_
   refine nN ?_
   refine rt ?_
   refine fret (v := .slice Ag3 (((textI s).take k).length) cg3) (.tmp .nil) rfl ?_
   have e5 : (textI s).take k = textI s := by exact textI_all (by omega)
   have e6 : ((textI s).take k).length = (textI s).length := by exact congrArg List.length e5
   exact ⟨Ag3, cg3, (slv rfl e6 rfl), (hs2.cast (lc (own_eq (g := I) rfl e6 rfl e5) rfl))⟩

theorem sL1Number (n : Int) (w : World) (hn : 0 ≤ n ∧ n ≤ 65535) : Does Try.prog 63 [I n, I 2] w (fun v w' => ∃ Ar : Option Addr, ∃ cr : Nat, v = .slice Ar (numB n).length cr ∧ SH w w' [] [.own Ar ((numB n).length) cr 3 1 ((numB n).map I)]) := by
 refine fn_enter (N := 23) Try.func63 rfl (by kernel_rfl) rfl rfl rfl ?_
 have hs0 : SH w w [] [] := SH.refl w []
 refine sq ?_
 refine rg ?_
 refine q trivial rfl rfl (asg (v := ns) rfl) ?_
 refine nl ?_
 refine nN ?_
 refine sq ?_
 refine rg ?_
 refine q trivial rfl rfl (mv (v := I 2) rfl) ?_
 refine mkm (g := I) (z := 0) (n := 2) hs0 sl24 rfl rfl rfl (by omega) (by unfold maxLen; omega) trivial rfl (fun b1 w1 (hs1 : SH w w1 [] [oI b1 (List.replicate 2 (0 : Int)) 2 3]) => ?_)
 refine q trivial rfl rfl (asg (v := sb b1 ((List.replicate 2 (0 : Int)).length) 2) rfl) ?_
 refine nl ?_
 refine nN ?_
 refine sq ?_
 refine sq ?_
 refine rg ?_
 refine q trivial rfl rfl (mv (v := I 2) rfl) ?_
 refine q trivial rfl rfl (sub (a := 2) (b := 1) rfl rfl (by exact ⟨by omega, by omega⟩)) ?_
 refine q trivial rfl rfl (asg (v := I ((2 : Int) - 1)) rfl) ?_
 refine nl ?_
 refine nN ?_
 refine bl ?_
 have e1 : List.replicate 2 (0 : Int) = numR n 0 := by simp [numR]
 have e2 : (List.replicate 2 (0 : Int)).length = 2 := by first | rfl | (simp; done) | (simp; omega) | omega
 refine lp (σ := (Option Addr) × Nat × Nat × Int) (fun ⟨Ag5, cg5, k, m⟩ f w' => Has f [(0, I m), (5, .slice Ag5 2 cg5), (6, I (1 - ((k : Nat) : Int)))] ∧ (k ≤ 2) ∧ (m = numM n k) ∧ (0 ≤ m ∧ m ≤ 65535) ∧ SH w w' [] [.own Ag5 2 cg5 3 1 ((numR n k).map I)]) (fun ⟨Ag5, cg5, k, m⟩ => 2 - k) ((some ⟨b1, 0, none⟩), 2, 0, n) ⟨⟨rfl, (show (.slice (some ⟨b1, 0, none⟩) ((List.replicate 2 (0 : Int)).length) 2 : Value) = .slice (some ⟨b1, 0, none⟩) 2 2 from slv rfl e2 rfl), (show (I ((2 : Int) - 1) : Value) = I (1 - ((0 : Nat) : Int)) from congrArg (Value.int .i64) (by simp)), trivial⟩, (by simp), (by simp [numM]), (hn), (hs1.cast (lc (own_eq (g := I) rfl e2 rfl e1) rfl))⟩ ?_
 rintro ⟨Ag5, cg5, k, m⟩ f w2 ⟨hf, hk, hm, hm2, hs2⟩
 obtain ⟨g1, rfl⟩ := has_upd hf
 clear hf
 refine sq ?_
 refine sq ?_
 refine rg ?_
 refine q trivial rfl rfl (mv (v := I (1 - ((k : Nat) : Int))) rfl) ?_
 refine q trivial rfl rfl (geq (k := .i64) (a := 1 - ((k : Nat) : Int)) (b := 0) rfl rfl) ?_
 refine nl ?_
 refine nN ?_
 refine cdd (p := (0 : Int) ≤ (1 - ((k : Nat) : Int))) rfl (fun h1 => ?_) (fun h1 => ?_)
 · refine sk ?_
   refine nN ?_
   refine sq ?_
   refine bl ?_
   refine sq ?_
   refine rg ?_
   refine q trivial rfl rfl (mv (v := .slice Ag5 2 cg5) rfl) ?_
   refine q trivial rfl rfl (mv (v := I (1 - ((k : Nat) : Int))) rfl) ?_
   refine q trivial rfl rfl (mv (v := I m) rfl) ?_
   refine q trivial rfl rfl (rem (a := m) (b := 256) rfl rfl (by omega) (by omega)) ?_
   obtain ⟨b2, rfl⟩ := own_form hs2 0 rfl (by first | omega | (simp; done) | (simp; omega))
   refine q trivial rfl rfl (ixo ((1 - ((k : Nat) : Int)).toNat) sl24 rfl (ieq (x := 1 - ((k : Nat) : Int)) (by omega)) (by first | omega | (simp; done) | (simp; omega))) ?_
   refine stomn (g := I) (ys := numR n k) (o := (1 - ((k : Nat) : Int)).toNat) (u := m % 256) hs2 0 rfl rfl rfl rfl (by first | omega | (simp; done) | (simp; omega)) rfl one3 trivial (fun w3 (hs3 : SH w w3 [] [.own (some ⟨b2, 0, none⟩) 2 cg5 3 1 (((numR n k).set ((1 - ((k : Nat) : Int)).toNat) (m % 256)).map I)]) => ?_)
   refine nl ?_
   refine nN ?_
   refine rg ?_
   refine q trivial rfl rfl (mv (v := I m) rfl) ?_
   refine q trivial rfl rfl (quo (a := m) (b := 256) rfl rfl (by omega) (by omega) (by omega)) ?_
   refine q trivial rfl rfl (asg (v := I (m / 256)) rfl) ?_
   refine nl ?_
   refine bN ?_
   refine nN ?_
   refine rg ?_
   refine q trivial rfl rfl (mv (v := I (1 - ((k : Nat) : Int))) rfl) ?_
   refine q trivial rfl rfl (sub (a := 1 - ((k : Nat) : Int)) (b := 1) rfl rfl (by exact ⟨by omega, by omega⟩)) ?_
   refine q trivial rfl rfl (asg (v := I ((1 - ((k : Nat) : Int)) - 1)) rfl) ?_
   refine nl ?_
   refine nN ?_
   have e3 : (numR n k).set ((1 - ((k : Nat) : Int)).toNat) (m % 256) = numR n (k + 1) := by rw [hm]; exact numR_step (by omega) (by omega)
   refine ⟨((some ⟨b2, 0, none⟩), cg5, k + 1, m / 256), ⟨⟨rfl, rfl, (show (I ((1 - ((k : Nat) : Int)) - 1) : Value) = I (1 - (((k + 1) : Nat) : Int)) from congrArg (Value.int .i64) (by omega)), trivial⟩, (by omega), (by rw [hm]; exact numM_step (by omega)), (by omega), (hs3.cast (lc (own_eq (g := I) rfl rfl rfl e3) rfl))⟩, ?_⟩
   show 2 - (k + 1) < 2 - k
   omega
 · refine ex (tE (tE (bE ?_)))
   refine nN ?_
   refine sq ?_
   refine rg ?_
   refine q trivial rfl rfl (mv (v := .slice Ag5 2 cg5) rfl) ?_
   refine q trivial rfl rfl (asg (v := .slice Ag5 2 cg5) rfl) ?_
   refine nl ?_
   refine nN ?_
   refine rt ?_
   refine fret (v := .slice Ag5 2 cg5) (.tmp .nil) rfl ?_
   have e4 : numR n k = numB n := by have : k = 2 := (by omega); subst this; rfl
   have e5 : 2 = (numB n).length := by exact (show 2 = (numR n k).length by (have : k = 2 := (by omega); subst this; rfl)).trans (congrArg List.length e4)
   exact ⟨Ag5, cg5, (slv rfl e5 rfl), (hs2.cast (lc (own_eq (g := I) rfl e5 rfl e4) rfl))⟩

theorem sHelloBytes {Ams : Option Addr} {cms : Nat} (ms : List Int) (w : World) (hms : Sl w [] 1 Ams ms.length cms (ms.map I)) : Does Try.prog 36 [.slice Ams ms.length cms] w (fun v w' => ∃ Ar : Option Addr, ∃ cr : Nat, v = .tuple #[.slice Ar ((helloP ms).1).length cr, .bool ((helloP ms).2)] ∧ SH w w' [] [.own Ar (((helloP ms).1).length) cr 3 1 (((helloP ms).1).map I)]) := by
 refine fn_enter (N := 13) Try.func36 rfl (by kernel_rfl) rfl rfl rfl ?_
 have hs0 : SH w w [] [] := SH.refl w []
 have hms_m : ms.length ≤ 9223372036854775807 := Nat.le_trans hms.cap hms.capMax
 refine sq ?_
 refine rg ?_
 refine q trivial rfl rfl (asg (v := ns) rfl) ?_
 refine q trivial rfl rfl (asg (v := .bool false) rfl) ?_
 refine nl ?_
 refine nN ?_
 refine sq ?_
 refine sq ?_
 refine rg ?_
 refine q trivial rfl rfl (mv (v := .slice Ams ms.length cms) rfl) ?_
 refine cl trivial rfl (sL5Ok (Ams := Ams) (cms := cms) (ms := ms) (w := _) (hms := (hms.up0 hs0))) ?_
 rintro _ w1 ⟨rfl, hs1'⟩
 have hs1 : SH w w1 [] [] := hs0.call0 hs1'
 clear hs1'
 refine q trivial rfl rfl (nt (b := methOk ms) rfl) ?_
 refine nl ?_
 refine nN ?_
 refine cd (b := !(methOk ms)) rfl (fun h1 => ?_) (fun h1 => ?_)
 · have h2 : (methOk ms) = false := by simpa using h1
   refine sq ?_
   refine rg ?_
   refine bsk hs1 sl24 [] [] trivial rfl (fun b1 w2 (hs2 : SH w w2 [] [oI b1 ([] : List Int) 0 3]) => ?_)
   refine q trivial rfl rfl (asg (v := sb b1 (([] : List Int).length) 0) rfl) ?_
   refine q trivial rfl rfl (asg (v := .bool false) rfl) ?_
   refine nl ?_
   refine nN ?_
   refine rt (tR ?_)
   refine fret (v := .tuple #[sb b1 (([] : List Int).length) 0, .bool false]) (.tmp (.tmp .nil)) rfl ?_
   have e1 : helloP ms = (([] : List Int), false) := by simp [helloP, h2]
   have e2 : ([] : List Int) = (helloP ms).1 := by rw [e1]
   have e3 : ([] : List Int).length = ((helloP ms).1).length := by exact congrArg List.length e2
   have e4 : false = (helloP ms).2 := by rw [e1]
   exact ⟨(some ⟨b1, 0, none⟩), 0, (tup2 (slv rfl e3 rfl) (congrArg (Value.bool) e4)), (hs2.cast (lc (own_eq (g := I) rfl e3 rfl e2) rfl))⟩
 · have h3 : (methOk ms) = true := by simpa using h1
   refine sk ?_
   refine nN ?_
   refine sq ?_
   refine rg ?_
   refine q trivial rfl rfl (mv (v := .slice Ams ms.length cms) rfl) ?_
   refine q trivial rfl rfl (lnA (n := ms.length) sl24 rfl) ?_
   refine bsk hs1 sl24 [I 5, I ((ms.length : Nat) : Int)] [I 5, I ((ms.length : Nat) : Int)] trivial rfl (fun b2 w3 (hs3 : SH w w3 [] [oI b2 ([5, ((ms.length : Nat) : Int)] : List Int) 2 3]) => ?_)
   refine q trivial rfl rfl (mv (v := .slice Ams ms.length cms) rfl) ?_
   refine apm (g := I) (ys := ([5, ((ms.length : Nat) : Int)] : List Int)) (zs := ms) hs3 0 rfl sl24 rfl rfl rfl (hms.up0 hs3) (fun _ => rfl) (by unfold maxLen; have hml := methOk_len (by assumption); simp only [List.length_append, List.length_cons, List.length_nil]; omega) (by have hml := methOk_len (by assumption); simp only [List.length_append, List.length_cons, List.length_nil]; omega) trivial rfl (fun A1 c1 w4 (hs4 : SH w w4 [] [.own A1 ((([5, ((ms.length : Nat) : Int)] : List Int) ++ ms).length) c1 3 1 ((([5, ((ms.length : Nat) : Int)] : List Int) ++ ms).map I)]) => ?_)
   refine q trivial rfl rfl (asg (v := .slice A1 ((([5, ((ms.length : Nat) : Int)] : List Int) ++ ms).length) c1) rfl) ?_
   refine q trivial rfl rfl (asg (v := .bool true) rfl) ?_
   refine nl ?_
   refine nN ?_
   refine rt ?_
   refine fret (v := .tuple #[.slice A1 ((([5, ((ms.length : Nat) : Int)] : List Int) ++ ms).length) c1, .bool true]) (.tmp (.tmp .nil)) rfl ?_
   have e5 : helloP ms = (([5, ((ms.length : Nat) : Int)] : List Int) ++ ms, true) := by simp [helloP, h3]
   have e6 : ([5, ((ms.length : Nat) : Int)] : List Int) ++ ms = (helloP ms).1 := by rw [e5]
   have e7 : (([5, ((ms.length : Nat) : Int)] : List Int) ++ ms).length = ((helloP ms).1).length := by exact congrArg List.length e6
   have e8 : true = (helloP ms).2 := by rw [e5]
   exact ⟨A1, c1, (tup2 (slv rfl e7 rfl) (congrArg (Value.bool) e8)), (hs4.cast (lc (own_eq (g := I) rfl e7 rfl e6) rfl))⟩

set_option maxHeartbeats 8000000 in
theorem l6DecStep (n : Int) (w : World) (hn : 0 ≤ n ∧ n ≤ 9223372036854775807) (ih : ∀ (m : Int) (w : World), 0 ≤ m → m < n → Does Try.prog 72 [I m] w (fun v w' => v = Str (Lib.itoa m) ∧ SH w w' [] [])) : Does Try.prog 72 [I n] w (fun v w' => v = Str (Lib.itoa n) ∧ SH w w' [] []) := by
 refine fn_enter (N := 28) Try.func72 rfl (by kernel_rfl) rfl rfl rfl ?_
 have hs0 : SH w w [] [] := SH.refl w []
 refine sq ?_
 refine rg ?_
 refine q trivial rfl rfl (asg (v := Str []) rfl) ?_
 refine nl ?_
 refine nN ?_
 refine sq ?_
 refine sq ?_
 refine rg ?_
 refine q trivial rfl rfl (mv (v := I n) rfl) ?_
 refine q trivial rfl rfl (lss (k := .i64) (a := n) (b := (-9223372036854775807)) rfl rfl) ?_
 refine nl ?_
 refine nN ?_
 refine cdd (p := n < (-9223372036854775807)) rfl (fun h1 => absurd h1 (by omega)) (fun h1 => ?_)
 refine sk ?_
 refine nN ?_
 refine sq ?_
 refine sq ?_
 refine rg ?_
 refine q trivial rfl rfl (mv (v := I n) rfl) ?_
 refine q trivial rfl rfl (lss (k := .i64) (a := n) (b := 0) rfl rfl) ?_
 refine nl ?_
 refine nN ?_
 refine cdd (p := n < 0) rfl (fun h2 => absurd h2 (by omega)) (fun h2 => ?_)
 refine sk ?_
 refine nN ?_
 refine sq ?_
 refine sq ?_
 refine rg ?_
 refine q trivial rfl rfl (mv (v := I n) rfl) ?_
 refine q trivial rfl rfl (lss (k := .i64) (a := n) (b := 10) rfl rfl) ?_
 refine nl ?_
 refine nN ?_
 refine cdd (p := n < 10) rfl (fun h3 => ?_) (fun h3 => ?_)
 · refine sq ?_
   refine rg ?_
   refine q trivial rfl rfl (mv (v := I n) rfl) ?_
   refine q trivial rfl rfl (add (a := 48) (b := n) rfl rfl (by first | (exact ⟨by omega, by omega⟩) | (have hdl := Lib.itoa_length_le (n / 10) (by omega) (by omega); exact ⟨by omega, by omega⟩))) ?_
   refine q trivial rfl rfl (cvB (a := 48 + n) (s := .i64) ti3 ti5 rfl (by first | (omega) | (have hdl := Lib.itoa_length_le (n / 10) (by omega) (by omega); omega)) (by first | (omega) | (have hdl := Lib.itoa_length_le (n / 10) (by omega) (by omega); omega))) ?_
   refine bsk hs0 sl31 [.int .u8 (((UInt8.ofNat (48 + n).toNat).toNat : Nat) : Int)] [.int .u8 (((UInt8.ofNat (48 + n).toNat).toNat : Nat) : Int)] trivial rfl (fun b1 w1 (hs1 : SH w w1 [] [.own (some ⟨b1, 0, none⟩) (([(UInt8.ofNat (48 + n).toNat)] : List UInt8).length) 1 5 1 (([(UInt8.ofNat (48 + n).toNat)] : List UInt8).map U)]) => ?_)
   refine q trivial rfl rfl (cvS (l := ([(UInt8.ofNat (48 + n).toNat)] : List UInt8)) us31 ti5 st9 rfl (hs1.sl0 0 rfl)) ?_
   refine q trivial rfl rfl (asg (v := Str ([(UInt8.ofNat (48 + n).toNat)] : List UInt8)) rfl) ?_
   refine nl ?_
   refine nN ?_
   refine rt (tR ?_)
   refine fret (v := Str ([(UInt8.ofNat (48 + n).toNat)] : List UInt8)) (.tmp .nil) rfl ?_
   have e1 : ([(UInt8.ofNat (48 + n).toNat)] : List UInt8) = Lib.itoa n := by first | exact decDigits_small (by omega) (by omega) | exact decDigits_big (by omega)
   exact ⟨(congrArg (Str) e1), (hs1.pick [] rfl (by decide))⟩
 · refine sk ?_
   refine nN ?_
   refine sq ?_
   refine raJ (fun w' => ∃ L, SH w w' [] L ∧ True) (fun f w' => ∃ (b7' : Nat), Has f [(2, Str ((Lib.itoa (n / 10)) ++ ([(UInt8.ofNat (48 + (n % 10)).toNat)] : List UInt8)))] ∧ SH w w' [] [.own (some ⟨b7', 0, none⟩) (([(UInt8.ofNat (48 + (n % 10)).toNat)] : List UInt8).length) 1 5 1 (([(UInt8.ofNat (48 + (n % 10)).toNat)] : List UInt8).map U)]) mixed ?_ ?_
   · refine dag (fuel' := 3) (listed' := lbits 11 255) (fun f w' => ∃ (b7' : Nat), Has f [(2, Str []), (20, Str (Lib.itoa (n / 10))), (25, sb b7' (([(UInt8.ofNat (48 + (n % 10)).toNat)] : List UInt8).length) 1)] ∧ SH w w' [] [.own (some ⟨b7', 0, none⟩) (([(UInt8.ofNat (48 + (n % 10)).toNat)] : List UInt8).length) 1 5 1 (([(UInt8.ofNat (48 + (n % 10)).toNat)] : List UInt8).map U)]) ?_ (fun D_7_0 => ?_)
     · rintro f w2 ⟨b7', hf, hs2⟩
       obtain ⟨g1, rfl⟩ := has_upd hf
       clear hf
       refine aaL [8] (fa_one ?_)
       refine one_ rfl ?_
       refine q trivial rfl rfl (cvS (l := ([(UInt8.ofNat (48 + (n % 10)).toNat)] : List UInt8)) us31 ti5 st9 rfl (hs2.sl0 0 rfl)) ?_
       refine nl (kq ⟨_, hs2, trivial⟩ ?_)
       refine tk (fuel := 0) (is := [9, 10]) (.cons rfl (.cons rfl (.nil))) (by kernel_rfl) (by kernel_rfl) ⟨_, hs2, trivial⟩ ?_
       refine .op trivial rfl rfl (fun wq _ => cat (l := Lib.itoa (n / 10)) (m := ([(UInt8.ofNat (48 + (n % 10)).toNat)] : List UInt8)) rfl rfl (by first | (first | omega | (simp; done) | (simp; omega)) | (have hdl := Lib.itoa_length_le (n / 10) (by omega) (by omega); first | omega | (simp; done) | (simp; omega)))) ?_
       refine .op trivial rfl rfl (fun wq _ => asg (v := Str ((Lib.itoa (n / 10)) ++ ([(UInt8.ofNat (48 + (n % 10)).toNat)] : List UInt8))) rfl) ?_
       refine .nil ?_
       refine ad (by kernel_rfl) ?_
       exact ⟨b7', ⟨rfl, trivial⟩, hs2⟩
     refine dag (fuel' := 3) (listed' := lbits 11 507) (fun f w' => ∃ (b7' : Nat), Has f [(2, Str []), (19, I (n / 10)), (26, Str ([(UInt8.ofNat (48 + (n % 10)).toNat)] : List UInt8))] ∧ SH w w' [] [.own (some ⟨b7', 0, none⟩) (([(UInt8.ofNat (48 + (n % 10)).toNat)] : List UInt8).length) 1 5 1 (([(UInt8.ofNat (48 + (n % 10)).toNat)] : List UInt8).map U)]) ?_ (fun D_7_1 => ?_)
     · rintro f w3 ⟨b7', hf, hs3⟩
       obtain ⟨g2, rfl⟩ := has_upd hf
       clear hf
       refine aaL [2] (fa_one ?_)
       refine one_ rfl ?_
       refine cl trivial rfl (ih (n / 10) _ (by first | (omega) | (have hdl := Lib.itoa_length_le (n / 10) (by omega) (by omega); omega)) (by first | (omega) | (have hdl := Lib.itoa_length_le (n / 10) (by omega) (by omega); omega))) ?_
       rintro _ w4 ⟨rfl, hs4'⟩
       have hs4 := hs3.call0 hs4'
       clear hs4'
       refine nl (kq ⟨_, hs4, trivial⟩ ?_)
       refine tk (fuel := 0) (is := [9, 10]) (.cons rfl (.cons rfl (.nil))) (by kernel_rfl) (by kernel_rfl) ⟨_, hs4, trivial⟩ ?_
       refine .op trivial rfl rfl (fun wq _ => cat (l := Lib.itoa (n / 10)) (m := ([(UInt8.ofNat (48 + (n % 10)).toNat)] : List UInt8)) rfl rfl (by first | (first | omega | (simp; done) | (simp; omega)) | (have hdl := Lib.itoa_length_le (n / 10) (by omega) (by omega); first | omega | (simp; done) | (simp; omega)))) ?_
       refine .op trivial rfl rfl (fun wq _ => asg (v := Str ((Lib.itoa (n / 10)) ++ ([(UInt8.ofNat (48 + (n % 10)).toNat)] : List UInt8))) rfl) ?_
       refine .nil ?_
       refine ad (by kernel_rfl) ?_
       exact ⟨b7', ⟨rfl, trivial⟩, hs4⟩
     refine dag (fuel' := 4) (listed' := lbits 11 127) (fun f w' => Has f [(2, Str []), (20, Str (Lib.itoa (n / 10))), (24, .int .u8 (((UInt8.ofNat (48 + (n % 10)).toNat).toNat : Nat) : Int))] ∧ SH w w' [] []) ?_ (fun D_7_2 => ?_)
     · rintro f w5 ⟨hf, hs5⟩
       obtain ⟨g3, rfl⟩ := has_upd hf
       clear hf
       refine aaL [7] (fa_one ?_)
       refine one_ rfl ?_
       refine bsk hs5 sl31 [.int .u8 (((UInt8.ofNat (48 + (n % 10)).toNat).toNat : Nat) : Int)] [.int .u8 (((UInt8.ofNat (48 + (n % 10)).toNat).toNat : Nat) : Int)] trivial rfl (fun b7' w6 hs6 => ?_)
       exact nl (kq ⟨_, hs6, trivial⟩ (alc D_7_0 ⟨b7', ⟨rfl, rfl, rfl, trivial⟩, hs6⟩))
     refine dag (fuel' := 4) (listed' := lbits 11 251) (fun f w' => ∃ (b7' : Nat), Has f [(2, Str []), (19, I (n / 10)), (25, sb b7' (([(UInt8.ofNat (48 + (n % 10)).toNat)] : List UInt8).length) 1)] ∧ SH w w' [] [.own (some ⟨b7', 0, none⟩) (([(UInt8.ofNat (48 + (n % 10)).toNat)] : List UInt8).length) 1 5 1 (([(UInt8.ofNat (48 + (n % 10)).toNat)] : List UInt8).map U)]) ?_ (fun D_7_3 => ?_)
     · rintro f w7 ⟨b7', hf, hs7⟩
       obtain ⟨g4, rfl⟩ := has_upd hf
       clear hf
       refine aaL [2, 8] (fa_cons ?_ (fa_one ?_))
       · refine one_ rfl ?_
         refine cl trivial rfl (ih (n / 10) _ (by first | (omega) | (have hdl := Lib.itoa_length_le (n / 10) (by omega) (by omega); omega)) (by first | (omega) | (have hdl := Lib.itoa_length_le (n / 10) (by omega) (by omega); omega))) ?_
         rintro _ w8 ⟨rfl, hs8'⟩
         have hs8 := hs7.call0 hs8'
         clear hs8'
         exact nl (kq ⟨_, hs8, trivial⟩ (alc D_7_0 ⟨b7', ⟨rfl, rfl, rfl, trivial⟩, hs8⟩))
       · refine one_ rfl ?_
         refine q trivial rfl rfl (cvS (l := ([(UInt8.ofNat (48 + (n % 10)).toNat)] : List UInt8)) us31 ti5 st9 rfl (hs7.sl0 0 rfl)) ?_
         exact nl (kq ⟨_, hs7, trivial⟩ (alc D_7_1 ⟨b7', ⟨rfl, rfl, rfl, trivial⟩, hs7⟩))
     refine dag (fuel' := 5) (listed' := lbits 11 123) (fun f w' => Has f [(2, Str []), (19, I (n / 10)), (24, .int .u8 (((UInt8.ofNat (48 + (n % 10)).toNat).toNat : Nat) : Int))] ∧ SH w w' [] []) ?_ (fun D_7_4 => ?_)
     · rintro f w9 ⟨hf, hs9⟩
       obtain ⟨g5, rfl⟩ := has_upd hf
       clear hf
       refine aaL [2, 7] (fa_cons ?_ (fa_one ?_))
       · refine one_ rfl ?_
         refine cl trivial rfl (ih (n / 10) _ (by first | (omega) | (have hdl := Lib.itoa_length_le (n / 10) (by omega) (by omega); omega)) (by first | (omega) | (have hdl := Lib.itoa_length_le (n / 10) (by omega) (by omega); omega))) ?_
         rintro _ w10 ⟨rfl, hs10'⟩
         have hs10 := hs9.call0 hs10'
         clear hs10'
         exact nl (kq ⟨_, hs10, trivial⟩ (alc D_7_2 ⟨⟨rfl, rfl, rfl, trivial⟩, hs10⟩))
       · refine one_ rfl ?_
         refine bsk hs9 sl31 [.int .u8 (((UInt8.ofNat (48 + (n % 10)).toNat).toNat : Nat) : Int)] [.int .u8 (((UInt8.ofNat (48 + (n % 10)).toNat).toNat : Nat) : Int)] trivial rfl (fun b7' w11 hs11 => ?_)
         exact nl (kq ⟨_, hs11, trivial⟩ (alc D_7_3 ⟨b7', ⟨rfl, rfl, rfl, trivial⟩, hs11⟩))
     have hs12 := hs0.drew
     refine tk (fuel := 5) (is := [0, 1, 3, 4, 5, 6]) (.cons rfl (.cons rfl (.cons rfl (.cons rfl (.cons rfl (.cons rfl (.nil))))))) (by kernel_rfl) (by kernel_rfl) ⟨_, hs12, trivial⟩ ?_
     refine .op trivial rfl rfl (fun wq _ => mv (v := I n) rfl) ?_
     refine .op trivial rfl rfl (fun wq _ => quo (a := n) (b := 10) rfl rfl (by first | (omega) | (have hdl := Lib.itoa_length_le (n / 10) (by omega) (by omega); omega)) (by first | (omega) | (have hdl := Lib.itoa_length_le (n / 10) (by omega) (by omega); omega)) (by first | (omega) | (have hdl := Lib.itoa_length_le (n / 10) (by omega) (by omega); omega))) ?_
     refine .op trivial rfl rfl (fun wq _ => mv (v := I n) rfl) ?_
     refine .op trivial rfl rfl (fun wq _ => rem (a := n) (b := 10) rfl rfl (by first | (omega) | (have hdl := Lib.itoa_length_le (n / 10) (by omega) (by omega); omega)) (by first | (omega) | (have hdl := Lib.itoa_length_le (n / 10) (by omega) (by omega); omega))) ?_
     refine .op trivial rfl rfl (fun wq _ => add (a := 48) (b := n % 10) rfl rfl (by first | (exact ⟨by omega, by omega⟩) | (have hdl := Lib.itoa_length_le (n / 10) (by omega) (by omega); exact ⟨by omega, by omega⟩))) ?_
     refine .op trivial rfl rfl (fun wq _ => cvB (a := 48 + (n % 10)) (s := .i64) ti3 ti5 rfl (by first | (omega) | (have hdl := Lib.itoa_length_le (n / 10) (by omega) (by omega); omega)) (by first | (omega) | (have hdl := Lib.itoa_length_le (n / 10) (by omega) (by omega); omega))) ?_
     refine .nil ?_
     exact alc D_7_4 ⟨⟨rfl, rfl, rfl, trivial⟩, hs12⟩
   rintro f w12 ⟨b7', hf, hs13⟩
   obtain ⟨g6, rfl⟩ := has_upd hf
   clear hf
   refine nN ?_
   refine rt ?_
   refine fret (v := Str ((Lib.itoa (n / 10)) ++ ([(UInt8.ofNat (48 + (n % 10)).toNat)] : List UInt8))) (.tmp .nil) rfl ?_
   have e2 : (Lib.itoa (n / 10)) ++ ([(UInt8.ofNat (48 + (n % 10)).toNat)] : List UInt8) = Lib.itoa n := by first | exact decDigits_small (by omega) (by omega) | exact decDigits_big (by omega)
   exact ⟨(congrArg (Str) e2), (hs13.pick [] rfl (by decide))⟩

theorem l6Dec (n : Int) (w : World) (hn : 0 ≤ n ∧ n ≤ 9223372036854775807) : Does Try.prog 72 [I n] w (fun v w' => v = Str (Lib.itoa n) ∧ SH w w' [] []) := by
  have key : ∀ (j : Nat) (n : Int) (w : World), n.toNat = j → 0 ≤ n → n ≤ 9223372036854775807 → Does Try.prog 72 [I n] w (fun v w' => v = Str (Lib.itoa n) ∧ SH w w' [] []) := by
    intro j
    induction j using Nat.strongRecOn with
    | _ j ih =>
      intro n w hj h0 h1
      exact l6DecStep n w ⟨h0, h1⟩ (fun m w hm0 hmn => ih m.toNat (by omega) m w rfl hm0 (by omega))
  exact key _ n w rfl hn.1 hn.2

theorem sL2Quad {Aqs : Option Addr} {cqs : Nat} (qs : List Int) (w : World) (hqs : Sl w [] 1 Aqs qs.length cqs (qs.map I)) (hq : quadOk qs = true) : Does Try.prog 73 [.slice Aqs qs.length cqs] w (fun v w' => v = Str (quadT qs) ∧ SH w w' [] []) := by
 refine fn_enter (N := 25) Try.func73 rfl (by kernel_rfl) rfl rfl rfl ?_
 have hs0 : SH w w [] [] := SH.refl w []
 have hqs_m : qs.length ≤ 9223372036854775807 := Nat.le_trans hqs.cap hqs.capMax
 refine sq ?_
 refine rg ?_
 refine q trivial rfl rfl (asg (v := Str []) rfl) ?_
 refine nl ?_
 refine nN ?_
 refine sq ?_
 refine rq (fun w' => SH w w' [] []) mixed (by kernel_rfl) hs0.drew ?_
 refine qq trivial rfl rfl (fun wq hsq => mv (v := .slice Aqs qs.length cqs) rfl) ?_
 refine ixq1 0 sl24 rfl rfl hqs (by first | (first | omega | (simp; done) | (simp; omega)) | (have hq4 := quadOk_len hq; have g0 := itoa_b (quad_get hq (k := 0) (by omega)); have g1 := itoa_b (quad_get hq (k := 1) (by omega)); have g2 := itoa_b (quad_get hq (k := 2) (by omega)); have g3 := itoa_b (quad_get hq (k := 3) (by omega)); first | omega | (simp; done) | (simp; omega))) (getm I 0 (by first | (first | omega | (simp; done) | (simp; omega)) | (have hq4 := quadOk_len hq; have g0 := itoa_b (quad_get hq (k := 0) (by omega)); have g1 := itoa_b (quad_get hq (k := 1) (by omega)); have g2 := itoa_b (quad_get hq (k := 2) (by omega)); have g3 := itoa_b (quad_get hq (k := 3) (by omega)); first | omega | (simp; done) | (simp; omega)))) trivial rfl (fun a1 ha1 => ?_)
 refine qq trivial rfl rfl (fun wq hsq => lda (v := I (qs.getD 0 0)) hsq ha1 (fun _ h => h) rfl rfl one3) ?_
 refine qc (Str (Lib.itoa (qs.getD 0 0))) trivial rfl (fun wq hsq => (l6Dec (n := qs.getD 0 0) (w := _) (hn := (by have hq4 := quadOk_len hq; have g0 := quad_get hq (k := 0) (by omega); have g1 := quad_get hq (k := 1) (by omega); have g2 := quad_get hq (k := 2) (by omega); have g3 := quad_get hq (k := 3) (by omega); omega))).mono (fun v w' h => ⟨h.1, by simpa using hsq.call0 h.2⟩)) ?_
 refine qq trivial rfl rfl (fun wq hsq => cat (l := Lib.itoa (qs.getD 0 0)) (m := [46]) rfl rfl (by have hq4 := quadOk_len hq; have g0 := itoa_b (quad_get hq (k := 0) (by omega)); have g1 := itoa_b (quad_get hq (k := 1) (by omega)); have g2 := itoa_b (quad_get hq (k := 2) (by omega)); have g3 := itoa_b (quad_get hq (k := 3) (by omega)); simp only [List.length_append, List.length_cons, List.length_nil]; omega)) ?_
 refine qq trivial rfl rfl (fun wq hsq => mv (v := .slice Aqs qs.length cqs) rfl) ?_
 refine ixq1 1 sl24 rfl rfl hqs (by first | (first | omega | (simp; done) | (simp; omega)) | (have hq4 := quadOk_len hq; have g0 := itoa_b (quad_get hq (k := 0) (by omega)); have g1 := itoa_b (quad_get hq (k := 1) (by omega)); have g2 := itoa_b (quad_get hq (k := 2) (by omega)); have g3 := itoa_b (quad_get hq (k := 3) (by omega)); first | omega | (simp; done) | (simp; omega))) (getm I 0 (by first | (first | omega | (simp; done) | (simp; omega)) | (have hq4 := quadOk_len hq; have g0 := itoa_b (quad_get hq (k := 0) (by omega)); have g1 := itoa_b (quad_get hq (k := 1) (by omega)); have g2 := itoa_b (quad_get hq (k := 2) (by omega)); have g3 := itoa_b (quad_get hq (k := 3) (by omega)); first | omega | (simp; done) | (simp; omega)))) trivial rfl (fun a2 ha2 => ?_)
 refine qq trivial rfl rfl (fun wq hsq => lda (v := I (qs.getD 1 0)) hsq ha2 (fun _ h => h) rfl rfl one3) ?_
 refine qc (Str (Lib.itoa (qs.getD 1 0))) trivial rfl (fun wq hsq => (l6Dec (n := qs.getD 1 0) (w := _) (hn := (by have hq4 := quadOk_len hq; have g0 := quad_get hq (k := 0) (by omega); have g1 := quad_get hq (k := 1) (by omega); have g2 := quad_get hq (k := 2) (by omega); have g3 := quad_get hq (k := 3) (by omega); omega))).mono (fun v w' h => ⟨h.1, by simpa using hsq.call0 h.2⟩)) ?_
 refine qq trivial rfl rfl (fun wq hsq => cat (l := (Lib.itoa (qs.getD 0 0)) ++ [46]) (m := Lib.itoa (qs.getD 1 0)) rfl rfl (by have hq4 := quadOk_len hq; have g0 := itoa_b (quad_get hq (k := 0) (by omega)); have g1 := itoa_b (quad_get hq (k := 1) (by omega)); have g2 := itoa_b (quad_get hq (k := 2) (by omega)); have g3 := itoa_b (quad_get hq (k := 3) (by omega)); simp only [List.length_append, List.length_cons, List.length_nil]; omega)) ?_
 refine qq trivial rfl rfl (fun wq hsq => cat (l := ((Lib.itoa (qs.getD 0 0)) ++ [46]) ++ (Lib.itoa (qs.getD 1 0))) (m := [46]) rfl rfl (by have hq4 := quadOk_len hq; have g0 := itoa_b (quad_get hq (k := 0) (by omega)); have g1 := itoa_b (quad_get hq (k := 1) (by omega)); have g2 := itoa_b (quad_get hq (k := 2) (by omega)); have g3 := itoa_b (quad_get hq (k := 3) (by omega)); simp only [List.length_append, List.length_cons, List.length_nil]; omega)) ?_
 refine qq trivial rfl rfl (fun wq hsq => mv (v := .slice Aqs qs.length cqs) rfl) ?_
 refine ixq1 2 sl24 rfl rfl hqs (by first | (first | omega | (simp; done) | (simp; omega)) | (have hq4 := quadOk_len hq; have g0 := itoa_b (quad_get hq (k := 0) (by omega)); have g1 := itoa_b (quad_get hq (k := 1) (by omega)); have g2 := itoa_b (quad_get hq (k := 2) (by omega)); have g3 := itoa_b (quad_get hq (k := 3) (by omega)); first | omega | (simp; done) | (simp; omega))) (getm I 0 (by first | (first | omega | (simp; done) | (simp; omega)) | (have hq4 := quadOk_len hq; have g0 := itoa_b (quad_get hq (k := 0) (by omega)); have g1 := itoa_b (quad_get hq (k := 1) (by omega)); have g2 := itoa_b (quad_get hq (k := 2) (by omega)); have g3 := itoa_b (quad_get hq (k := 3) (by omega)); first | omega | (simp; done) | (simp; omega)))) trivial rfl (fun a3 ha3 => ?_)
 refine qq trivial rfl rfl (fun wq hsq => lda (v := I (qs.getD 2 0)) hsq ha3 (fun _ h => h) rfl rfl one3) ?_
 refine qc (Str (Lib.itoa (qs.getD 2 0))) trivial rfl (fun wq hsq => (l6Dec (n := qs.getD 2 0) (w := _) (hn := (by have hq4 := quadOk_len hq; have g0 := quad_get hq (k := 0) (by omega); have g1 := quad_get hq (k := 1) (by omega); have g2 := quad_get hq (k := 2) (by omega); have g3 := quad_get hq (k := 3) (by omega); omega))).mono (fun v w' h => ⟨h.1, by simpa using hsq.call0 h.2⟩)) ?_
 refine qq trivial rfl rfl (fun wq hsq => cat (l := (((Lib.itoa (qs.getD 0 0)) ++ [46]) ++ (Lib.itoa (qs.getD 1 0))) ++ [46]) (m := Lib.itoa (qs.getD 2 0)) rfl rfl (by have hq4 := quadOk_len hq; have g0 := itoa_b (quad_get hq (k := 0) (by omega)); have g1 := itoa_b (quad_get hq (k := 1) (by omega)); have g2 := itoa_b (quad_get hq (k := 2) (by omega)); have g3 := itoa_b (quad_get hq (k := 3) (by omega)); simp only [List.length_append, List.length_cons, List.length_nil]; omega)) ?_
 refine qq trivial rfl rfl (fun wq hsq => cat (l := ((((Lib.itoa (qs.getD 0 0)) ++ [46]) ++ (Lib.itoa (qs.getD 1 0))) ++ [46]) ++ (Lib.itoa (qs.getD 2 0))) (m := [46]) rfl rfl (by have hq4 := quadOk_len hq; have g0 := itoa_b (quad_get hq (k := 0) (by omega)); have g1 := itoa_b (quad_get hq (k := 1) (by omega)); have g2 := itoa_b (quad_get hq (k := 2) (by omega)); have g3 := itoa_b (quad_get hq (k := 3) (by omega)); simp only [List.length_append, List.length_cons, List.length_nil]; omega)) ?_
 refine qq trivial rfl rfl (fun wq hsq => mv (v := .slice Aqs qs.length cqs) rfl) ?_
 refine ixq1 3 sl24 rfl rfl hqs (by first | (first | omega | (simp; done) | (simp; omega)) | (have hq4 := quadOk_len hq; have g0 := itoa_b (quad_get hq (k := 0) (by omega)); have g1 := itoa_b (quad_get hq (k := 1) (by omega)); have g2 := itoa_b (quad_get hq (k := 2) (by omega)); have g3 := itoa_b (quad_get hq (k := 3) (by omega)); first | omega | (simp; done) | (simp; omega))) (getm I 0 (by first | (first | omega | (simp; done) | (simp; omega)) | (have hq4 := quadOk_len hq; have g0 := itoa_b (quad_get hq (k := 0) (by omega)); have g1 := itoa_b (quad_get hq (k := 1) (by omega)); have g2 := itoa_b (quad_get hq (k := 2) (by omega)); have g3 := itoa_b (quad_get hq (k := 3) (by omega)); first | omega | (simp; done) | (simp; omega)))) trivial rfl (fun a4 ha4 => ?_)
 refine qq trivial rfl rfl (fun wq hsq => lda (v := I (qs.getD 3 0)) hsq ha4 (fun _ h => h) rfl rfl one3) ?_
 refine qc (Str (Lib.itoa (qs.getD 3 0))) trivial rfl (fun wq hsq => (l6Dec (n := qs.getD 3 0) (w := _) (hn := (by have hq4 := quadOk_len hq; have g0 := quad_get hq (k := 0) (by omega); have g1 := quad_get hq (k := 1) (by omega); have g2 := quad_get hq (k := 2) (by omega); have g3 := quad_get hq (k := 3) (by omega); omega))).mono (fun v w' h => ⟨h.1, by simpa using hsq.call0 h.2⟩)) ?_
 refine qq trivial rfl rfl (fun wq hsq => cat (l := (((((Lib.itoa (qs.getD 0 0)) ++ [46]) ++ (Lib.itoa (qs.getD 1 0))) ++ [46]) ++ (Lib.itoa (qs.getD 2 0))) ++ [46]) (m := Lib.itoa (qs.getD 3 0)) rfl rfl (by have hq4 := quadOk_len hq; have g0 := itoa_b (quad_get hq (k := 0) (by omega)); have g1 := itoa_b (quad_get hq (k := 1) (by omega)); have g2 := itoa_b (quad_get hq (k := 2) (by omega)); have g3 := itoa_b (quad_get hq (k := 3) (by omega)); simp only [List.length_append, List.length_cons, List.length_nil]; omega)) ?_
 refine qq trivial rfl rfl (fun wq hsq => asg (v := Str (((((((Lib.itoa (qs.getD 0 0)) ++ [46]) ++ (Lib.itoa (qs.getD 1 0))) ++ [46]) ++ (Lib.itoa (qs.getD 2 0))) ++ [46]) ++ (Lib.itoa (qs.getD 3 0)))) rfl) ?_
 refine qn (fun w1 hs1 => ?_)
 refine nN ?_
 refine rt ?_
 refine fret (v := Str (((((((Lib.itoa (qs.getD 0 0)) ++ [46]) ++ (Lib.itoa (qs.getD 1 0))) ++ [46]) ++ (Lib.itoa (qs.getD 2 0))) ++ [46]) ++ (Lib.itoa (qs.getD 3 0)))) (.tmp .nil) rfl ?_
 have e1 : ((((((Lib.itoa (qs.getD 0 0)) ++ [46]) ++ (Lib.itoa (qs.getD 1 0))) ++ [46]) ++ (Lib.itoa (qs.getD 2 0))) ++ [46]) ++ (Lib.itoa (qs.getD 3 0)) = quadT qs := by exact (quadT_eq (quadOk_len hq)).symm
 exact ⟨(congrArg (Str) e1), hs1⟩

theorem sL3Host (ak : Int) {Aaq : Option Addr} {caq : Nat} (aq : List Int) (an : List UInt8) (apt : Int) (w : World) (haq : Sl w [] 1 Aaq aq.length caq (aq.map I)) (han_n : an.length ≤ 1099511627776) (hok : addrOk ak aq an apt = true) : Does Try.prog 71 [.agg #[I ak, .slice Aaq aq.length caq, Str an, I apt]] w (fun v w' => v = Str (hostT ak aq an) ∧ SH w w' [] []) := by
 refine fn_enter (N := 11) Try.func71 rfl (by kernel_rfl) rfl rfl rfl ?_
 have hs0 : SH w w [] [] := SH.refl w []
 have haq_m : aq.length ≤ 9223372036854775807 := Nat.le_trans haq.cap haq.capMax
 refine sq ?_
 refine rg ?_
 refine bx (v := .agg #[I ak, .slice Aaq aq.length caq, Str an, I apt]) (cs := [I ak, .slice Aaq aq.length caq, Str an, I apt]) hs0 rfl rfl trivial rfl (fun b1 w1 (hs1 : SH w w1 [] [.blk b1 52 [I ak, .slice Aaq aq.length caq, Str an, I apt]]) => ?_)
 refine q trivial rfl rfl (asg (v := Str []) rfl) ?_
 refine nl ?_
 refine nN ?_
 refine sq ?_
 refine sq ?_
 refine rg ?_
 refine q trivial rfl rfl (fa 0 fo52_0 rfl) ?_
 refine q trivial rfl rfl (ld (v := I ak) hs1 0 rfl rfl rfl one3) ?_
 refine q trivial rfl rfl (eqi (k := .i64) (a := ak) (b := 1) rfl rfl) ?_
 refine nl ?_
 refine nN ?_
 refine cdd (p := ak = 1) rfl (fun h1 => ?_) (fun h1 => ?_)
 · refine sq ?_
   refine rg ?_
   refine q trivial rfl rfl (fa 1 fo52_1 rfl) ?_
   refine q trivial rfl rfl (ld (v := .slice Aaq aq.length caq) hs1 0 rfl rfl rfl one24) ?_
   refine cl trivial rfl (sL2Quad (Aqs := Aaq) (cqs := caq) (qs := aq) (w := _) (hqs := (haq.up0 hs1)) (hq := (by exact addr_quad hok (by assumption)))) ?_
   rintro _ w2 ⟨rfl, hs2'⟩
   have hs2 : SH w w2 [] [.blk b1 52 [I ak, .slice Aaq aq.length caq, Str an, I apt]] := hs1.call0 hs2'
   clear hs2'
   refine q trivial rfl rfl (asg (v := Str (quadT aq)) rfl) ?_
   refine nl ?_
   refine nN ?_
   refine rt (tR ?_)
   refine fret (v := Str (quadT aq)) (.tmp .nil) rfl ?_
   have e1 : quadT aq = hostT ak aq an := by simp [hostT, h1]
   exact ⟨(congrArg (Str) e1), (hs2.pick [] rfl (by decide))⟩
 · refine sk ?_
   refine nN ?_
   refine sq ?_
   refine rg ?_
   refine q trivial rfl rfl (fa 2 fo52_2 rfl) ?_
   refine q trivial rfl rfl (ld (v := Str an) hs1 0 rfl rfl rfl one9) ?_
   refine q trivial rfl rfl (asg (v := Str an) rfl) ?_
   refine nl ?_
   refine nN ?_
   refine rt ?_
   refine fret (v := Str an) (.tmp .nil) rfl ?_
   have e2 : an = hostT ak aq an := by simp [hostT, h1]
   exact ⟨(congrArg (Str) e2), (hs1.pick [] rfl (by decide))⟩

theorem slEqual {Axs : Option Addr} {cxs : Nat} (xs : List Int) {Abs : Option Addr} {cbs : Nat} (bs : List Int) (w : World) (hxs : Sl w [] 1 Axs xs.length cxs (xs.map I)) (hbs : Sl w [] 1 Abs bs.length cbs (bs.map I)) : Does Try.prog 47 [.slice Axs xs.length cxs, .slice Abs bs.length cbs] w (fun v w' => v = .bool (decide (xs = bs)) ∧ SH w w' [] []) := by
 refine fn_enter (N := 26) Try.func47 rfl (by kernel_rfl) rfl rfl rfl ?_
 have hs0 : SH w w [] [] := SH.refl w []
 have hxs_m : xs.length ≤ 9223372036854775807 := Nat.le_trans hxs.cap hxs.capMax
 have hbs_m : bs.length ≤ 9223372036854775807 := Nat.le_trans hbs.cap hbs.capMax
 refine sq ?_
 refine rg ?_
 refine q trivial rfl rfl (asg (v := .bool false) rfl) ?_
 refine nl ?_
 refine nN ?_
 refine sq ?_
 refine sq ?_
 refine rg ?_
 refine q trivial rfl rfl (mv (v := .slice Axs xs.length cxs) rfl) ?_
 refine q trivial rfl rfl (lnA (n := xs.length) sl24 rfl) ?_
 refine q trivial rfl rfl (mv (v := .slice Abs bs.length cbs) rfl) ?_
 refine q trivial rfl rfl (lnA (n := bs.length) sl24 rfl) ?_
 refine q trivial rfl rfl (nei (k := .i64) (a := ((xs.length : Nat) : Int)) (b := ((bs.length : Nat) : Int)) rfl rfl) ?_
 refine nl ?_
 refine nN ?_
 refine cdd (p := ((xs.length : Nat) : Int) ≠ ((bs.length : Nat) : Int)) rfl (fun h1 => ?_) (fun h1 => ?_)
 · refine sq ?_
   refine rg ?_
   refine q trivial rfl rfl (asg (v := .bool false) rfl) ?_
   refine nl ?_
   refine nN ?_
   refine rt (tR ?_)
   refine fret (v := .bool false) (.tmp .nil) rfl ?_
   have e1 : false = (decide (xs = bs)) := by simp; intro h; subst h; exact h1 rfl
   exact ⟨(congrArg (Value.bool) e1), hs0⟩
 · refine sk ?_
   refine nN ?_
   refine sq ?_
   refine sq ?_
   refine rg ?_
   refine q trivial rfl rfl (mv (v := .slice Axs xs.length cxs) rfl) ?_
   refine q trivial rfl rfl (lnA (n := xs.length) sl24 rfl) ?_
   refine q trivial rfl rfl (mv (v := I 0) rfl) ?_
   refine nl ?_
   refine nN ?_
   refine bl ?_
   refine lp (σ := Nat) (fun (k : Nat) f w' => Has f [(0, .slice Axs xs.length cxs), (1, .slice Abs bs.length cbs), (12, I ((xs.length : Nat) : Int)), (13, I ((k : Nat) : Int))] ∧ (xs.length = bs.length) ∧ (k ≤ xs.length) ∧ (xs.take k = bs.take k) ∧ SH w w' [] []) (fun k => xs.length - k) 0 ⟨⟨rfl, rfl, rfl, rfl, trivial⟩, (by omega), (by simp), (by simp), hs0⟩ ?_
   rintro k f w1 ⟨hf, hl, hk, ha, hs1⟩
   obtain ⟨g1, rfl⟩ := has_upd hf
   clear hf
   refine sq ?_
   refine rg ?_
   refine q trivial rfl rfl (lss (k := .i64) (a := ((k : Nat) : Int)) (b := ((xs.length : Nat) : Int)) rfl rfl) ?_
   refine nl ?_
   refine nN ?_
   refine sq ?_
   refine cdd (p := ((k : Nat) : Int) < ((xs.length : Nat) : Int)) rfl (fun h2 => ?_) (fun h2 => ?_)
   · refine sk ?_
     refine nN ?_
     refine sq ?_
     refine bl ?_
     refine sq ?_
     refine rg ?_
     refine q trivial rfl rfl (mv (v := I ((k : Nat) : Int)) rfl) ?_
     refine q trivial rfl rfl (asg (v := I ((k : Nat) : Int)) rfl) ?_
     refine nl ?_
     refine nN ?_
     refine sq ?_
     refine rq (fun w' => SH w w' [] []) mixed (by kernel_rfl) hs1.drew ?_
     refine qq trivial rfl rfl (fun wq hsq => mv (v := .slice Axs xs.length cxs) rfl) ?_
     refine qq trivial rfl rfl (fun wq hsq => mv (v := I ((k : Nat) : Int)) rfl) ?_
     refine ixq1 k sl24 rfl rfl hxs (by first | omega | (simp; done) | (simp; omega)) (getm I 0 (by first | omega | (simp; done) | (simp; omega))) trivial rfl (fun a1 ha1 => ?_)
     refine qq trivial rfl rfl (fun wq hsq => lda (v := I (xs.getD k 0)) hsq ha1 (fun _ h => h) rfl rfl one3) ?_
     refine qq trivial rfl rfl (fun wq hsq => mv (v := .slice Abs bs.length cbs) rfl) ?_
     refine qq trivial rfl rfl (fun wq hsq => mv (v := I ((k : Nat) : Int)) rfl) ?_
     refine ixq1 k sl24 rfl rfl hbs (by first | omega | (simp; done) | (simp; omega)) (getm I 0 (by first | omega | (simp; done) | (simp; omega))) trivial rfl (fun a2 ha2 => ?_)
     refine qq trivial rfl rfl (fun wq hsq => lda (v := I (bs.getD k 0)) hsq ha2 (fun _ h => h) rfl rfl one3) ?_
     refine qq trivial rfl rfl (fun wq hsq => nei (k := .i64) (a := xs.getD k 0) (b := bs.getD k 0) rfl rfl) ?_
     refine qn (fun w2 hs2 => ?_)
     refine nN ?_
     refine cdd (p := (xs.getD k 0) ≠ (bs.getD k 0)) rfl (fun h3 => ?_) (fun h3 => ?_)
     · refine sq ?_
       refine rg ?_
       refine q trivial rfl rfl (asg (v := .bool false) rfl) ?_
       refine nl ?_
       refine nN ?_
       refine rt (bR (tR (tR (bR (tR ?_)))))
       refine fret (v := .bool false) (.tmp .nil) rfl ?_
       have e2 : false = (decide (xs = bs)) := by simp; intro h; subst h; exact h3 rfl
       exact ⟨(congrArg (Value.bool) e2), hs2⟩
     · refine sk ?_
       refine bN ?_
       refine nN ?_
       refine rg ?_
       refine q trivial rfl rfl (add (a := ((k : Nat) : Int)) (b := 1) rfl rfl (by exact ⟨by omega, by omega⟩)) ?_
       refine q trivial rfl rfl (mv (v := I (((k : Nat) : Int) + 1)) rfl) ?_
       refine nl ?_
       refine nN ?_
       refine ⟨(k + 1), ⟨⟨rfl, rfl, rfl, rfl, trivial⟩, (hl), (by omega), (take_succ_eq (by omega) (by omega) ha (by simpa using h3)), hs2⟩, ?_⟩
       omega
   · refine ex (tE (tE (bE ?_)))
     refine nN ?_
     refine sq ?_
     refine rg ?_
     refine q trivial rfl rfl (asg (v := .bool true) rfl) ?_
     refine nl ?_
     refine nN ?_
     refine rt ?_
     refine fret (v := .bool true) (.tmp .nil) rfl ?_
     have e3 : true = (decide (xs = bs)) := by simp; exact take_all_eq hl (by omega) ha
     exact ⟨(congrArg (Value.bool) e3), hs1⟩


end Go.Proofs.Ytjehmnojfpedjaa
