/-
  Part of the proofs over this seat: what each function of the program computes, function by function (the text is written by a program of this hand-in's own).
  Conditions: each theorem states its own.
-/
import Derived.Test.YtgefaejgkcbkpaaProg
import Derived.KernelRfl
import Derived.Test.YtgefaejgkcbkpaaPfBase
namespace Go.Proofs.Ytgefaejgkcbkpaa
open Go.PF
set_option maxRecDepth 100000
set_option linter.unusedSimpArgs false
set_option linter.unusedVariables false
theorem ag25 : aggOk Try.prog 25 3 = true := by kernel_rfl
theorem ag29 : aggOk Try.prog 29 3 = true := by kernel_rfl
theorem fo25_0 : fieldOk Try.prog 25 0 0 = true := by kernel_rfl
theorem fo25_1 : fieldOk Try.prog 25 1 1 = true := by kernel_rfl
theorem fo25_2 : fieldOk Try.prog 25 2 2 = true := by kernel_rfl
theorem fo29_0 : fieldOk Try.prog 29 0 0 = true := by kernel_rfl
theorem fo29_1 : fieldOk Try.prog 29 1 1 = true := by kernel_rfl
theorem fo29_2 : fieldOk Try.prog 29 2 2 = true := by kernel_rfl
theorem fo60_0 : fieldOk Try.prog 60 0 0 = true := by kernel_rfl
theorem fo60_1 : fieldOk Try.prog 60 1 1 = true := by kernel_rfl
theorem mixed : Try.prog.follows .mixedOrders = true := by kernel_rfl
theorem one22 : oneOk Try.prog 22 = true := by kernel_rfl
theorem one23 : oneOk Try.prog 23 = true := by kernel_rfl
theorem one3 : oneOk Try.prog 3 = true := by kernel_rfl
theorem one4 : oneOk Try.prog 4 = true := by kernel_rfl
theorem one5 : oneOk Try.prog 5 = true := by kernel_rfl
theorem sl22 : SlT Try.prog 22 5 1 1 (.int .u8 0) := SlT.mk' (by kernel_rfl) (by kernel_rfl)
theorem sl23 : SlT Try.prog 23 3 1 8 (.int .i64 0) := SlT.mk' (by kernel_rfl) (by kernel_rfl)
theorem sl63 : SlT Try.prog 63 23 1 24 (.slice none 0 0) := SlT.mk' (by kernel_rfl) (by kernel_rfl)
theorem tb4 : Try.prog.underlying 4 = some .bool := by kernel_rfl
theorem ti3 : Try.prog.underlying 3 = some (.int .i64) := by kernel_rfl
theorem ti5 : Try.prog.underlying 5 = some (.int .u8) := by kernel_rfl
theorem tz25 : (Try.prog.info? 25).bind (·.zero) = some (.agg #[.slice none 0 0, .int .i64 0, .bool false]) := by kernel_rfl
theorem sIn (x : Int) (lo : Int) (hi : Int) (w : World)  : Does Try.prog 45 [.int .i64 x, .int .i64 lo, .int .i64 hi] w (fun v w' => v = .bool (decide (lo ≤ x ∧ x ≤ hi)) ∧ SH w w' [] []) := by
  refine fn_enter (N := 15) Try.func45 rfl (by kernel_rfl) rfl rfl rfl ?_
  have hs0 : SH w w [] [] := SH.refl w []
  refine sq ?_
  refine rg ?_
  refine q trivial rfl rfl (asg (v := .bool false) rfl) ?_
  refine nl ?_
  refine nN ?_
  refine sq ?_
  refine rg ?_
  refine q trivial rfl rfl (mv (v := .int .i64 x) rfl) ?_
  refine q trivial rfl rfl (mv (v := .int .i64 lo) rfl) ?_
  refine q trivial rfl rfl (geq (k := .i64) (a := x) (b := lo) rfl rfl) ?_
  refine q trivial rfl rfl (mv (v := .bool (decide (lo ≤ x))) rfl) ?_
  refine spd (p := lo ≤ x) 10 rfl (fun h1 => ?_) (fun h1 => ?_)
  · refine q ⟨_, rfl, rfl⟩ rfl rfl (mv (v := .int .i64 x) rfl) ?_
    refine q ⟨_, rfl, rfl⟩ rfl rfl (mv (v := .int .i64 hi) rfl) ?_
    refine q ⟨_, rfl, rfl⟩ rfl rfl (leq (k := .i64) (a := x) (b := hi) rfl rfl) ?_
    refine q trivial rfl rfl (pt (v := .bool (decide (x ≤ hi))) rfl rfl) ?_
    refine q trivial rfl rfl (asg (v := .bool (decide (x ≤ hi))) rfl) ?_
    refine nl ?_
    refine nN ?_
    refine rt ?_
    refine fret (v := .bool (decide (x ≤ hi))) (.tmp .nil) rfl ?_
    have e1 : (decide (x ≤ hi)) = (decide (lo ≤ x ∧ x ≤ hi)) := by simp [*]
    exact ⟨(congrArg (Value.bool) e1), hs0⟩
  · refine gk false rfl rfl rfl rfl rfl ?_
    refine gk false rfl rfl rfl rfl rfl ?_
    refine gk false rfl rfl rfl rfl rfl ?_
    refine q trivial rfl rfl (pf (v := .bool false) rfl rfl) ?_
    refine q trivial rfl rfl (asg (v := .bool false) rfl) ?_
    refine nl ?_
    refine nN ?_
    refine rt ?_
    refine fret (v := .bool false) (.tmp .nil) rfl ?_
    have e2 : false = (decide (lo ≤ x ∧ x ≤ hi)) := by simp [*]
    exact ⟨(congrArg (Value.bool) e2), hs0⟩

theorem iWithin (x : Int) (lo : Int) (hi : Int) (w : World)  : Does Try.prog 43 [.int .i64 x, .int .i64 lo, .int .i64 hi] w (fun v w' => v = .bool (decide (lo ≤ x ∧ x ≤ hi)) ∧ SH w w' [] []) := by
  refine fn_enter (N := 15) Try.func43 rfl (by kernel_rfl) rfl rfl rfl ?_
  have hs0 : SH w w [] [] := SH.refl w []
  refine sq ?_
  refine rg ?_
  refine q trivial rfl rfl (asg (v := .bool false) rfl) ?_
  refine nl ?_
  refine nN ?_
  refine sq ?_
  refine rg ?_
  refine q trivial rfl rfl (mv (v := .int .i64 x) rfl) ?_
  refine q trivial rfl rfl (mv (v := .int .i64 lo) rfl) ?_
  refine q trivial rfl rfl (geq (k := .i64) (a := x) (b := lo) rfl rfl) ?_
  refine q trivial rfl rfl (mv (v := .bool (decide (lo ≤ x))) rfl) ?_
  refine spd (p := lo ≤ x) 10 rfl (fun h1 => ?_) (fun h1 => ?_)
  · refine q ⟨_, rfl, rfl⟩ rfl rfl (mv (v := .int .i64 x) rfl) ?_
    refine q ⟨_, rfl, rfl⟩ rfl rfl (mv (v := .int .i64 hi) rfl) ?_
    refine q ⟨_, rfl, rfl⟩ rfl rfl (leq (k := .i64) (a := x) (b := hi) rfl rfl) ?_
    refine q trivial rfl rfl (pt (v := .bool (decide (x ≤ hi))) rfl rfl) ?_
    refine q trivial rfl rfl (asg (v := .bool (decide (x ≤ hi))) rfl) ?_
    refine nl ?_
    refine nN ?_
    refine rt ?_
    refine fret (v := .bool (decide (x ≤ hi))) (.tmp .nil) rfl ?_
    have e1 : (decide (x ≤ hi)) = (decide (lo ≤ x ∧ x ≤ hi)) := by simp [*]
    exact ⟨(congrArg (Value.bool) e1), hs0⟩
  · refine gk false rfl rfl rfl rfl rfl ?_
    refine gk false rfl rfl rfl rfl rfl ?_
    refine gk false rfl rfl rfl rfl rfl ?_
    refine q trivial rfl rfl (pf (v := .bool false) rfl rfl) ?_
    refine q trivial rfl rfl (asg (v := .bool false) rfl) ?_
    refine nl ?_
    refine nN ?_
    refine rt ?_
    refine fret (v := .bool false) (.tmp .nil) rfl ?_
    have e2 : false = (decide (lo ≤ x ∧ x ≤ hi)) := by simp [*]
    exact ⟨(congrArg (Value.bool) e2), hs0⟩

theorem iBV1 (x : Int) (w : World)  : Does Try.prog 52 [.int .i64 x] w (fun v w' => v = .bool (decide (¬ (0 ≤ x ∧ x ≤ 255))) ∧ SH w w' [] []) := by
  refine fn_enter (N := 6) Try.func52 rfl (by kernel_rfl) rfl rfl rfl ?_
  have hs0 : SH w w [] [] := SH.refl w []
  refine sq ?_
  refine rg ?_
  refine q trivial rfl rfl (asg (v := .bool false) rfl) ?_
  refine nl ?_
  refine nN ?_
  refine sq ?_
  refine rg ?_
  refine q trivial rfl rfl (mv (v := .int .i64 x) rfl) ?_
  refine cl trivial rfl (iWithin (x := x) (lo := 0) (hi := 255) (w := _)) ?_
  rintro _ w1 ⟨rfl, hs1'⟩
  have hs1 : SH w w1 [] [] := hs0.call0 hs1'
  clear hs1'
  refine q trivial rfl rfl (nd (p := 0 ≤ x ∧ x ≤ 255) rfl) ?_
  refine q trivial rfl rfl (asg (v := .bool (decide (¬ (0 ≤ x ∧ x ≤ 255)))) rfl) ?_
  refine nl ?_
  refine nN ?_
  refine rt ?_
  refine fret (v := .bool (decide (¬ (0 ≤ x ∧ x ≤ 255)))) (.tmp .nil) rfl ?_
  exact ⟨rfl, hs1⟩

theorem sBytesValid {Azs : Option Addr} {czs : Nat} (zs : List Int) (w : World) (hzs : Sl w [] 1 Azs zs.length czs (zs.map I)) : Does Try.prog 44 [.slice Azs zs.length czs] w (fun v w' => v = .bool (isBytes zs) ∧ SH w w' [] []) := by
  refine fn_enter (N := 19) Try.func44 rfl (by kernel_rfl) rfl rfl rfl ?_
  have hs0 : SH w w [] [] := SH.refl w []
  have hzs_m : zs.length ≤ 9223372036854775807 := Nat.le_trans hzs.cap hzs.capMax
  refine sq ?_
  refine rg ?_
  refine q trivial rfl rfl (asg (v := .bool false) rfl) ?_
  refine nl ?_
  refine nN ?_
  refine sq ?_
  refine sq ?_
  refine rg ?_
  refine q trivial rfl rfl (asg (v := .int .i64 0) rfl) ?_
  refine nl ?_
  refine nN ?_
  refine bl ?_
  refine lp (σ := Nat) (fun (k : Nat) f w' => Has f [(0, .slice Azs zs.length czs), (3, .int .i64 ((k : Nat) : Int))] ∧ (k ≤ zs.length) ∧ (allB (zs.take k) = true) ∧ SH w w' [] []) (fun k => zs.length - k) 0 ⟨⟨rfl, rfl, trivial⟩, (by simp), (by simp [allB]), hs0⟩ ?_
  rintro k f w1 ⟨hf, hk, ha, hs1⟩
  obtain ⟨g1, rfl⟩ := has_upd hf
  clear hf
  refine sq ?_
  refine sq ?_
  refine rg ?_
  refine q trivial rfl rfl (mv (v := .int .i64 ((k : Nat) : Int)) rfl) ?_
  refine q trivial rfl rfl (mv (v := .slice Azs zs.length czs) rfl) ?_
  refine q trivial rfl rfl (lnA (n := zs.length) sl23 rfl) ?_
  refine q trivial rfl rfl (lss (k := .i64) (a := ((k : Nat) : Int)) (b := ((zs.length : Nat) : Int)) rfl rfl) ?_
  refine nl ?_
  refine nN ?_
  refine cdd (p := ((k : Nat) : Int) < ((zs.length : Nat) : Int)) rfl (fun h1 => ?_) (fun h1 => ?_)
  · refine sk ?_
    refine nN ?_
    refine sq ?_
    refine bl ?_
    refine sq ?_
    refine rg ?_
    refine q trivial rfl rfl (mv (v := .slice Azs zs.length czs) rfl) ?_
    refine q trivial rfl rfl (mv (v := .int .i64 ((k : Nat) : Int)) rfl) ?_
    refine ixw1 k sl23 rfl rfl hzs (by first | omega | (simp; omega)) (getm I 0 (by first | omega | (simp; omega))) trivial rfl (fun a1 ha1 => ?_)
    refine q trivial rfl rfl (lda (v := .int .i64 (zs.getD k 0)) hs1 ha1 (fun _ h => h) rfl rfl one3) ?_
    refine cl trivial rfl (sIn (x := zs.getD k 0) (lo := 0) (hi := 255) (w := _)) ?_
    rintro _ w2 ⟨rfl, hs2'⟩
    have hs2 : SH w w2 [] [] := hs1.call0 hs2'
    clear hs2'
    refine q trivial rfl rfl (nd (p := 0 ≤ (zs.getD k 0) ∧ (zs.getD k 0) ≤ 255) rfl) ?_
    refine nl ?_
    refine nN ?_
    refine cdd (p := ¬ (0 ≤ (zs.getD k 0) ∧ (zs.getD k 0) ≤ 255)) rfl (fun h2 => ?_) (fun h2 => ?_)
    · refine sq ?_
      refine rg ?_
      refine q trivial rfl rfl (asg (v := .bool false) rfl) ?_
      refine nl ?_
      refine nN ?_
      refine rt (bR (tR (tR (bR (tR ?_)))))
      refine fret (v := .bool false) (.tmp .nil) rfl ?_
      have e1 : false = isBytes zs := by exact bytes_no1 (k := k) (by omega) (by simpa using h2)
      exact ⟨(congrArg (Value.bool) e1), hs2⟩
    · refine sk ?_
      refine bN ?_
      refine nN ?_
      refine rg ?_
      refine q trivial rfl rfl (mv (v := .int .i64 ((k : Nat) : Int)) rfl) ?_
      refine q trivial rfl rfl (add (a := ((k : Nat) : Int)) (b := 1) rfl rfl (by exact ⟨by omega, by omega⟩)) ?_
      refine q trivial rfl rfl (asg (v := .int .i64 (((k : Nat) : Int) + 1)) rfl) ?_
      refine nl ?_
      refine nN ?_
      refine ⟨(k + 1), ⟨⟨rfl, rfl, trivial⟩, (by omega), (allB_step (by omega) ha (by simpa using h2)), hs2⟩, ?_⟩
      omega
  · refine ex (tE (tE (bE ?_)))
    refine nN ?_
    refine sq ?_
    refine rg ?_
    refine q trivial rfl rfl (mv (v := .slice Azs zs.length czs) rfl) ?_
    refine q trivial rfl rfl (lnA (n := zs.length) sl23 rfl) ?_
    refine q trivial rfl rfl (leq (k := .i64) (a := ((zs.length : Nat) : Int)) (b := 120) rfl rfl) ?_
    refine q trivial rfl rfl (asg (v := .bool (decide (((zs.length : Nat) : Int) ≤ 120))) rfl) ?_
    refine nl ?_
    refine nN ?_
    refine rt ?_
    refine fret (v := .bool (decide (((zs.length : Nat) : Int) ≤ 120))) (.tmp .nil) rfl ?_
    have e2 : (decide (((zs.length : Nat) : Int) ≤ 120)) = isBytes zs := by exact bytes_yes (k := k) (by omega) ha
    exact ⟨(congrArg (Value.bool) e2), hs1⟩

theorem slIndexFunc (p : Int → Bool) {Azs : Option Addr} {czs : Nat} (zs : List Int) (kf : FuncId) (w : World) (hzs : Sl w [] 1 Azs zs.length czs (zs.map I)) (hf : ∀ (x : Int) (w : World), Does Try.prog kf [.int .i64 x] w (fun v w' => v = .bool (p x) ∧ SH w w' [] [])) : Does Try.prog 54 [.slice Azs zs.length czs, .func (.func kf) #[] #[]] w (fun v w' => v = .int .i64 (idxF p zs) ∧ SH w w' [] []) := by
  refine fn_enter (N := 19) Try.func54 rfl (by kernel_rfl) rfl rfl rfl ?_
  have hs0 : SH w w [] [] := SH.refl w []
  have hzs_m : zs.length ≤ 9223372036854775807 := Nat.le_trans hzs.cap hzs.capMax
  refine sq ?_
  refine rg ?_
  refine q trivial rfl rfl (asg (v := .int .i64 0) rfl) ?_
  refine nl ?_
  refine nN ?_
  refine sq ?_
  refine sq ?_
  refine rg ?_
  refine q trivial rfl rfl (mv (v := .slice Azs zs.length czs) rfl) ?_
  refine q trivial rfl rfl (lnA (n := zs.length) sl23 rfl) ?_
  refine q trivial rfl rfl (mv (v := .int .i64 0) rfl) ?_
  refine nl ?_
  refine nN ?_
  refine bl ?_
  refine lp (σ := Nat) (fun (k : Nat) f w' => Has f [(0, .slice Azs zs.length czs), (1, .func (.func kf) #[] #[]), (7, .int .i64 ((zs.length : Nat) : Int)), (8, .int .i64 ((k : Nat) : Int))] ∧ (k ≤ zs.length) ∧ (∀ j, j < k → p (zs.getD j 0) = false) ∧ SH w w' [] []) (fun k => zs.length - k) 0 ⟨⟨rfl, rfl, rfl, rfl, trivial⟩, (by simp), (by intro j hj; omega), hs0⟩ ?_
  rintro k f w1 ⟨hf, hk, hn, hs1⟩
  obtain ⟨g1, rfl⟩ := has_upd hf
  clear hf
  refine sq ?_
  refine rg ?_
  refine q trivial rfl rfl (lss (k := .i64) (a := ((k : Nat) : Int)) (b := ((zs.length : Nat) : Int)) rfl rfl) ?_
  refine nl ?_
  refine nN ?_
  refine sq ?_
  refine cdd (p := ((k : Nat) : Int) < ((zs.length : Nat) : Int)) rfl (fun h1 => ?_) (fun h1 => ?_)
  · refine sk ?_
    refine nN ?_
    refine sq ?_
    refine bl ?_
    refine sq ?_
    refine rg ?_
    refine q trivial rfl rfl (mv (v := .int .i64 ((k : Nat) : Int)) rfl) ?_
    refine q trivial rfl rfl (asg (v := .int .i64 ((k : Nat) : Int)) rfl) ?_
    refine nl ?_
    refine nN ?_
    refine sq ?_
    refine rg ?_
    refine q trivial rfl rfl (mv (v := .func (.func kf) #[] #[]) rfl) ?_
    refine q trivial rfl rfl (mv (v := .slice Azs zs.length czs) rfl) ?_
    refine q trivial rfl rfl (mv (v := .int .i64 ((k : Nat) : Int)) rfl) ?_
    refine ixw1 k sl23 rfl rfl hzs (by first | omega | (simp; omega)) (getm I 0 (by first | omega | (simp; omega))) trivial rfl (fun a1 ha1 => ?_)
    refine q trivial rfl rfl (lda (v := .int .i64 (zs.getD k 0)) hs1 ha1 (fun _ h => h) rfl rfl one3) ?_
    refine clv (k := kf) trivial rfl rfl (hf (zs.getD k 0) _) ?_
    rintro _ w2 ⟨rfl, hs2'⟩
    have hs2 : SH w w2 [] [] := hs1.call0 hs2'
    clear hs2'
    refine nl ?_
    refine nN ?_
    refine cd (b := p (zs.getD k 0)) rfl (fun h2 => ?_) (fun h2 => ?_)
    · refine sq ?_
      refine rg ?_
      refine q trivial rfl rfl (mv (v := .int .i64 ((k : Nat) : Int)) rfl) ?_
      refine q trivial rfl rfl (asg (v := .int .i64 ((k : Nat) : Int)) rfl) ?_
      refine nl ?_
      refine nN ?_
      refine rt (bR (tR (tR (bR (tR ?_)))))
      refine fret (v := .int .i64 ((k : Nat) : Int)) (.tmp .nil) rfl ?_
      have e1 : ((k : Nat) : Int) = idxF p zs := by exact idxF_eq (by omega) hn h2
      exact ⟨(congrArg (Value.int .i64) e1), hs2⟩
    · refine sk ?_
      refine bN ?_
      refine nN ?_
      refine rg ?_
      refine q trivial rfl rfl (add (a := ((k : Nat) : Int)) (b := 1) rfl rfl (by exact ⟨by omega, by omega⟩)) ?_
      refine q trivial rfl rfl (mv (v := .int .i64 (((k : Nat) : Int) + 1)) rfl) ?_
      refine nl ?_
      refine nN ?_
      refine ⟨(k + 1), ⟨⟨rfl, rfl, rfl, rfl, trivial⟩, (by omega), (by intro j hj; rcases Nat.lt_succ_iff_lt_or_eq.1 hj with h | h; exact hn j h; subst h; exact h2), hs2⟩, ?_⟩
      omega
  · refine ex (tE (tE (bE ?_)))
    refine nN ?_
    refine sq ?_
    refine rg ?_
    refine q trivial rfl rfl (asg (v := .int .i64 (-1)) rfl) ?_
    refine nl ?_
    refine nN ?_
    refine rt ?_
    refine fret (v := .int .i64 (-1)) (.tmp .nil) rfl ?_
    have e2 : (-1) = idxF p zs := by exact idxF_none (fun j hj => hn j (by omega))
    exact ⟨(congrArg (Value.int .i64) e2), hs1⟩

theorem slContainsFunc (p : Int → Bool) {Azs : Option Addr} {czs : Nat} (zs : List Int) (kf : FuncId) (w : World) (hzs : Sl w [] 1 Azs zs.length czs (zs.map I)) (hf : ∀ (x : Int) (w : World), Does Try.prog kf [.int .i64 x] w (fun v w' => v = .bool (p x) ∧ SH w w' [] [])) : Does Try.prog 51 [.slice Azs zs.length czs, .func (.func kf) #[] #[]] w (fun v w' => v = .bool (zs.any p) ∧ SH w w' [] []) := by
  refine fn_enter (N := 9) Try.func51 rfl (by kernel_rfl) rfl rfl rfl ?_
  have hs0 : SH w w [] [] := SH.refl w []
  have hzs_m : zs.length ≤ 9223372036854775807 := Nat.le_trans hzs.cap hzs.capMax
  refine sq ?_
  refine rg ?_
  refine q trivial rfl rfl (asg (v := .bool false) rfl) ?_
  refine nl ?_
  refine nN ?_
  refine sq ?_
  refine rg ?_
  refine q trivial rfl rfl (mv (v := .slice Azs zs.length czs) rfl) ?_
  refine q trivial rfl rfl (mv (v := .func (.func kf) #[] #[]) rfl) ?_
  refine cl trivial rfl (slIndexFunc (p := p) (Azs := Azs) (czs := czs) (zs := zs) (kf := kf) (w := _) (hzs := (hzs.up0 hs0)) (hf := hf)) ?_
  rintro _ w1 ⟨rfl, hs1'⟩
  have hs1 : SH w w1 [] [] := hs0.call0 hs1'
  clear hs1'
  refine q trivial rfl rfl (geq (k := .i64) (a := idxF p zs) (b := 0) rfl rfl) ?_
  refine q trivial rfl rfl (asg (v := .bool (decide ((0 : Int) ≤ (idxF p zs)))) rfl) ?_
  refine nl ?_
  refine nN ?_
  refine rt ?_
  refine fret (v := .bool (decide ((0 : Int) ≤ (idxF p zs)))) (.tmp .nil) rfl ?_
  have e1 : (decide ((0 : Int) ≤ (idxF p zs))) = zs.any p := by exact idxF_any p zs
  exact ⟨(congrArg (Value.bool) e1), hs1⟩

theorem iBytesValid {Azs : Option Addr} {czs : Nat} (zs : List Int) (w : World) (hzs : Sl w [] 1 Azs zs.length czs (zs.map I)) : Does Try.prog 42 [.slice Azs zs.length czs] w (fun v w' => v = .bool (isBytes zs) ∧ SH w w' [] []) := by
  refine fn_enter (N := 11) Try.func42 rfl (by kernel_rfl) rfl rfl rfl ?_
  have hs0 : SH w w [] [] := SH.refl w []
  have hzs_m : zs.length ≤ 9223372036854775807 := Nat.le_trans hzs.cap hzs.capMax
  refine sq ?_
  refine rg ?_
  refine q trivial rfl rfl (asg (v := .bool false) rfl) ?_
  refine nl ?_
  refine nN ?_
  refine sq ?_
  refine rg ?_
  refine q trivial rfl rfl (mv (v := .slice Azs zs.length czs) rfl) ?_
  refine q trivial rfl rfl (lnA (n := zs.length) sl23 rfl) ?_
  refine q trivial rfl rfl (leq (k := .i64) (a := ((zs.length : Nat) : Int)) (b := 120) rfl rfl) ?_
  refine q trivial rfl rfl (mv (v := .bool (decide (((zs.length : Nat) : Int) ≤ 120))) rfl) ?_
  refine spd (p := ((zs.length : Nat) : Int) ≤ 120) 6 rfl (fun h1 => ?_) (fun h1 => ?_)
  · refine q ⟨_, rfl, rfl⟩ rfl rfl (mv (v := .slice Azs zs.length czs) rfl) ?_
    refine cl ⟨_, rfl, rfl⟩ rfl (slContainsFunc (p := (fun x => (decide (¬ (0 ≤ x ∧ x ≤ 255))))) (Azs := Azs) (czs := czs) (zs := zs) (kf := 52) (w := _) (hzs := (hzs.up0 hs0)) (hf := (fun x w => iBV1 x w))) ?_
    rintro _ w1 ⟨rfl, hs1'⟩
    have hs1 : SH w w1 [] [] := hs0.call0 hs1'
    clear hs1'
    refine q ⟨_, rfl, rfl⟩ rfl rfl (nt (b := zs.any (fun x => (decide (¬ (0 ≤ x ∧ x ≤ 255))))) rfl) ?_
    refine q trivial rfl rfl (pt (v := .bool (!(zs.any (fun x => (decide (¬ (0 ≤ x ∧ x ≤ 255))))))) rfl rfl) ?_
    refine q trivial rfl rfl (asg (v := .bool (!(zs.any (fun x => (decide (¬ (0 ≤ x ∧ x ≤ 255))))))) rfl) ?_
    refine nl ?_
    refine nN ?_
    refine rt ?_
    refine fret (v := .bool (!(zs.any (fun x => (decide (¬ (0 ≤ x ∧ x ≤ 255))))))) (.tmp .nil) rfl ?_
    have e1 : (!(zs.any (fun x => (decide (¬ (0 ≤ x ∧ x ≤ 255)))))) = isBytes zs := by rw [← isBytes_not]; simp [*]
    exact ⟨(congrArg (Value.bool) e1), hs1⟩
  · refine gk false rfl rfl rfl rfl rfl ?_
    refine gk false rfl rfl rfl rfl rfl ?_
    refine gk false rfl rfl rfl rfl rfl ?_
    refine q trivial rfl rfl (pf (v := .bool false) rfl rfl) ?_
    refine q trivial rfl rfl (asg (v := .bool false) rfl) ?_
    refine nl ?_
    refine nN ?_
    refine rt ?_
    refine fret (v := .bool false) (.tmp .nil) rfl ?_
    have e2 : false = isBytes zs := by rw [← isBytes_not]; simp [*]
    exact ⟨(congrArg (Value.bool) e2), hs0⟩

theorem eqIntS {Axs : Option Addr} {cxs : Nat} (xs : List Int) {Abs : Option Addr} {cbs : Nat} (bs : List Int) (w : World) (hxs : Sl w [] 1 Axs xs.length cxs (xs.map I)) (hbs : Sl w [] 1 Abs bs.length cbs (bs.map I)) : Does Try.prog 31 [.slice Axs xs.length cxs, .slice Abs bs.length cbs] w (fun v w' => v = .bool (decide (xs = bs)) ∧ SH w w' [] []) := by
  refine fn_enter (N := 26) Try.func31 rfl (by kernel_rfl) rfl rfl rfl ?_
  have hs0 : SH w w [] [] := SH.refl w []
  have hxs_m : xs.length ≤ 9223372036854775807 := Nat.le_trans hxs.cap hxs.capMax
  have hbs_m : bs.length ≤ 9223372036854775807 := Nat.le_trans hbs.cap hbs.capMax
  refine sq ?_
  refine rg ?_
  refine q trivial rfl rfl (asg (v := .bool false) rfl) ?_
  refine nl ?_
  refine nN ?_
  refine sq ?_
  refine sq ?_
  refine rg ?_
  refine q trivial rfl rfl (mv (v := .slice Axs xs.length cxs) rfl) ?_
  refine q trivial rfl rfl (lnA (n := xs.length) sl23 rfl) ?_
  refine q trivial rfl rfl (mv (v := .slice Abs bs.length cbs) rfl) ?_
  refine q trivial rfl rfl (lnA (n := bs.length) sl23 rfl) ?_
  refine q trivial rfl rfl (nei (k := .i64) (a := ((xs.length : Nat) : Int)) (b := ((bs.length : Nat) : Int)) rfl rfl) ?_
  refine nl ?_
  refine nN ?_
  refine cdd (p := ((xs.length : Nat) : Int) ≠ ((bs.length : Nat) : Int)) rfl (fun h1 => ?_) (fun h1 => ?_)
  · refine sq ?_
    refine rg ?_
    refine q trivial rfl rfl (asg (v := .bool false) rfl) ?_
    refine nl ?_
    refine nN ?_
    refine rt (tR ?_)
    refine fret (v := .bool false) (.tmp .nil) rfl ?_
    have e1 : false = (decide (xs = bs)) := by simp; intro h; subst h; exact h1 rfl
    exact ⟨(congrArg (Value.bool) e1), hs0⟩
  · refine sk ?_
    refine nN ?_
    refine sq ?_
    refine sq ?_
    refine rg ?_
    refine q trivial rfl rfl (asg (v := .int .i64 0) rfl) ?_
    refine nl ?_
    refine nN ?_
    refine bl ?_
    refine lp (σ := Nat) (fun (k : Nat) f w' => Has f [(0, .slice Axs xs.length cxs), (1, .slice Abs bs.length cbs), (5, .int .i64 ((k : Nat) : Int))] ∧ (xs.length = bs.length) ∧ (k ≤ xs.length) ∧ (xs.take k = bs.take k) ∧ SH w w' [] []) (fun k => xs.length - k) 0 ⟨⟨rfl, rfl, rfl, trivial⟩, (by omega), (by simp), (by simp), hs0⟩ ?_
    rintro k f w1 ⟨hf, hl, hk, ha, hs1⟩
    obtain ⟨g1, rfl⟩ := has_upd hf
    clear hf
    refine sq ?_
    refine sq ?_
    refine rg ?_
    refine q trivial rfl rfl (mv (v := .int .i64 ((k : Nat) : Int)) rfl) ?_
    refine q trivial rfl rfl (mv (v := .slice Axs xs.length cxs) rfl) ?_
    refine q trivial rfl rfl (lnA (n := xs.length) sl23 rfl) ?_
    refine q trivial rfl rfl (lss (k := .i64) (a := ((k : Nat) : Int)) (b := ((xs.length : Nat) : Int)) rfl rfl) ?_
    refine nl ?_
    refine nN ?_
    refine cdd (p := ((k : Nat) : Int) < ((xs.length : Nat) : Int)) rfl (fun h2 => ?_) (fun h2 => ?_)
    · refine sk ?_
      refine nN ?_
      refine sq ?_
      refine bl ?_
      refine sq ?_
      refine rq (fun w' => SH w w' [] []) mixed (by kernel_rfl) hs1.drew ?_
      refine qq trivial rfl rfl (fun wq hsq => mv (v := .slice Axs xs.length cxs) rfl) ?_
      refine qq trivial rfl rfl (fun wq hsq => mv (v := .int .i64 ((k : Nat) : Int)) rfl) ?_
      refine ixq1 k sl23 rfl rfl hxs (by first | omega | (simp; omega)) (getm I 0 (by first | omega | (simp; omega))) trivial rfl (fun a1 ha1 => ?_)
      refine qq trivial rfl rfl (fun wq hsq => lda (v := .int .i64 (xs.getD k 0)) hsq ha1 (fun _ h => h) rfl rfl one3) ?_
      refine qq trivial rfl rfl (fun wq hsq => mv (v := .slice Abs bs.length cbs) rfl) ?_
      refine qq trivial rfl rfl (fun wq hsq => mv (v := .int .i64 ((k : Nat) : Int)) rfl) ?_
      refine ixq1 k sl23 rfl rfl hbs (by first | omega | (simp; omega)) (getm I 0 (by first | omega | (simp; omega))) trivial rfl (fun a2 ha2 => ?_)
      refine qq trivial rfl rfl (fun wq hsq => lda (v := .int .i64 (bs.getD k 0)) hsq ha2 (fun _ h => h) rfl rfl one3) ?_
      refine qq trivial rfl rfl (fun wq hsq => nei (k := .i64) (a := xs.getD k 0) (b := bs.getD k 0) rfl rfl) ?_
      refine qn (fun w2 hs2 => ?_)
      refine nN ?_
      refine cdd (p := (xs.getD k 0) ≠ (bs.getD k 0)) rfl (fun h3 => ?_) (fun h3 => ?_)
      · refine sq ?_
        refine rg ?_
        refine q trivial rfl rfl (asg (v := .bool false) rfl) ?_
        refine nl ?_
        refine nN ?_
        refine rt (bR (tR (tR (bR (tR ?_)))))
        refine fret (v := .bool false) (.tmp .nil) rfl ?_
        have e2 : false = (decide (xs = bs)) := by simp; intro h; subst h; exact h3 rfl
        exact ⟨(congrArg (Value.bool) e2), hs2⟩
      · refine sk ?_
        refine bN ?_
        refine nN ?_
        refine rg ?_
        refine q trivial rfl rfl (mv (v := .int .i64 ((k : Nat) : Int)) rfl) ?_
        refine q trivial rfl rfl (add (a := ((k : Nat) : Int)) (b := 1) rfl rfl (by exact ⟨by omega, by omega⟩)) ?_
        refine q trivial rfl rfl (asg (v := .int .i64 (((k : Nat) : Int) + 1)) rfl) ?_
        refine nl ?_
        refine nN ?_
        refine ⟨(k + 1), ⟨⟨rfl, rfl, rfl, trivial⟩, (hl), (by omega), (take_succ_eq (by omega) (by omega) ha (by simpa using h3)), hs2⟩, ?_⟩
        omega
    · refine ex (tE (tE (bE ?_)))
      refine nN ?_
      refine sq ?_
      refine rg ?_
      refine q trivial rfl rfl (asg (v := .bool true) rfl) ?_
      refine nl ?_
      refine nN ?_
      refine rt ?_
      refine fret (v := .bool true) (.tmp .nil) rfl ?_
      have e3 : true = (decide (xs = bs)) := by simp; exact take_all_eq hl (by omega) ha
      exact ⟨(congrArg (Value.bool) e3), hs1⟩

theorem sameBytes {Axs : Option Addr} {cxs : Nat} (xs : List Int) {Abs : Option Addr} {cbs : Nat} (bs : List Int) (w : World) (hxs : Sl w [] 1 Axs xs.length cxs (xs.map I)) (hbs : Sl w [] 1 Abs bs.length cbs (bs.map I)) : Does Try.prog 25 [.slice Axs xs.length cxs, .slice Abs bs.length cbs] w (fun v w' => v = .bool (decide (xs = bs)) ∧ SH w w' [] []) := by
  refine fn_enter (N := 26) Try.func25 rfl (by kernel_rfl) rfl rfl rfl ?_
  have hs0 : SH w w [] [] := SH.refl w []
  have hxs_m : xs.length ≤ 9223372036854775807 := Nat.le_trans hxs.cap hxs.capMax
  have hbs_m : bs.length ≤ 9223372036854775807 := Nat.le_trans hbs.cap hbs.capMax
  refine sq ?_
  refine rg ?_
  refine q trivial rfl rfl (asg (v := .bool false) rfl) ?_
  refine nl ?_
  refine nN ?_
  refine sq ?_
  refine sq ?_
  refine rg ?_
  refine q trivial rfl rfl (mv (v := .slice Axs xs.length cxs) rfl) ?_
  refine q trivial rfl rfl (lnA (n := xs.length) sl23 rfl) ?_
  refine q trivial rfl rfl (mv (v := .slice Abs bs.length cbs) rfl) ?_
  refine q trivial rfl rfl (lnA (n := bs.length) sl23 rfl) ?_
  refine q trivial rfl rfl (nei (k := .i64) (a := ((xs.length : Nat) : Int)) (b := ((bs.length : Nat) : Int)) rfl rfl) ?_
  refine nl ?_
  refine nN ?_
  refine cdd (p := ((xs.length : Nat) : Int) ≠ ((bs.length : Nat) : Int)) rfl (fun h1 => ?_) (fun h1 => ?_)
  · refine sq ?_
    refine rg ?_
    refine q trivial rfl rfl (asg (v := .bool false) rfl) ?_
    refine nl ?_
    refine nN ?_
    refine rt (tR ?_)
    refine fret (v := .bool false) (.tmp .nil) rfl ?_
    have e1 : false = (decide (xs = bs)) := by simp; intro h; subst h; exact h1 rfl
    exact ⟨(congrArg (Value.bool) e1), hs0⟩
  · refine sk ?_
    refine nN ?_
    refine sq ?_
    refine sq ?_
    refine rg ?_
    refine q trivial rfl rfl (asg (v := .int .i64 0) rfl) ?_
    refine nl ?_
    refine nN ?_
    refine bl ?_
    refine lp (σ := Nat) (fun (k : Nat) f w' => Has f [(0, .slice Axs xs.length cxs), (1, .slice Abs bs.length cbs), (5, .int .i64 ((k : Nat) : Int))] ∧ (xs.length = bs.length) ∧ (k ≤ xs.length) ∧ (xs.take k = bs.take k) ∧ SH w w' [] []) (fun k => xs.length - k) 0 ⟨⟨rfl, rfl, rfl, trivial⟩, (by omega), (by simp), (by simp), hs0⟩ ?_
    rintro k f w1 ⟨hf, hl, hk, ha, hs1⟩
    obtain ⟨g1, rfl⟩ := has_upd hf
    clear hf
    refine sq ?_
    refine sq ?_
    refine rg ?_
    refine q trivial rfl rfl (mv (v := .int .i64 ((k : Nat) : Int)) rfl) ?_
    refine q trivial rfl rfl (mv (v := .slice Axs xs.length cxs) rfl) ?_
    refine q trivial rfl rfl (lnA (n := xs.length) sl23 rfl) ?_
    refine q trivial rfl rfl (lss (k := .i64) (a := ((k : Nat) : Int)) (b := ((xs.length : Nat) : Int)) rfl rfl) ?_
    refine nl ?_
    refine nN ?_
    refine cdd (p := ((k : Nat) : Int) < ((xs.length : Nat) : Int)) rfl (fun h2 => ?_) (fun h2 => ?_)
    · refine sk ?_
      refine nN ?_
      refine sq ?_
      refine bl ?_
      refine sq ?_
      refine rq (fun w' => SH w w' [] []) mixed (by kernel_rfl) hs1.drew ?_
      refine qq trivial rfl rfl (fun wq hsq => mv (v := .slice Axs xs.length cxs) rfl) ?_
      refine qq trivial rfl rfl (fun wq hsq => mv (v := .int .i64 ((k : Nat) : Int)) rfl) ?_
      refine ixq1 k sl23 rfl rfl hxs (by first | omega | (simp; omega)) (getm I 0 (by first | omega | (simp; omega))) trivial rfl (fun a1 ha1 => ?_)
      refine qq trivial rfl rfl (fun wq hsq => lda (v := .int .i64 (xs.getD k 0)) hsq ha1 (fun _ h => h) rfl rfl one3) ?_
      refine qq trivial rfl rfl (fun wq hsq => mv (v := .slice Abs bs.length cbs) rfl) ?_
      refine qq trivial rfl rfl (fun wq hsq => mv (v := .int .i64 ((k : Nat) : Int)) rfl) ?_
      refine ixq1 k sl23 rfl rfl hbs (by first | omega | (simp; omega)) (getm I 0 (by first | omega | (simp; omega))) trivial rfl (fun a2 ha2 => ?_)
      refine qq trivial rfl rfl (fun wq hsq => lda (v := .int .i64 (bs.getD k 0)) hsq ha2 (fun _ h => h) rfl rfl one3) ?_
      refine qq trivial rfl rfl (fun wq hsq => nei (k := .i64) (a := xs.getD k 0) (b := bs.getD k 0) rfl rfl) ?_
      refine qn (fun w2 hs2 => ?_)
      refine nN ?_
      refine cdd (p := (xs.getD k 0) ≠ (bs.getD k 0)) rfl (fun h3 => ?_) (fun h3 => ?_)
      · refine sq ?_
        refine rg ?_
        refine q trivial rfl rfl (asg (v := .bool false) rfl) ?_
        refine nl ?_
        refine nN ?_
        refine rt (bR (tR (tR (bR (tR ?_)))))
        refine fret (v := .bool false) (.tmp .nil) rfl ?_
        have e2 : false = (decide (xs = bs)) := by simp; intro h; subst h; exact h3 rfl
        exact ⟨(congrArg (Value.bool) e2), hs2⟩
      · refine sk ?_
        refine bN ?_
        refine nN ?_
        refine rg ?_
        refine q trivial rfl rfl (mv (v := .int .i64 ((k : Nat) : Int)) rfl) ?_
        refine q trivial rfl rfl (add (a := ((k : Nat) : Int)) (b := 1) rfl rfl (by exact ⟨by omega, by omega⟩)) ?_
        refine q trivial rfl rfl (asg (v := .int .i64 (((k : Nat) : Int) + 1)) rfl) ?_
        refine nl ?_
        refine nN ?_
        refine ⟨(k + 1), ⟨⟨rfl, rfl, rfl, trivial⟩, (hl), (by omega), (take_succ_eq (by omega) (by omega) ha (by simpa using h3)), hs2⟩, ?_⟩
        omega
    · refine ex (tE (tE (bE ?_)))
      refine nN ?_
      refine sq ?_
      refine rg ?_
      refine q trivial rfl rfl (asg (v := .bool true) rfl) ?_
      refine nl ?_
      refine nN ?_
      refine rt ?_
      refine fret (v := .bool true) (.tmp .nil) rfl ?_
      have e3 : true = (decide (xs = bs)) := by simp; exact take_all_eq hl (by omega) ha
      exact ⟨(congrArg (Value.bool) e3), hs1⟩

theorem heldIntS {Axs : Option Addr} {cxs : Nat} (xs : List Int) (k0 : Int) (w : World) (hxs : Sl w [] 1 Axs xs.length cxs (xs.map I)) (hxs_n : xs.length ≤ 1099511627776) (hk0 : 0 ≤ k0 ∧ k0 ≤ 4294967296) : Does Try.prog 33 [.slice Axs xs.length cxs, .int .i64 k0] w (fun v w' => v = .int .i64 (heldI xs k0) ∧ SH w w' [] []) := by
  refine fn_enter (N := 21) Try.func33 rfl (by kernel_rfl) rfl rfl rfl ?_
  have hs0 : SH w w [] [] := SH.refl w []
  have hxs_m : xs.length ≤ 9223372036854775807 := Nat.le_trans hxs.cap hxs.capMax
  refine sq ?_
  refine rg ?_
  refine q trivial rfl rfl (asg (v := .int .i64 0) rfl) ?_
  refine nl ?_
  refine nN ?_
  refine sq ?_
  refine sq ?_
  refine rg ?_
  refine q trivial rfl rfl (asg (v := .int .i64 0) rfl) ?_
  refine nl ?_
  refine nN ?_
  refine bl ?_
  refine lp (σ := Nat) (fun (k : Nat) f w' => Has f [(0, .slice Axs xs.length cxs), (1, .int .i64 (k0 + (k : Nat))), (5, .int .i64 ((k : Nat) : Int))] ∧ (k ≤ xs.length) ∧ (xs.take k = marks k0 k) ∧ SH w w' [] []) (fun k => xs.length - k) 0 ⟨⟨rfl, (show (.int .i64 k0 : Value) = .int .i64 (k0 + (0 : Nat)) from congrArg (Value.int .i64) (by simp)), rfl, trivial⟩, (by simp), (by simp [marks]), hs0⟩ ?_
  rintro k f w1 ⟨hf, hk, hm, hs1⟩
  obtain ⟨g1, rfl⟩ := has_upd hf
  clear hf
  refine sq ?_
  refine sq ?_
  refine rg ?_
  refine q trivial rfl rfl (mv (v := .int .i64 ((k : Nat) : Int)) rfl) ?_
  refine q trivial rfl rfl (mv (v := .slice Axs xs.length cxs) rfl) ?_
  refine q trivial rfl rfl (lnA (n := xs.length) sl23 rfl) ?_
  refine q trivial rfl rfl (lss (k := .i64) (a := ((k : Nat) : Int)) (b := ((xs.length : Nat) : Int)) rfl rfl) ?_
  refine nl ?_
  refine nN ?_
  refine cdd (p := ((k : Nat) : Int) < ((xs.length : Nat) : Int)) rfl (fun h1 => ?_) (fun h1 => ?_)
  · refine sk ?_
    refine nN ?_
    refine sq ?_
    refine bl ?_
    refine sq ?_
    refine sq ?_
    refine rg ?_
    refine q trivial rfl rfl (mv (v := .slice Axs xs.length cxs) rfl) ?_
    refine q trivial rfl rfl (mv (v := .int .i64 ((k : Nat) : Int)) rfl) ?_
    refine ixw1 k sl23 rfl rfl hxs (by first | omega | (simp; omega)) (getm I 0 (by first | omega | (simp; omega))) trivial rfl (fun a1 ha1 => ?_)
    refine q trivial rfl rfl (lda (v := .int .i64 (xs.getD k 0)) hs1 ha1 (fun _ h => h) rfl rfl one3) ?_
    refine q trivial rfl rfl (mv (v := .int .i64 (k0 + (k : Nat))) rfl) ?_
    refine q trivial rfl rfl (nei (k := .i64) (a := xs.getD k 0) (b := k0 + (k : Nat)) rfl rfl) ?_
    refine nl ?_
    refine nN ?_
    refine cdd (p := (xs.getD k 0) ≠ (k0 + (k : Nat))) rfl (fun h2 => ?_) (fun h2 => ?_)
    · refine sq ?_
      refine rg ?_
      refine q trivial rfl rfl (asg (v := .int .i64 (-1)) rfl) ?_
      refine nl ?_
      refine nN ?_
      refine rt (tR (bR (tR (tR (bR (tR ?_))))))
      refine fret (v := .int .i64 (-1)) (.tmp .nil) rfl ?_
      have e1 : (-1) = heldI xs k0 := by exact held_no (by omega) hm (by omega)
      exact ⟨(congrArg (Value.int .i64) e1), hs1⟩
    · refine sk ?_
      refine nN ?_
      refine rg ?_
      refine q trivial rfl rfl (mv (v := .int .i64 (k0 + (k : Nat))) rfl) ?_
      refine q trivial rfl rfl (add (a := k0 + (k : Nat)) (b := 1) rfl rfl (by exact ⟨by omega, by omega⟩)) ?_
      refine q trivial rfl rfl (asg (v := .int .i64 ((k0 + (k : Nat)) + 1)) rfl) ?_
      refine nl ?_
      refine bN ?_
      refine nN ?_
      refine rg ?_
      refine q trivial rfl rfl (mv (v := .int .i64 ((k : Nat) : Int)) rfl) ?_
      refine q trivial rfl rfl (add (a := ((k : Nat) : Int)) (b := 1) rfl rfl (by exact ⟨by omega, by omega⟩)) ?_
      refine q trivial rfl rfl (asg (v := .int .i64 (((k : Nat) : Int) + 1)) rfl) ?_
      refine nl ?_
      refine nN ?_
      refine ⟨(k + 1), ⟨⟨rfl, (show (.int .i64 ((k0 + (k : Nat)) + 1) : Value) = .int .i64 (k0 + ((k + 1) : Nat)) from congrArg (Value.int .i64) (by omega)), rfl, trivial⟩, (by omega), (marks_take (by omega) hm (by omega)), hs1⟩, ?_⟩
      omega
  · refine ex (tE (tE (bE ?_)))
    refine nN ?_
    refine sq ?_
    refine rg ?_
    refine q trivial rfl rfl (mv (v := .int .i64 (k0 + (k : Nat))) rfl) ?_
    refine q trivial rfl rfl (asg (v := .int .i64 (k0 + (k : Nat))) rfl) ?_
    refine nl ?_
    refine nN ?_
    refine rt ?_
    refine fret (v := .int .i64 (k0 + (k : Nat))) (.tmp .nil) rfl ?_
    have e2 : k0 + (k : Nat) = heldI xs k0 := by have : k = xs.length := (by omega); subst this; exact held_yes (by simpa using hm)
    exact ⟨(congrArg (Value.int .i64) e2), hs1⟩

theorem markIntS {Axs : Option Addr} {cxs : Nat} (xs : List Int) (k0 : Int) (w : World) (hxs : OwnR w Axs xs.length cxs 3 1 (xs.map I)) (hxs_n : xs.length ≤ 1099511627776) (hk0 : 0 ≤ k0 ∧ k0 ≤ 4294967296) : Does Try.prog 32 [.slice Axs xs.length cxs, .int .i64 k0] w (fun v w' => v = .int .i64 (k0 + ((xs.length : Nat) : Int)) ∧ SH w w' (ownM Axs cxs ++ []) [.own Axs xs.length cxs 3 1 ((marks k0 xs.length).map I)]) := by
  refine fn_enter (N := 19) Try.func32 rfl (by kernel_rfl) rfl rfl rfl ?_
  have hs0 : SH w w (ownM Axs cxs ++ []) [.own Axs xs.length cxs 3 1 (xs.map I)] := entry1o hxs
  have hxs_m : xs.length ≤ 9223372036854775807 := Nat.le_trans hxs.2.1 hxs.2.2.1
  refine sq ?_
  refine rg ?_
  refine q trivial rfl rfl (asg (v := .int .i64 0) rfl) ?_
  refine nl ?_
  refine nN ?_
  refine sq ?_
  refine sq ?_
  refine rg ?_
  refine q trivial rfl rfl (asg (v := .int .i64 0) rfl) ?_
  refine nl ?_
  refine nN ?_
  refine bl ?_
  have e1 : xs = marks k0 0 ++ xs.drop 0 := by simp [marks]
  refine lp (σ := (Option Addr) × Nat × Nat) (fun ⟨Ag0, cg0, k⟩ f w' => Has f [(0, .slice Ag0 xs.length cg0), (1, .int .i64 (k0 + (k : Nat))), (5, .int .i64 ((k : Nat) : Int))] ∧ (k ≤ xs.length) ∧ (Ag0 = Axs) ∧ (cg0 = cxs) ∧ SH w w' (ownM Axs cxs ++ []) [.own Ag0 xs.length cg0 3 1 ((marks k0 k ++ xs.drop k).map I)]) (fun ⟨Ag0, cg0, k⟩ => xs.length - k) (Axs, cxs, 0) ⟨⟨rfl, (show (.int .i64 k0 : Value) = .int .i64 (k0 + (0 : Nat)) from congrArg (Value.int .i64) (by simp)), rfl, trivial⟩, (by simp), (rfl), (rfl), (hs0.cast (lc (own_eq (g := I) rfl rfl rfl e1) rfl))⟩ ?_
  rintro ⟨Ag0, cg0, k⟩ f w1 ⟨hf, hk, hA, hC, hs1⟩
  obtain ⟨g1, rfl⟩ := has_upd hf
  clear hf
  refine sq ?_
  refine sq ?_
  refine rg ?_
  refine q trivial rfl rfl (mv (v := .int .i64 ((k : Nat) : Int)) rfl) ?_
  refine q trivial rfl rfl (mv (v := .slice Ag0 xs.length cg0) rfl) ?_
  refine q trivial rfl rfl (lnA (n := xs.length) sl23 rfl) ?_
  refine q trivial rfl rfl (lss (k := .i64) (a := ((k : Nat) : Int)) (b := ((xs.length : Nat) : Int)) rfl rfl) ?_
  refine nl ?_
  refine nN ?_
  refine cdd (p := ((k : Nat) : Int) < ((xs.length : Nat) : Int)) rfl (fun h1 => ?_) (fun h1 => ?_)
  · refine sk ?_
    refine nN ?_
    refine sq ?_
    refine bl ?_
    refine sq ?_
    refine rg ?_
    refine q trivial rfl rfl (mv (v := .slice Ag0 xs.length cg0) rfl) ?_
    refine q trivial rfl rfl (mv (v := .int .i64 ((k : Nat) : Int)) rfl) ?_
    refine q trivial rfl rfl (mv (v := .int .i64 (k0 + (k : Nat))) rfl) ?_
    obtain ⟨b1, rfl⟩ := own_form hs1 0 rfl (by first | omega | (simp; omega))
    refine q trivial rfl rfl (ixo k sl23 rfl rfl (by first | omega | (simp; omega))) ?_
    refine stomn (g := I) (ys := marks k0 k ++ xs.drop k) (o := k) (u := k0 + (k : Nat)) hs1 0 rfl rfl rfl rfl (by omega) rfl one3 trivial (fun w2 (hs2 : SH w w2 (ownM Axs cxs ++ []) [.own (some ⟨b1, 0, none⟩) xs.length cg0 3 1 (((marks k0 k ++ xs.drop k).set k (k0 + (k : Nat))).map I)]) => ?_)
    refine nl ?_
    refine nN ?_
    refine rg ?_
    refine q trivial rfl rfl (mv (v := .int .i64 (k0 + (k : Nat))) rfl) ?_
    refine q trivial rfl rfl (add (a := k0 + (k : Nat)) (b := 1) rfl rfl (by exact ⟨by omega, by omega⟩)) ?_
    refine q trivial rfl rfl (asg (v := .int .i64 ((k0 + (k : Nat)) + 1)) rfl) ?_
    refine nl ?_
    refine bN ?_
    refine nN ?_
    refine rg ?_
    refine q trivial rfl rfl (mv (v := .int .i64 ((k : Nat) : Int)) rfl) ?_
    refine q trivial rfl rfl (add (a := ((k : Nat) : Int)) (b := 1) rfl rfl (by exact ⟨by omega, by omega⟩)) ?_
    refine q trivial rfl rfl (asg (v := .int .i64 (((k : Nat) : Int) + 1)) rfl) ?_
    refine nl ?_
    refine nN ?_
    have e2 : (marks k0 k ++ xs.drop k).set k (k0 + (k : Nat)) = marks k0 (k + 1) ++ xs.drop (k + 1) := by exact marks_set (by omega)
    refine ⟨((some ⟨b1, 0, none⟩), cg0, k + 1), ⟨⟨rfl, (show (.int .i64 ((k0 + (k : Nat)) + 1) : Value) = .int .i64 (k0 + ((k + 1) : Nat)) from congrArg (Value.int .i64) (by omega)), rfl, trivial⟩, (by omega), (hA), (hC), (hs2.cast (lc (own_eq (g := I) rfl rfl rfl e2) rfl))⟩, ?_⟩
    show xs.length - (k + 1) < xs.length - k
    omega
  · refine ex (tE (tE (bE ?_)))
    refine nN ?_
    refine sq ?_
    refine rg ?_
    refine q trivial rfl rfl (mv (v := .int .i64 (k0 + (k : Nat))) rfl) ?_
    refine q trivial rfl rfl (asg (v := .int .i64 (k0 + (k : Nat))) rfl) ?_
    refine nl ?_
    refine nN ?_
    refine rt ?_
    refine fret (v := .int .i64 (k0 + (k : Nat))) (.tmp .nil) rfl ?_
    have e3 : k0 + (k : Nat) = k0 + ((xs.length : Nat) : Int) := by have : k = xs.length := (by omega); subst this; rfl
    have e4 : Ag0 = Axs := by assumption
    have e5 : cg0 = cxs := by assumption
    have e6 : marks k0 k ++ xs.drop k = marks k0 xs.length := by have : k = xs.length := (by omega); subst this; simp
    exact ⟨(congrArg (Value.int .i64) e3), (hs1.cast (lc (own_eq (g := I) e4 rfl e5 e6) rfl))⟩

theorem toIntS {Axs : Option Addr} {cxs : Nat} (xs : List Int) (w : World) (hxs : Sl w [] 1 Axs xs.length cxs (xs.map I)) (hxs_n : xs.length ≤ 1099511627776) : Does Try.prog 39 [.slice Axs xs.length cxs] w (fun v w' => ∃ Ar : Option Addr, ∃ cr : Nat, v = .slice Ar xs.length cr ∧ SH w w' [] [.own Ar xs.length cr 3 1 (xs.map I)]) := by
  refine fn_enter (N := 22) Try.func39 rfl (by kernel_rfl) rfl rfl rfl ?_
  have hs0 : SH w w [] [] := SH.refl w []
  have hxs_m : xs.length ≤ 9223372036854775807 := Nat.le_trans hxs.cap hxs.capMax
  refine sq ?_
  refine rg ?_
  refine q trivial rfl rfl (asg (v := .slice none 0 0) rfl) ?_
  refine nl ?_
  refine nN ?_
  refine sq ?_
  refine rg ?_
  refine q trivial rfl rfl (mv (v := .slice Axs xs.length cxs) rfl) ?_
  refine q trivial rfl rfl (lnA (n := xs.length) sl23 rfl) ?_
  refine mkm (g := I) (z := 0) (n := xs.length) hs0 sl23 rfl rfl rfl (by omega) (by unfold maxLen; omega) trivial rfl (fun b1 w1 (hs1 : SH w w1 [] [.own (some ⟨b1, 0, none⟩) ((List.replicate xs.length (0 : Int)).length) xs.length 3 1 ((List.replicate xs.length (0 : Int)).map I)]) => ?_)
  refine q trivial rfl rfl (asg (v := .slice (some ⟨b1, 0, none⟩) ((List.replicate xs.length (0 : Int)).length) xs.length) rfl) ?_
  refine nl ?_
  refine nN ?_
  refine sq ?_
  refine sq ?_
  refine rg ?_
  refine q trivial rfl rfl (asg (v := .int .i64 0) rfl) ?_
  refine nl ?_
  refine nN ?_
  refine bl ?_
  have e1 : List.replicate xs.length (0 : Int) = xs.take 0 ++ List.replicate (xs.length - 0) (0 : Int) := by simp
  have e2 : (List.replicate xs.length (0 : Int)).length = xs.length := by first | rfl | (simp; done) | (simp; omega) | omega
  refine lp (σ := (Option Addr) × Nat × Nat) (fun ⟨Ag3, cg3, k⟩ f w' => Has f [(0, .slice Axs xs.length cxs), (3, .slice Ag3 xs.length cg3), (4, .int .i64 ((k : Nat) : Int))] ∧ (k ≤ xs.length) ∧ SH w w' [] [.own Ag3 xs.length cg3 3 1 ((xs.take k ++ List.replicate (xs.length - k) (0 : Int)).map I)]) (fun ⟨Ag3, cg3, k⟩ => xs.length - k) ((some ⟨b1, 0, none⟩), xs.length, 0) ⟨⟨rfl, (show (.slice (some ⟨b1, 0, none⟩) ((List.replicate xs.length (0 : Int)).length) xs.length : Value) = .slice (some ⟨b1, 0, none⟩) xs.length xs.length from slv rfl e2 rfl), rfl, trivial⟩, (by simp), (hs1.cast (lc (own_eq (g := I) rfl e2 rfl e1) rfl))⟩ ?_
  rintro ⟨Ag3, cg3, k⟩ f w2 ⟨hf, hk, hs2⟩
  obtain ⟨g1, rfl⟩ := has_upd hf
  clear hf
  refine sq ?_
  refine sq ?_
  refine rg ?_
  refine q trivial rfl rfl (mv (v := .int .i64 ((k : Nat) : Int)) rfl) ?_
  refine q trivial rfl rfl (mv (v := .slice Axs xs.length cxs) rfl) ?_
  refine q trivial rfl rfl (lnA (n := xs.length) sl23 rfl) ?_
  refine q trivial rfl rfl (lss (k := .i64) (a := ((k : Nat) : Int)) (b := ((xs.length : Nat) : Int)) rfl rfl) ?_
  refine nl ?_
  refine nN ?_
  refine cdd (p := ((k : Nat) : Int) < ((xs.length : Nat) : Int)) rfl (fun h1 => ?_) (fun h1 => ?_)
  · refine sk ?_
    refine nN ?_
    refine sq ?_
    refine bl ?_
    refine rg ?_
    refine q trivial rfl rfl (mv (v := .slice Ag3 xs.length cg3) rfl) ?_
    refine q trivial rfl rfl (mv (v := .int .i64 ((k : Nat) : Int)) rfl) ?_
    refine q trivial rfl rfl (mv (v := .slice Axs xs.length cxs) rfl) ?_
    refine q trivial rfl rfl (mv (v := .int .i64 ((k : Nat) : Int)) rfl) ?_
    refine ixw1 k sl23 rfl rfl hxs (by first | omega | (simp; omega)) (getm I 0 (by first | omega | (simp; omega))) trivial rfl (fun a1 ha1 => ?_)
    refine q trivial rfl rfl (lda (v := .int .i64 (xs.getD k 0)) hs2 ha1 (fun _ h => h) rfl rfl one3) ?_
    obtain ⟨b2, rfl⟩ := own_form hs2 0 rfl (by first | omega | (simp; omega))
    refine q trivial rfl rfl (ixo k sl23 rfl rfl (by first | omega | (simp; omega))) ?_
    refine stomn (g := I) (ys := xs.take k ++ List.replicate (xs.length - k) (0 : Int)) (o := k) (u := xs.getD k 0) hs2 0 rfl rfl rfl rfl (by omega) rfl one3 trivial (fun w3 (hs3 : SH w w3 [] [.own (some ⟨b2, 0, none⟩) xs.length cg3 3 1 (((xs.take k ++ List.replicate (xs.length - k) (0 : Int)).set k (xs.getD k 0)).map I)]) => ?_)
    refine nl ?_
    refine bN ?_
    refine nN ?_
    refine rg ?_
    refine q trivial rfl rfl (mv (v := .int .i64 ((k : Nat) : Int)) rfl) ?_
    refine q trivial rfl rfl (add (a := ((k : Nat) : Int)) (b := 1) rfl rfl (by exact ⟨by omega, by omega⟩)) ?_
    refine q trivial rfl rfl (asg (v := .int .i64 (((k : Nat) : Int) + 1)) rfl) ?_
    refine nl ?_
    refine nN ?_
    have e3 : (xs.take k ++ List.replicate (xs.length - k) (0 : Int)).set k (xs.getD k 0) = xs.take (k + 1) ++ List.replicate (xs.length - (k + 1)) (0 : Int) := by exact copy_set (by omega)
    refine ⟨((some ⟨b2, 0, none⟩), cg3, k + 1), ⟨⟨rfl, rfl, rfl, trivial⟩, (by omega), (hs3.cast (lc (own_eq (g := I) rfl rfl rfl e3) rfl))⟩, ?_⟩
    show xs.length - (k + 1) < xs.length - k
    omega
  · refine ex (tE (tE (bE ?_)))
    refine nN ?_
    refine sq ?_
    refine rg ?_
    refine q trivial rfl rfl (mv (v := .slice Ag3 xs.length cg3) rfl) ?_
    refine q trivial rfl rfl (asg (v := .slice Ag3 xs.length cg3) rfl) ?_
    refine nl ?_
    refine nN ?_
    refine rt ?_
    refine fret (v := .slice Ag3 xs.length cg3) (.tmp .nil) rfl ?_
    have e4 : xs.take k ++ List.replicate (xs.length - k) (0 : Int) = xs := by have : k = xs.length := (by omega); subst this; simp
    exact ⟨Ag3, cg3, rfl, (hs2.cast (lc (own_eq (g := I) rfl rfl rfl e4) rfl))⟩

theorem pick {rb : Nat} {Ab : Option Addr} {cb : Nat} {bs : List UInt8} {p : Nat} (n : Int) (w : World) (hr : w.heap[rb]? = some (.cells [.slice Ab bs.length cb, .int .i64 ((p : Nat) : Int)].toArray 60 (0, 0))) (hb : Sl w [rb] 1 Ab bs.length cb (bs.map U)) (hbn : bs.length ≤ 2000) (hp : p ≤ 1099511627776) : Does Try.prog 47 [.pointer (some ⟨rb, 0, none⟩), .int .i64 n] w (fun v w' => ∃ r : Int, ∃ q : Nat, v = .int .i64 r ∧ (0 ≤ r ∧ (r < n ∨ r = 0)) ∧ (q ≤ p + 1) ∧ SH w w' [rb] [.blk rb 60 [.slice Ab bs.length cb, .int .i64 ((q : Nat) : Int)]]) := by
  refine fn_enter (N := 99) Try.func47 rfl (by kernel_rfl) rfl rfl rfl ?_
  have hs0 : SH w w [rb] [.blk rb 60 [.slice Ab bs.length cb, .int .i64 ((p : Nat) : Int)]] := SH.entry1 hr
  refine sq ?_
  refine rg ?_
  refine q trivial rfl rfl (asg (v := .int .i64 0) rfl) ?_
  refine nl ?_
  refine nN ?_
  refine sq ?_
  refine rg ?_
  refine q trivial rfl rfl (mv (v := .pointer (some ⟨rb, 0, none⟩)) rfl) ?_
  refine q trivial rfl rfl (mv (v := .pointer (some ⟨rb, 0, none⟩)) rfl) ?_
  refine q trivial rfl rfl (nc rfl) ?_
  refine q trivial rfl rfl (fa 1 fo60_1 rfl) ?_
  refine q trivial rfl rfl (ld (v := .int .i64 ((p : Nat) : Int)) hs0 0 rfl rfl rfl one3) ?_
  refine q trivial rfl rfl (add (a := ((p : Nat) : Int)) (b := 1) rfl rfl (by have h1_ := u8_bd (bs.getD ((p + 1 - 1) % bs.length) 0); have h2_ := u8_bd (bs.getD (((p + 1 - 1) * 7 + 3) % bs.length) 0); have h3_ := div_bd (p + 1 - 1) bs.length; exact ⟨by omega, by omega⟩)) ?_
  refine q trivial rfl rfl (nc rfl) ?_
  refine q trivial rfl rfl (fa 1 fo60_1 rfl) ?_
  refine st (v := .int .i64 (((p : Nat) : Int) + 1)) hs0 0 rfl rfl rfl rfl rfl one3 trivial (fun w1 (hs1 : SH w w1 [rb] [.blk rb 60 [.slice Ab bs.length cb, .int .i64 (((p : Nat) : Int) + 1)]]) => ?_)
  refine nl ?_
  refine nN ?_
  refine sq ?_
  refine sq ?_
  refine rg ?_
  refine q trivial rfl rfl (mv (v := .int .i64 n) rfl) ?_
  refine q trivial rfl rfl (lss (k := .i64) (a := n) (b := 1) rfl rfl) ?_
  refine q trivial rfl rfl (mv (v := .bool (decide (n < 1))) rfl) ?_
  refine spd (p := n < 1) 17 rfl (fun h1 => ?_) (fun h1 => ?_)
  · refine gk true rfl rfl rfl rfl rfl ?_
    refine gk true rfl rfl rfl rfl rfl ?_
    refine gk true rfl rfl rfl rfl rfl ?_
    refine gk true rfl rfl rfl rfl rfl ?_
    refine gk true rfl rfl rfl rfl rfl ?_
    refine gk true rfl rfl rfl rfl rfl ?_
    refine q trivial rfl rfl (pt (v := .bool true) rfl rfl) ?_
    refine nl ?_
    refine nN ?_
    refine cdt rfl ?_
    refine sq ?_
    refine rg ?_
    refine q trivial rfl rfl (asg (v := .int .i64 0) rfl) ?_
    refine nl ?_
    refine nN ?_
    refine rt (tR ?_)
    refine fret (v := .int .i64 0) (.tmp .nil) rfl ?_
    exact ⟨0, p + 1, rfl, (by simp), (by omega), hs1⟩
  · refine q ⟨_, rfl, rfl⟩ rfl rfl (mv (v := .pointer (some ⟨rb, 0, none⟩)) rfl) ?_
    refine q ⟨_, rfl, rfl⟩ rfl rfl (nc rfl) ?_
    refine q ⟨_, rfl, rfl⟩ rfl rfl (fa 0 fo60_0 rfl) ?_
    refine q ⟨_, rfl, rfl⟩ rfl rfl (ld (v := .slice Ab bs.length cb) hs1 0 rfl rfl rfl one22) ?_
    refine q ⟨_, rfl, rfl⟩ rfl rfl (lnA (n := bs.length) sl22 rfl) ?_
    refine q ⟨_, rfl, rfl⟩ rfl rfl (eqi (k := .i64) (a := ((bs.length : Nat) : Int)) (b := 0) rfl rfl) ?_
    refine q trivial rfl rfl (pf (v := .bool (decide (((bs.length : Nat) : Int) = 0))) rfl rfl) ?_
    refine nl ?_
    refine nN ?_
    refine cdd (p := ((bs.length : Nat) : Int) = 0) rfl (fun h2 => ?_) (fun h2 => ?_)
    · refine sq ?_
      refine rg ?_
      refine q trivial rfl rfl (asg (v := .int .i64 0) rfl) ?_
      refine nl ?_
      refine nN ?_
      refine rt (tR ?_)
      refine fret (v := .int .i64 0) (.tmp .nil) rfl ?_
      exact ⟨0, p + 1, rfl, (by simp), (by omega), hs1⟩
    · refine sk ?_
      refine nN ?_
      refine sq ?_
      refine rg ?_
      refine q trivial rfl rfl (mv (v := .pointer (some ⟨rb, 0, none⟩)) rfl) ?_
      refine q trivial rfl rfl (nc rfl) ?_
      refine q trivial rfl rfl (fa 1 fo60_1 rfl) ?_
      refine q trivial rfl rfl (ld (v := .int .i64 (((p : Nat) : Int) + 1)) hs1 0 rfl rfl rfl one3) ?_
      refine q trivial rfl rfl (subN (a := p + 1) (b := 1) rfl rfl (by omega) (by omega)) ?_
      refine q trivial rfl rfl (asg (v := .int .i64 (((p + 1) - 1 : Nat) : Int)) rfl) ?_
      refine nl ?_
      refine nN ?_
      refine sq ?_
      refine sq ?_
      refine rg ?_
      refine q trivial rfl rfl (mv (v := .int .i64 (((p + 1) - 1 : Nat) : Int)) rfl) ?_
      refine q trivial rfl rfl (mv (v := .pointer (some ⟨rb, 0, none⟩)) rfl) ?_
      refine q trivial rfl rfl (nc rfl) ?_
      refine q trivial rfl rfl (fa 0 fo60_0 rfl) ?_
      refine q trivial rfl rfl (ld (v := .slice Ab bs.length cb) hs1 0 rfl rfl rfl one22) ?_
      refine q trivial rfl rfl (lnA (n := bs.length) sl22 rfl) ?_
      refine q trivial rfl rfl (lss (k := .i64) (a := (((p + 1) - 1 : Nat) : Int)) (b := ((bs.length : Nat) : Int)) rfl rfl) ?_
      refine nl ?_
      refine nN ?_
      refine cdd (p := (((p + 1) - 1 : Nat) : Int) < ((bs.length : Nat) : Int)) rfl (fun h3 => ?_) (fun h3 => ?_)
      · refine sq ?_
        refine rg ?_
        refine q trivial rfl rfl (mv (v := .pointer (some ⟨rb, 0, none⟩)) rfl) ?_
        refine q trivial rfl rfl (nc rfl) ?_
        refine q trivial rfl rfl (fa 0 fo60_0 rfl) ?_
        refine q trivial rfl rfl (ld (v := .slice Ab bs.length cb) hs1 0 rfl rfl rfl one22) ?_
        refine q trivial rfl rfl (mv (v := .int .i64 (((p + 1) - 1 : Nat) : Int)) rfl) ?_
        refine ixw1 ((p + 1) - 1) sl22 rfl rfl hb (by first | omega | exact Nat.mod_lt _ (by omega)) (getm U 0 (by first | omega | exact Nat.mod_lt _ (by omega))) trivial rfl (fun a1 ha1 => ?_)
        refine q trivial rfl rfl (lda (v := .int .u8 (((bs.getD ((p + 1) - 1) 0).toNat : Nat) : Int)) hs1 ha1 (fun _ h => h) rfl rfl one5) ?_
        refine q trivial rfl rfl (cvI (a := (((bs.getD ((p + 1) - 1) 0).toNat : Nat) : Int)) (s := .u8) ti5 ti3 rfl (by have := u8_bd ((bs.getD ((p + 1) - 1) 0)); exact ⟨by omega, by omega⟩)) ?_
        refine q trivial rfl rfl (mv (v := .int .i64 n) rfl) ?_
        refine q trivial rfl rfl (rem (a := (((bs.getD ((p + 1) - 1) 0).toNat : Nat) : Int)) (b := n) rfl rfl (by have h1_ := u8_bd (bs.getD ((p + 1 - 1) % bs.length) 0); have h2_ := u8_bd (bs.getD (((p + 1 - 1) * 7 + 3) % bs.length) 0); have h3_ := div_bd (p + 1 - 1) bs.length; omega) (by omega)) ?_
        refine q trivial rfl rfl (asg (v := .int .i64 ((((bs.getD ((p + 1) - 1) 0).toNat : Nat) : Int) % n)) rfl) ?_
        refine nl ?_
        refine nN ?_
        refine rt (tR ?_)
        refine fret (v := .int .i64 ((((bs.getD ((p + 1) - 1) 0).toNat : Nat) : Int) % n)) (.tmp .nil) rfl ?_
        exact ⟨(((bs.getD ((p + 1) - 1) 0).toNat : Nat) : Int) % n, p + 1, rfl, (mod_pos (by omega)), (by omega), hs1⟩
      · refine sk ?_
        refine nN ?_
        refine sq ?_
        refine rq (fun w' => SH w w' [rb] [.blk rb 60 [.slice Ab bs.length cb, .int .i64 (((p : Nat) : Int) + 1)]]) mixed (by kernel_rfl) hs1.drew ?_
        refine qq trivial rfl rfl (fun wq hsq => mv (v := .pointer (some ⟨rb, 0, none⟩)) rfl) ?_
        refine qq trivial rfl rfl (fun wq hsq => nc rfl) ?_
        refine qq trivial rfl rfl (fun wq hsq => fa 0 fo60_0 rfl) ?_
        refine qq trivial rfl rfl (fun wq hsq => ld (v := .slice Ab bs.length cb) hsq 0 rfl rfl rfl one22) ?_
        refine qq trivial rfl rfl (fun wq hsq => mv (v := .int .i64 (((p + 1) - 1 : Nat) : Int)) rfl) ?_
        refine qq trivial rfl rfl (fun wq hsq => mv (v := .pointer (some ⟨rb, 0, none⟩)) rfl) ?_
        refine qq trivial rfl rfl (fun wq hsq => nc rfl) ?_
        refine qq trivial rfl rfl (fun wq hsq => fa 0 fo60_0 rfl) ?_
        refine qq trivial rfl rfl (fun wq hsq => ld (v := .slice Ab bs.length cb) hsq 0 rfl rfl rfl one22) ?_
        refine qq trivial rfl rfl (fun wq hsq => lnA (n := bs.length) sl22 rfl) ?_
        refine qq trivial rfl rfl (fun wq hsq => rem (a := (((p + 1) - 1 : Nat) : Int)) (b := ((bs.length : Nat) : Int)) rfl rfl (by have h1_ := u8_bd (bs.getD ((p + 1 - 1) % bs.length) 0); have h2_ := u8_bd (bs.getD (((p + 1 - 1) * 7 + 3) % bs.length) 0); have h3_ := div_bd (p + 1 - 1) bs.length; omega) (by omega)) ?_
        refine ixq1 (((p + 1) - 1) % bs.length) sl22 rfl rfl hb (by first | omega | exact Nat.mod_lt _ (by omega)) (getm U 0 (by first | omega | exact Nat.mod_lt _ (by omega))) trivial rfl (fun a2 ha2 => ?_)
        refine qq trivial rfl rfl (fun wq hsq => lda (v := .int .u8 (((bs.getD (((p + 1) - 1) % bs.length) 0).toNat : Nat) : Int)) hsq ha2 (fun _ h => h) rfl rfl one5) ?_
        refine qq trivial rfl rfl (fun wq hsq => cvI (a := (((bs.getD (((p + 1) - 1) % bs.length) 0).toNat : Nat) : Int)) (s := .u8) ti5 ti3 rfl (by have := u8_bd ((bs.getD (((p + 1) - 1) % bs.length) 0)); exact ⟨by omega, by omega⟩)) ?_
        refine qq trivial rfl rfl (fun wq hsq => mul (a := (((bs.getD (((p + 1) - 1) % bs.length) 0).toNat : Nat) : Int)) (b := 131) rfl rfl (by have h1_ := u8_bd (bs.getD ((p + 1 - 1) % bs.length) 0); have h2_ := u8_bd (bs.getD (((p + 1 - 1) * 7 + 3) % bs.length) 0); have h3_ := div_bd (p + 1 - 1) bs.length; exact ⟨by omega, by omega⟩)) ?_
        refine qq trivial rfl rfl (fun wq hsq => mv (v := .pointer (some ⟨rb, 0, none⟩)) rfl) ?_
        refine qq trivial rfl rfl (fun wq hsq => nc rfl) ?_
        refine qq trivial rfl rfl (fun wq hsq => fa 0 fo60_0 rfl) ?_
        refine qq trivial rfl rfl (fun wq hsq => ld (v := .slice Ab bs.length cb) hsq 0 rfl rfl rfl one22) ?_
        refine qq trivial rfl rfl (fun wq hsq => mv (v := .int .i64 (((p + 1) - 1 : Nat) : Int)) rfl) ?_
        refine qq trivial rfl rfl (fun wq hsq => mul (a := (((p + 1) - 1 : Nat) : Int)) (b := 7) rfl rfl (by have h1_ := u8_bd (bs.getD ((p + 1 - 1) % bs.length) 0); have h2_ := u8_bd (bs.getD (((p + 1 - 1) * 7 + 3) % bs.length) 0); have h3_ := div_bd (p + 1 - 1) bs.length; exact ⟨by omega, by omega⟩)) ?_
        refine qq trivial rfl rfl (fun wq hsq => add (a := (((p + 1) - 1 : Nat) : Int) * 7) (b := 3) rfl rfl (by have h1_ := u8_bd (bs.getD ((p + 1 - 1) % bs.length) 0); have h2_ := u8_bd (bs.getD (((p + 1 - 1) * 7 + 3) % bs.length) 0); have h3_ := div_bd (p + 1 - 1) bs.length; exact ⟨by omega, by omega⟩)) ?_
        refine qq trivial rfl rfl (fun wq hsq => mv (v := .pointer (some ⟨rb, 0, none⟩)) rfl) ?_
        refine qq trivial rfl rfl (fun wq hsq => nc rfl) ?_
        refine qq trivial rfl rfl (fun wq hsq => fa 0 fo60_0 rfl) ?_
        refine qq trivial rfl rfl (fun wq hsq => ld (v := .slice Ab bs.length cb) hsq 0 rfl rfl rfl one22) ?_
        refine qq trivial rfl rfl (fun wq hsq => lnA (n := bs.length) sl22 rfl) ?_
        refine qq trivial rfl rfl (fun wq hsq => rem (a := ((((p + 1) - 1 : Nat) : Int) * 7) + 3) (b := ((bs.length : Nat) : Int)) rfl rfl (by have h1_ := u8_bd (bs.getD ((p + 1 - 1) % bs.length) 0); have h2_ := u8_bd (bs.getD (((p + 1 - 1) * 7 + 3) % bs.length) 0); have h3_ := div_bd (p + 1 - 1) bs.length; omega) (by omega)) ?_
        refine ixq1 (((((p + 1) - 1) * 7) + 3) % bs.length) sl22 rfl rfl hb (by first | omega | exact Nat.mod_lt _ (by omega)) (getm U 0 (by first | omega | exact Nat.mod_lt _ (by omega))) trivial rfl (fun a3 ha3 => ?_)
        refine qq trivial rfl rfl (fun wq hsq => lda (v := .int .u8 (((bs.getD (((((p + 1) - 1) * 7) + 3) % bs.length) 0).toNat : Nat) : Int)) hsq ha3 (fun _ h => h) rfl rfl one5) ?_
        refine qq trivial rfl rfl (fun wq hsq => cvI (a := (((bs.getD (((((p + 1) - 1) * 7) + 3) % bs.length) 0).toNat : Nat) : Int)) (s := .u8) ti5 ti3 rfl (by have := u8_bd ((bs.getD (((((p + 1) - 1) * 7) + 3) % bs.length) 0)); exact ⟨by omega, by omega⟩)) ?_
        refine qq trivial rfl rfl (fun wq hsq => mul (a := (((bs.getD (((((p + 1) - 1) * 7) + 3) % bs.length) 0).toNat : Nat) : Int)) (b := 1117) rfl rfl (by have h1_ := u8_bd (bs.getD ((p + 1 - 1) % bs.length) 0); have h2_ := u8_bd (bs.getD (((p + 1 - 1) * 7 + 3) % bs.length) 0); have h3_ := div_bd (p + 1 - 1) bs.length; exact ⟨by omega, by omega⟩)) ?_
        refine qq trivial rfl rfl (fun wq hsq => add (a := (((bs.getD (((p + 1) - 1) % bs.length) 0).toNat : Nat) : Int) * 131) (b := (((bs.getD (((((p + 1) - 1) * 7) + 3) % bs.length) 0).toNat : Nat) : Int) * 1117) rfl rfl (by have h1_ := u8_bd (bs.getD ((p + 1 - 1) % bs.length) 0); have h2_ := u8_bd (bs.getD (((p + 1 - 1) * 7 + 3) % bs.length) 0); have h3_ := div_bd (p + 1 - 1) bs.length; exact ⟨by omega, by omega⟩)) ?_
        refine qq trivial rfl rfl (fun wq hsq => mv (v := .int .i64 (((p + 1) - 1 : Nat) : Int)) rfl) ?_
        refine qq trivial rfl rfl (fun wq hsq => mul (a := (((p + 1) - 1 : Nat) : Int)) (b := 29) rfl rfl (by have h1_ := u8_bd (bs.getD ((p + 1 - 1) % bs.length) 0); have h2_ := u8_bd (bs.getD (((p + 1 - 1) * 7 + 3) % bs.length) 0); have h3_ := div_bd (p + 1 - 1) bs.length; exact ⟨by omega, by omega⟩)) ?_
        refine qq trivial rfl rfl (fun wq hsq => add (a := ((((bs.getD (((p + 1) - 1) % bs.length) 0).toNat : Nat) : Int) * 131) + ((((bs.getD (((((p + 1) - 1) * 7) + 3) % bs.length) 0).toNat : Nat) : Int) * 1117)) (b := (((p + 1) - 1 : Nat) : Int) * 29) rfl rfl (by have h1_ := u8_bd (bs.getD ((p + 1 - 1) % bs.length) 0); have h2_ := u8_bd (bs.getD (((p + 1 - 1) * 7 + 3) % bs.length) 0); have h3_ := div_bd (p + 1 - 1) bs.length; exact ⟨by omega, by omega⟩)) ?_
        refine qq trivial rfl rfl (fun wq hsq => mv (v := .int .i64 (((p + 1) - 1 : Nat) : Int)) rfl) ?_
        refine qq trivial rfl rfl (fun wq hsq => mv (v := .pointer (some ⟨rb, 0, none⟩)) rfl) ?_
        refine qq trivial rfl rfl (fun wq hsq => nc rfl) ?_
        refine qq trivial rfl rfl (fun wq hsq => fa 0 fo60_0 rfl) ?_
        refine qq trivial rfl rfl (fun wq hsq => ld (v := .slice Ab bs.length cb) hsq 0 rfl rfl rfl one22) ?_
        refine qq trivial rfl rfl (fun wq hsq => lnA (n := bs.length) sl22 rfl) ?_
        refine qq trivial rfl rfl (fun wq hsq => quo (a := (((p + 1) - 1 : Nat) : Int)) (b := ((bs.length : Nat) : Int)) rfl rfl (by have h1_ := u8_bd (bs.getD ((p + 1 - 1) % bs.length) 0); have h2_ := u8_bd (bs.getD (((p + 1 - 1) * 7 + 3) % bs.length) 0); have h3_ := div_bd (p + 1 - 1) bs.length; omega) (by have h1_ := u8_bd (bs.getD ((p + 1 - 1) % bs.length) 0); have h2_ := u8_bd (bs.getD (((p + 1 - 1) * 7 + 3) % bs.length) 0); have h3_ := div_bd (p + 1 - 1) bs.length; omega) (by have h1_ := u8_bd (bs.getD ((p + 1 - 1) % bs.length) 0); have h2_ := u8_bd (bs.getD (((p + 1 - 1) * 7 + 3) % bs.length) 0); have h3_ := div_bd (p + 1 - 1) bs.length; omega)) ?_
        refine qq trivial rfl rfl (fun wq hsq => mul (a := (((p + 1) - 1 : Nat) : Int) / ((bs.length : Nat) : Int)) (b := 53) rfl rfl (by have h1_ := u8_bd (bs.getD ((p + 1 - 1) % bs.length) 0); have h2_ := u8_bd (bs.getD (((p + 1 - 1) * 7 + 3) % bs.length) 0); have h3_ := div_bd (p + 1 - 1) bs.length; exact ⟨by omega, by omega⟩)) ?_
        refine qq trivial rfl rfl (fun wq hsq => add (a := (((((bs.getD (((p + 1) - 1) % bs.length) 0).toNat : Nat) : Int) * 131) + ((((bs.getD (((((p + 1) - 1) * 7) + 3) % bs.length) 0).toNat : Nat) : Int) * 1117)) + ((((p + 1) - 1 : Nat) : Int) * 29)) (b := ((((p + 1) - 1 : Nat) : Int) / ((bs.length : Nat) : Int)) * 53) rfl rfl (by have h1_ := u8_bd (bs.getD ((p + 1 - 1) % bs.length) 0); have h2_ := u8_bd (bs.getD (((p + 1 - 1) * 7 + 3) % bs.length) 0); have h3_ := div_bd (p + 1 - 1) bs.length; exact ⟨by omega, by omega⟩)) ?_
        refine qq trivial rfl rfl (fun wq hsq => asg (v := .int .i64 (((((((bs.getD (((p + 1) - 1) % bs.length) 0).toNat : Nat) : Int) * 131) + ((((bs.getD (((((p + 1) - 1) * 7) + 3) % bs.length) 0).toNat : Nat) : Int) * 1117)) + ((((p + 1) - 1 : Nat) : Int) * 29)) + (((((p + 1) - 1 : Nat) : Int) / ((bs.length : Nat) : Int)) * 53))) rfl) ?_
        refine qn (fun w2 hs2 => ?_)
        refine nN ?_
        refine sq ?_
        refine rg ?_
        refine q trivial rfl rfl (mv (v := .int .i64 (((((((bs.getD (((p + 1) - 1) % bs.length) 0).toNat : Nat) : Int) * 131) + ((((bs.getD (((((p + 1) - 1) * 7) + 3) % bs.length) 0).toNat : Nat) : Int) * 1117)) + ((((p + 1) - 1 : Nat) : Int) * 29)) + (((((p + 1) - 1 : Nat) : Int) / ((bs.length : Nat) : Int)) * 53))) rfl) ?_
        refine q trivial rfl rfl (mv (v := .int .i64 (((((((bs.getD (((p + 1) - 1) % bs.length) 0).toNat : Nat) : Int) * 131) + ((((bs.getD (((((p + 1) - 1) * 7) + 3) % bs.length) 0).toNat : Nat) : Int) * 1117)) + ((((p + 1) - 1 : Nat) : Int) * 29)) + (((((p + 1) - 1 : Nat) : Int) / ((bs.length : Nat) : Int)) * 53))) rfl) ?_
        refine q trivial rfl rfl (quo (a := ((((((bs.getD (((p + 1) - 1) % bs.length) 0).toNat : Nat) : Int) * 131) + ((((bs.getD (((((p + 1) - 1) * 7) + 3) % bs.length) 0).toNat : Nat) : Int) * 1117)) + ((((p + 1) - 1 : Nat) : Int) * 29)) + (((((p + 1) - 1 : Nat) : Int) / ((bs.length : Nat) : Int)) * 53)) (b := 64) rfl rfl (by have h1_ := u8_bd (bs.getD ((p + 1 - 1) % bs.length) 0); have h2_ := u8_bd (bs.getD (((p + 1 - 1) * 7 + 3) % bs.length) 0); have h3_ := div_bd (p + 1 - 1) bs.length; omega) (by have h1_ := u8_bd (bs.getD ((p + 1 - 1) % bs.length) 0); have h2_ := u8_bd (bs.getD (((p + 1 - 1) * 7 + 3) % bs.length) 0); have h3_ := div_bd (p + 1 - 1) bs.length; omega) (by have h1_ := u8_bd (bs.getD ((p + 1 - 1) % bs.length) 0); have h2_ := u8_bd (bs.getD (((p + 1 - 1) * 7 + 3) % bs.length) 0); have h3_ := div_bd (p + 1 - 1) bs.length; omega)) ?_
        refine q trivial rfl rfl (xr (a := (((((bs.getD (((p + 1) - 1) % bs.length) 0).toNat) * 131) + (((bs.getD (((((p + 1) - 1) * 7) + 3) % bs.length) 0).toNat) * 1117)) + (((p + 1) - 1) * 29)) + ((((p + 1) - 1) / bs.length) * 53)) (b := ((((((bs.getD (((p + 1) - 1) % bs.length) 0).toNat) * 131) + (((bs.getD (((((p + 1) - 1) * 7) + 3) % bs.length) 0).toNat) * 1117)) + (((p + 1) - 1) * 29)) + ((((p + 1) - 1) / bs.length) * 53)) / 64) rfl rfl (by have h1_ := u8_bd (bs.getD ((p + 1 - 1) % bs.length) 0); have h2_ := u8_bd (bs.getD (((p + 1 - 1) * 7 + 3) % bs.length) 0); have h3_ := div_bd (p + 1 - 1) bs.length; omega) (by have h1_ := u8_bd (bs.getD ((p + 1 - 1) % bs.length) 0); have h2_ := u8_bd (bs.getD (((p + 1 - 1) * 7 + 3) % bs.length) 0); have h3_ := div_bd (p + 1 - 1) bs.length; omega)) ?_
        refine q trivial rfl rfl (asg (v := .int .i64 ((((((((bs.getD (((p + 1) - 1) % bs.length) 0).toNat) * 131) + (((bs.getD (((((p + 1) - 1) * 7) + 3) % bs.length) 0).toNat) * 1117)) + (((p + 1) - 1) * 29)) + ((((p + 1) - 1) / bs.length) * 53)) ^^^ (((((((bs.getD (((p + 1) - 1) % bs.length) 0).toNat) * 131) + (((bs.getD (((((p + 1) - 1) * 7) + 3) % bs.length) 0).toNat) * 1117)) + (((p + 1) - 1) * 29)) + ((((p + 1) - 1) / bs.length) * 53)) / 64) : Nat) : Int)) rfl) ?_
        refine nl ?_
        refine nN ?_
        refine sq ?_
        refine rg ?_
        refine q trivial rfl rfl (mv (v := .int .i64 ((((((((bs.getD (((p + 1) - 1) % bs.length) 0).toNat) * 131) + (((bs.getD (((((p + 1) - 1) * 7) + 3) % bs.length) 0).toNat) * 1117)) + (((p + 1) - 1) * 29)) + ((((p + 1) - 1) / bs.length) * 53)) ^^^ (((((((bs.getD (((p + 1) - 1) % bs.length) 0).toNat) * 131) + (((bs.getD (((((p + 1) - 1) * 7) + 3) % bs.length) 0).toNat) * 1117)) + (((p + 1) - 1) * 29)) + ((((p + 1) - 1) / bs.length) * 53)) / 64) : Nat) : Int)) rfl) ?_
        refine q trivial rfl rfl (mv (v := .int .i64 n) rfl) ?_
        refine q trivial rfl rfl (rem (a := ((((((((bs.getD (((p + 1) - 1) % bs.length) 0).toNat) * 131) + (((bs.getD (((((p + 1) - 1) * 7) + 3) % bs.length) 0).toNat) * 1117)) + (((p + 1) - 1) * 29)) + ((((p + 1) - 1) / bs.length) * 53)) ^^^ (((((((bs.getD (((p + 1) - 1) % bs.length) 0).toNat) * 131) + (((bs.getD (((((p + 1) - 1) * 7) + 3) % bs.length) 0).toNat) * 1117)) + (((p + 1) - 1) * 29)) + ((((p + 1) - 1) / bs.length) * 53)) / 64) : Nat) : Int)) (b := n) rfl rfl (by have h1_ := u8_bd (bs.getD ((p + 1 - 1) % bs.length) 0); have h2_ := u8_bd (bs.getD (((p + 1 - 1) * 7 + 3) % bs.length) 0); have h3_ := div_bd (p + 1 - 1) bs.length; omega) (by omega)) ?_
        refine q trivial rfl rfl (asg (v := .int .i64 (((((((((bs.getD (((p + 1) - 1) % bs.length) 0).toNat) * 131) + (((bs.getD (((((p + 1) - 1) * 7) + 3) % bs.length) 0).toNat) * 1117)) + (((p + 1) - 1) * 29)) + ((((p + 1) - 1) / bs.length) * 53)) ^^^ (((((((bs.getD (((p + 1) - 1) % bs.length) 0).toNat) * 131) + (((bs.getD (((((p + 1) - 1) * 7) + 3) % bs.length) 0).toNat) * 1117)) + (((p + 1) - 1) * 29)) + ((((p + 1) - 1) / bs.length) * 53)) / 64) : Nat) : Int) % n)) rfl) ?_
        refine nl ?_
        refine nN ?_
        refine rt ?_
        refine fret (v := .int .i64 (((((((((bs.getD (((p + 1) - 1) % bs.length) 0).toNat) * 131) + (((bs.getD (((((p + 1) - 1) * 7) + 3) % bs.length) 0).toNat) * 1117)) + (((p + 1) - 1) * 29)) + ((((p + 1) - 1) / bs.length) * 53)) ^^^ (((((((bs.getD (((p + 1) - 1) % bs.length) 0).toNat) * 131) + (((bs.getD (((((p + 1) - 1) * 7) + 3) % bs.length) 0).toNat) * 1117)) + (((p + 1) - 1) * 29)) + ((((p + 1) - 1) / bs.length) * 53)) / 64) : Nat) : Int) % n)) (.tmp .nil) rfl ?_
        exact ⟨((((((((bs.getD (((p + 1) - 1) % bs.length) 0).toNat) * 131) + (((bs.getD (((((p + 1) - 1) * 7) + 3) % bs.length) 0).toNat) * 1117)) + (((p + 1) - 1) * 29)) + ((((p + 1) - 1) / bs.length) * 53)) ^^^ (((((((bs.getD (((p + 1) - 1) % bs.length) 0).toNat) * 131) + (((bs.getD (((((p + 1) - 1) * 7) + 3) % bs.length) 0).toNat) * 1117)) + (((p + 1) - 1) * 29)) + ((((p + 1) - 1) / bs.length) * 53)) / 64) : Nat) : Int) % n, p + 1, rfl, (mod_pos (by omega)), (by omega), hs2⟩

theorem l6Open {Acs : Option Addr} {ccs : Nat} (cs : List UInt8) (w : World) (hcs : Sl w [] 1 Acs cs.length ccs (cs.map U)) : Does Try.prog 41 [.slice Acs cs.length ccs] w (fun v w' => ∃ gr : Nat, v = .pointer (some ⟨gr, 0, none⟩) ∧ SH w w' [] [.blk gr 60 [.slice Acs ((cs.take 2000).length) ccs, .int .i64 0]]) := by
  refine fn_enter (N := 11) Try.func41 rfl (by kernel_rfl) rfl rfl rfl ?_
  have hs0 : SH w w [] [] := SH.refl w []
  have hcs_m : cs.length ≤ 9223372036854775807 := Nat.le_trans hcs.cap hcs.capMax
  refine sq ?_
  refine rg ?_
  refine q trivial rfl rfl (asg (v := .pointer none) rfl) ?_
  refine nl ?_
  refine nN ?_
  refine sq ?_
  refine sq ?_
  refine rg ?_
  refine q trivial rfl rfl (mv (v := .slice Acs cs.length ccs) rfl) ?_
  refine q trivial rfl rfl (lnA (n := cs.length) sl22 rfl) ?_
  refine q trivial rfl rfl (gtr (k := .i64) (a := ((cs.length : Nat) : Int)) (b := 2000) rfl rfl) ?_
  refine nl ?_
  refine nN ?_
  refine cdd (p := (2000 : Int) < ((cs.length : Nat) : Int)) rfl (fun h1 => ?_) (fun h1 => ?_)
  · refine rg ?_
    refine q trivial rfl rfl (mv (v := .slice Acs cs.length ccs) rfl) ?_
    refine q trivial rfl rfl (cuhm_ (zs := cs) 2000 sl22 rfl rfl (by first | omega | (simp; omega)) hcs.cap) ?_
    refine q trivial rfl rfl (asg (v := .slice Acs ((cs.take 2000).length) ccs) rfl) ?_
    refine nl ?_
    refine nN ?_
    refine sq ?_
    refine rg ?_
    refine q trivial rfl rfl (mv (v := .slice Acs ((cs.take 2000).length) ccs) rfl) ?_
    refine q trivial rfl rfl (bdv (v := .agg #[.slice Acs ((cs.take 2000).length) ccs, .int .i64 0]) [(0, .slice Acs ((cs.take 2000).length) ccs)] rfl (fun _ => by kernel_rfl)) ?_
    refine bx (v := .agg #[.slice Acs ((cs.take 2000).length) ccs, .int .i64 0]) (cs := [.slice Acs ((cs.take 2000).length) ccs, .int .i64 0]) hs0 rfl rfl trivial rfl (fun b1 w1 (hs1 : SH w w1 [] [.blk b1 60 [.slice Acs ((cs.take 2000).length) ccs, .int .i64 0]]) => ?_)
    refine q trivial rfl rfl (asg (v := .pointer (some ⟨b1, 0, none⟩)) rfl) ?_
    refine nl ?_
    refine nN ?_
    refine rt ?_
    refine fret (v := .pointer (some ⟨b1, 0, none⟩)) (.tmp .nil) rfl ?_
    exact ⟨b1, rfl, hs1⟩
  · refine sk ?_
    refine nN ?_
    refine sq ?_
    refine rg ?_
    refine q trivial rfl rfl (mv (v := .slice Acs cs.length ccs) rfl) ?_
    refine q trivial rfl rfl (bdv (v := .agg #[.slice Acs cs.length ccs, .int .i64 0]) [(0, .slice Acs cs.length ccs)] rfl (fun _ => by kernel_rfl)) ?_
    refine bx (v := .agg #[.slice Acs cs.length ccs, .int .i64 0]) (cs := [.slice Acs cs.length ccs, .int .i64 0]) hs0 rfl rfl trivial rfl (fun b2 w2 (hs2 : SH w w2 [] [.blk b2 60 [.slice Acs cs.length ccs, .int .i64 0]]) => ?_)
    refine q trivial rfl rfl (asg (v := .pointer (some ⟨b2, 0, none⟩)) rfl) ?_
    refine nl ?_
    refine nN ?_
    refine rt ?_
    refine fret (v := .pointer (some ⟨b2, 0, none⟩)) (.tmp .nil) rfl ?_
    have e1 : cs.length = (cs.take 2000).length := by rw [List.take_of_length_le (by omega)]
    exact ⟨b2, rfl, (hs2.cast (lc (congrArg (It.blk b2 60) (lc (slv rfl e1 rfl) (lc rfl rfl))) rfl))⟩

theorem l91Bytes {rb : Nat} {Ab : Option Addr} {cb : Nat} {bs : List UInt8} {p : Nat} (n : Int) (w : World) (hr : w.heap[rb]? = some (.cells [.slice Ab bs.length cb, .int .i64 ((p : Nat) : Int)].toArray 60 (0, 0))) (hb : Sl w [rb] 1 Ab bs.length cb (bs.map U)) (hbn : bs.length ≤ 2000) (hp : p ≤ 549755813888) (hn : 0 ≤ n ∧ n ≤ 100000) : Does Try.prog 49 [.pointer (some ⟨rb, 0, none⟩), .int .i64 n] w (fun v w' => ∃ Ar : Option Addr, ∃ cr : Nat, ∃ r : List Int, ∃ q : Nat, v = .slice Ar r.length cr ∧ (((r.length : Nat) : Int) ≤ n) ∧ (q ≤ p + 5 + 4 * n.toNat) ∧ SH w w' [rb] [.blk rb 60 [.slice Ab bs.length cb, .int .i64 ((q : Nat) : Int)], .own Ar r.length cr 3 1 (r.map I)]) := by
  refine fn_enter (N := 48) Try.func49 rfl (by kernel_rfl) rfl rfl rfl ?_
  have hs0 : SH w w [rb] [.blk rb 60 [.slice Ab bs.length cb, .int .i64 ((p : Nat) : Int)]] := SH.entry1 hr
  refine sq ?_
  refine rg ?_
  refine q trivial rfl rfl (asg (v := .slice none 0 0) rfl) ?_
  refine nl ?_
  refine nN ?_
  refine sq ?_
  refine rg ?_
  refine Go.PF.bs hs0 sl23 [] rfl (cs := []) (by kernel_rfl) rfl (by decide) (by decide) trivial rfl (fun b1 w1 (hs1 : SH w w1 [rb] [.blk rb 60 [.slice Ab bs.length cb, .int .i64 ((p : Nat) : Int)], .own (some ⟨b1, 0, none⟩) (([] : List Int).length) 0 3 1 (([] : List Int).map I)]) => ?_)
  refine q trivial rfl rfl (asg (v := .slice (some ⟨b1, 0, none⟩) (([] : List Int).length) 0) rfl) ?_
  refine nl ?_
  refine nN ?_
  refine sq ?_
  refine rg ?_
  refine q trivial rfl rfl (mv (v := .pointer (some ⟨rb, 0, none⟩)) rfl) ?_
  refine q trivial rfl rfl (mv (v := .int .i64 n) rfl) ?_
  refine q trivial rfl rfl (add (a := n) (b := 1) rfl rfl (by exact ⟨by omega, by omega⟩)) ?_
  refine cl trivial rfl (pick (rb := rb) (Ab := Ab) (cb := cb) (bs := bs) (p := p) (n := n + 1) (w := _) (hr := (blk_heap hs1 0 rfl)) (hb := (hb.up hs1 (fun _ h => h) (fun _ h => .inl h))) (hbn := (by first | assumption | (simp; omega))) (hp := (by omega))) ?_
  rintro _ w2 ⟨r1, q1, rfl, p1, p2, hs2'⟩
  have hs2 : SH w w2 [rb] [.own (some ⟨b1, 0, none⟩) (([] : List Int).length) 0 3 1 (([] : List Int).map I), .blk rb 60 [.slice Ab bs.length cb, .int .i64 ((q1 : Nat) : Int)]] := hs1.callM 0 rfl hs2' (by intro k hk; simp at hk; exact hk.symm)
  clear hs2'
  refine q trivial rfl rfl (asg (v := .int .i64 r1) rfl) ?_
  refine nl ?_
  refine nN ?_
  refine sq ?_
  refine sq ?_
  refine rg ?_
  refine q trivial rfl rfl (asg (v := .int .i64 0) rfl) ?_
  refine nl ?_
  refine nN ?_
  refine bl ?_
  refine lp (σ := (Option Addr) × Nat × Nat × Nat × (List Int)) (fun ⟨Ag5, cg5, q0, k, zs⟩ f w' => Has f [(0, .pointer (some ⟨rb, 0, none⟩)), (5, .slice Ag5 zs.length cg5), (6, .int .i64 r1), (7, .int .i64 ((k : Nat) : Int))] ∧ (((k : Nat) : Int) ≤ r1) ∧ (zs.length = k) ∧ (q0 ≤ p + 1 + 3 * k) ∧ SH w w' [rb] [.own Ag5 zs.length cg5 3 1 (zs.map I), .blk rb 60 [.slice Ab bs.length cb, .int .i64 ((q0 : Nat) : Int)]]) (fun ⟨Ag5, cg5, q0, k, zs⟩ => (r1 - k).toNat) ((some ⟨b1, 0, none⟩), 0, q1, 0, ([] : List Int)) ⟨⟨rfl, rfl, rfl, rfl, trivial⟩, (by omega), (rfl), (by omega), hs2⟩ ?_
  rintro ⟨Ag5, cg5, q0, k, zs⟩ f w3 ⟨hf, hk, hz, hq, hs3⟩
  obtain ⟨g1, rfl⟩ := has_upd hf
  clear hf
  refine sq ?_
  refine sq ?_
  refine rg ?_
  refine q trivial rfl rfl (mv (v := .int .i64 ((k : Nat) : Int)) rfl) ?_
  refine q trivial rfl rfl (mv (v := .int .i64 r1) rfl) ?_
  refine q trivial rfl rfl (lss (k := .i64) (a := ((k : Nat) : Int)) (b := r1) rfl rfl) ?_
  refine nl ?_
  refine nN ?_
  refine cdd (p := ((k : Nat) : Int) < r1) rfl (fun h1 => ?_) (fun h1 => ?_)
  · refine sk ?_
    refine nN ?_
    refine sq ?_
    refine bl ?_
    refine rg ?_
    refine q trivial rfl rfl (mv (v := .slice Ag5 zs.length cg5) rfl) ?_
    refine q trivial rfl rfl (mv (v := .pointer (some ⟨rb, 0, none⟩)) rfl) ?_
    refine cl trivial rfl (pick (rb := rb) (Ab := Ab) (cb := cb) (bs := bs) (p := q0) (n := 6) (w := _) (hr := (blk_heap hs3 1 rfl)) (hb := (hb.up hs3 (fun _ h => h) (fun _ h => .inl h))) (hbn := (by first | assumption | (simp; omega))) (hp := (by omega))) ?_
    rintro _ w4 ⟨r2, q2, rfl, p3, p4, hs4'⟩
    have hs4 : SH w w4 [rb] [.own Ag5 zs.length cg5 3 1 (zs.map I), .blk rb 60 [.slice Ab bs.length cb, .int .i64 ((q2 : Nat) : Int)]] := hs3.callM 1 rfl hs4' (by intro k hk; simp at hk; exact hk.symm)
    clear hs4'
    refine q trivial rfl rfl (mv (v := .pointer (some ⟨rb, 0, none⟩)) rfl) ?_
    refine cl trivial rfl (pick (rb := rb) (Ab := Ab) (cb := cb) (bs := bs) (p := q2) (n := 256) (w := _) (hr := (blk_heap hs4 1 rfl)) (hb := (hb.up hs4 (fun _ h => h) (fun _ h => .inl h))) (hbn := (by first | assumption | (simp; omega))) (hp := (by omega))) ?_
    rintro _ w5 ⟨r3, q3, rfl, p5, p6, hs5'⟩
    have hs5 : SH w w5 [rb] [.own Ag5 zs.length cg5 3 1 (zs.map I), .blk rb 60 [.slice Ab bs.length cb, .int .i64 ((q3 : Nat) : Int)]] := hs4.callM 1 rfl hs5' (by intro k hk; simp at hk; exact hk.symm)
    clear hs5'
    refine Go.PF.bs hs5 sl23 [(0, .int .i64 r2), (1, .int .i64 r3)] rfl (cs := [.int .i64 r2, .int .i64 r3]) (by kernel_rfl) rfl (by decide) (by decide) trivial rfl (fun b2 w6 (hs6 : SH w w6 [rb] [.own Ag5 zs.length cg5 3 1 (zs.map I), .blk rb 60 [.slice Ab bs.length cb, .int .i64 ((q3 : Nat) : Int)], .own (some ⟨b2, 0, none⟩) ([r2, r3].length) 2 3 1 ([r2, r3].map I)]) => ?_)
    refine q trivial rfl rfl (mv (v := .pointer (some ⟨rb, 0, none⟩)) rfl) ?_
    refine cl trivial rfl (pick (rb := rb) (Ab := Ab) (cb := cb) (bs := bs) (p := q3) (n := 2) (w := _) (hr := (blk_heap hs6 1 rfl)) (hb := (hb.up hs6 (fun _ h => h) (fun _ h => .inl h))) (hbn := (by first | assumption | (simp; omega))) (hp := (by omega))) ?_
    rintro _ w7 ⟨r4, q4, rfl, p7, p8, hs7'⟩
    have hs7 : SH w w7 [rb] [.own Ag5 zs.length cg5 3 1 (zs.map I), .own (some ⟨b2, 0, none⟩) ([r2, r3].length) 2 3 1 ([r2, r3].map I), .blk rb 60 [.slice Ab bs.length cb, .int .i64 ((q4 : Nat) : Int)]] := hs6.callM 1 rfl hs7' (by intro k hk; simp at hk; exact hk.symm)
    clear hs7'
    refine q trivial rfl rfl (ixo r4.toNat sl23 rfl (ieq (x := r4) (by omega)) (by first | omega | (simp; omega))) ?_
    refine q trivial rfl rfl (ldo1n (g := I) (ys := [r2, r3]) (o := r4.toNat) 0 hs7 1 rfl rfl (by first | omega | (simp; omega)) one3) ?_
    refine Go.PF.bs hs7 sl23 [(0, .int .i64 ([r2, r3].getD r4.toNat 0))] rfl (cs := [.int .i64 ([r2, r3].getD r4.toNat 0)]) (by kernel_rfl) rfl (by decide) (by decide) trivial rfl (fun b3 w8 (hs8 : SH w w8 [rb] [.own Ag5 zs.length cg5 3 1 (zs.map I), .own (some ⟨b2, 0, none⟩) ([r2, r3].length) 2 3 1 ([r2, r3].map I), .blk rb 60 [.slice Ab bs.length cb, .int .i64 ((q4 : Nat) : Int)], .own (some ⟨b3, 0, none⟩) ([[r2, r3].getD r4.toNat 0].length) 1 3 1 ([[r2, r3].getD r4.toNat 0].map I)]) => ?_)
    refine apm (g := I) (ys := zs) (zs := [[r2, r3].getD r4.toNat 0]) hs8 0 rfl sl23 rfl rfl rfl (hs8.sl0 3 rfl) (fun _ => rfl) (by unfold maxLen; first | omega | (simp; omega)) (by first | omega | (simp; omega)) trivial rfl (fun A1 c1 w9 (hs9 : SH w w9 [rb] [.own (some ⟨b2, 0, none⟩) ([r2, r3].length) 2 3 1 ([r2, r3].map I), .blk rb 60 [.slice Ab bs.length cb, .int .i64 ((q4 : Nat) : Int)], .own (some ⟨b3, 0, none⟩) ([[r2, r3].getD r4.toNat 0].length) 1 3 1 ([[r2, r3].getD r4.toNat 0].map I), .own A1 ((zs ++ [[r2, r3].getD r4.toNat 0]).length) c1 3 1 ((zs ++ [[r2, r3].getD r4.toNat 0]).map I)]) => ?_)
    refine q trivial rfl rfl (asg (v := .slice A1 ((zs ++ [[r2, r3].getD r4.toNat 0]).length) c1) rfl) ?_
    refine nl ?_
    refine bN ?_
    refine nN ?_
    have hs10 : SH w w9 [rb] [.blk rb 60 [.slice Ab bs.length cb, .int .i64 ((q4 : Nat) : Int)], .own A1 ((zs ++ [[r2, r3].getD r4.toNat 0]).length) c1 3 1 ((zs ++ [[r2, r3].getD r4.toNat 0]).map I)] := hs9.pick [1, 3] rfl (by decide)
    refine rg ?_
    refine q trivial rfl rfl (mv (v := .int .i64 ((k : Nat) : Int)) rfl) ?_
    refine q trivial rfl rfl (add (a := ((k : Nat) : Int)) (b := 1) rfl rfl (by exact ⟨by omega, by omega⟩)) ?_
    refine q trivial rfl rfl (asg (v := .int .i64 (((k : Nat) : Int) + 1)) rfl) ?_
    refine nl ?_
    refine nN ?_
    refine ⟨(A1, c1, q4, k + 1, (zs ++ [[r2, r3].getD r4.toNat 0])), ⟨⟨rfl, rfl, rfl, rfl, trivial⟩, (by omega), (by simp; omega), (by omega), (hs10.pick [1, 0] rfl (by decide))⟩, ?_⟩
    show (r1 - (k + 1)).toNat < (r1 - k).toNat
    omega
  · refine ex (tE (tE (bE ?_)))
    refine nN ?_
    refine sq ?_
    refine sq ?_
    refine rg ?_
    refine q trivial rfl rfl (mv (v := .int .i64 r1) rfl) ?_
    refine q trivial rfl rfl (gtr (k := .i64) (a := r1) (b := 0) rfl rfl) ?_
    refine q trivial rfl rfl (mv (v := .bool (decide ((0 : Int) < r1))) rfl) ?_
    refine spd (p := (0 : Int) < r1) 32 rfl (fun h2 => ?_) (fun h2 => ?_)
    · refine q ⟨_, rfl, rfl⟩ rfl rfl (mv (v := .pointer (some ⟨rb, 0, none⟩)) rfl) ?_
      refine cl ⟨_, rfl, rfl⟩ rfl (pick (rb := rb) (Ab := Ab) (cb := cb) (bs := bs) (p := q0) (n := 50) (w := _) (hr := (blk_heap hs3 1 rfl)) (hb := (hb.up hs3 (fun _ h => h) (fun _ h => .inl h))) (hbn := (by first | assumption | (simp; omega))) (hp := (by omega))) ?_
      rintro _ w10 ⟨r5, q5, rfl, p9, p10, hs11'⟩
      have hs11 : SH w w10 [rb] [.own Ag5 zs.length cg5 3 1 (zs.map I), .blk rb 60 [.slice Ab bs.length cb, .int .i64 ((q5 : Nat) : Int)]] := hs3.callM 1 rfl hs11' (by intro k hk; simp at hk; exact hk.symm)
      clear hs11'
      refine q ⟨_, rfl, rfl⟩ rfl rfl (eqi (k := .i64) (a := r5) (b := 0) rfl rfl) ?_
      refine q trivial rfl rfl (pt (v := .bool (decide (r5 = 0))) rfl rfl) ?_
      refine nl ?_
      refine nN ?_
      refine cdd (p := r5 = 0) rfl (fun h3 => ?_) (fun h3 => ?_)
      · refine rg ?_
        refine q trivial rfl rfl (mv (v := .slice Ag5 zs.length cg5) rfl) ?_
        refine q trivial rfl rfl (mv (v := .pointer (some ⟨rb, 0, none⟩)) rfl) ?_
        refine q trivial rfl rfl (mv (v := .int .i64 r1) rfl) ?_
        refine cl trivial rfl (pick (rb := rb) (Ab := Ab) (cb := cb) (bs := bs) (p := q5) (n := r1) (w := _) (hr := (blk_heap hs11 1 rfl)) (hb := (hb.up hs11 (fun _ h => h) (fun _ h => .inl h))) (hbn := (by first | assumption | (simp; omega))) (hp := (by omega))) ?_
        rintro _ w11 ⟨r6, q6, rfl, p11, p12, hs12'⟩
        have hs12 : SH w w11 [rb] [.own Ag5 zs.length cg5 3 1 (zs.map I), .blk rb 60 [.slice Ab bs.length cb, .int .i64 ((q6 : Nat) : Int)]] := hs11.callM 1 rfl hs12' (by intro k hk; simp at hk; exact hk.symm)
        clear hs12'
        refine Go.PF.bs hs12 sl23 [(0, .int .i64 (-1)), (1, .int .i64 256)] rfl (cs := [.int .i64 (-1), .int .i64 256]) (by kernel_rfl) rfl (by decide) (by decide) trivial rfl (fun b4 w12 (hs13 : SH w w12 [rb] [.own Ag5 zs.length cg5 3 1 (zs.map I), .blk rb 60 [.slice Ab bs.length cb, .int .i64 ((q6 : Nat) : Int)], .own (some ⟨b4, 0, none⟩) ([(-1), 256].length) 2 3 1 ([(-1), 256].map I)]) => ?_)
        refine q trivial rfl rfl (mv (v := .pointer (some ⟨rb, 0, none⟩)) rfl) ?_
        refine cl trivial rfl (pick (rb := rb) (Ab := Ab) (cb := cb) (bs := bs) (p := q6) (n := 2) (w := _) (hr := (blk_heap hs13 1 rfl)) (hb := (hb.up hs13 (fun _ h => h) (fun _ h => .inl h))) (hbn := (by first | assumption | (simp; omega))) (hp := (by omega))) ?_
        rintro _ w13 ⟨r7, q7, rfl, p13, p14, hs14'⟩
        have hs14 : SH w w13 [rb] [.own Ag5 zs.length cg5 3 1 (zs.map I), .own (some ⟨b4, 0, none⟩) ([(-1), 256].length) 2 3 1 ([(-1), 256].map I), .blk rb 60 [.slice Ab bs.length cb, .int .i64 ((q7 : Nat) : Int)]] := hs13.callM 1 rfl hs14' (by intro k hk; simp at hk; exact hk.symm)
        clear hs14'
        refine q trivial rfl rfl (ixo r7.toNat sl23 rfl (ieq (x := r7) (by omega)) (by first | omega | (simp; omega))) ?_
        refine q trivial rfl rfl (ldo1n (g := I) (ys := [(-1), 256]) (o := r7.toNat) 0 hs14 1 rfl rfl (by first | omega | (simp; omega)) one3) ?_
        obtain ⟨b5, rfl⟩ := own_form hs14 0 rfl (by first | omega | (simp; omega))
        refine q trivial rfl rfl (ixo r6.toNat sl23 rfl (ieq (x := r6) (by omega)) (by first | omega | (simp; omega))) ?_
        refine stomn (g := I) (ys := zs) (o := r6.toNat) (u := [(-1), 256].getD r7.toNat 0) hs14 0 rfl rfl rfl rfl (by omega) rfl one3 trivial (fun w14 (hs15 : SH w w14 [rb] [.own (some ⟨b4, 0, none⟩) ([(-1), 256].length) 2 3 1 ([(-1), 256].map I), .blk rb 60 [.slice Ab bs.length cb, .int .i64 ((q7 : Nat) : Int)], .own (some ⟨b5, 0, none⟩) zs.length cg5 3 1 ((zs.set r6.toNat ([(-1), 256].getD r7.toNat 0)).map I)]) => ?_)
        refine nl ?_
        refine nN ?_
        refine sq ?_
        refine rg ?_
        refine q trivial rfl rfl (mv (v := .slice (some ⟨b5, 0, none⟩) zs.length cg5) rfl) ?_
        refine q trivial rfl rfl (asg (v := .slice (some ⟨b5, 0, none⟩) zs.length cg5) rfl) ?_
        refine nl ?_
        refine nN ?_
        refine rt ?_
        refine fret (v := .slice (some ⟨b5, 0, none⟩) zs.length cg5) (.tmp .nil) rfl ?_
        have e1 : zs.length = (zs.set r6.toNat ([(-1), 256].getD r7.toNat 0)).length := by first | rfl | (simp; done) | (simp; omega) | omega
        exact ⟨(some ⟨b5, 0, none⟩), cg5, zs.set r6.toNat ([(-1), 256].getD r7.toNat 0), q7, (slv rfl e1 rfl), (by (try simp); omega), (by omega), ((hs15.pick [1, 2] rfl (by decide)).cast (lc rfl (lc (own_eq (g := I) rfl e1 rfl rfl) rfl)))⟩
      · refine sk ?_
        refine nN ?_
        refine sq ?_
        refine rg ?_
        refine q trivial rfl rfl (mv (v := .slice Ag5 zs.length cg5) rfl) ?_
        refine q trivial rfl rfl (asg (v := .slice Ag5 zs.length cg5) rfl) ?_
        refine nl ?_
        refine nN ?_
        refine rt ?_
        refine fret (v := .slice Ag5 zs.length cg5) (.tmp .nil) rfl ?_
        exact ⟨Ag5, cg5, zs, q5, rfl, (by (try simp); omega), (by omega), (hs11.pick [1, 0] rfl (by decide))⟩
    · refine gk false rfl rfl rfl rfl rfl ?_
      refine gk false rfl rfl rfl rfl rfl ?_
      refine gk false rfl rfl rfl rfl rfl ?_
      refine q trivial rfl rfl (pf (v := .bool false) rfl rfl) ?_
      refine nl ?_
      refine nN ?_
      refine cdf rfl ?_
      refine sk ?_
      refine nN ?_
      refine sq ?_
      refine rg ?_
      refine q trivial rfl rfl (mv (v := .slice Ag5 zs.length cg5) rfl) ?_
      refine q trivial rfl rfl (asg (v := .slice Ag5 zs.length cg5) rfl) ?_
      refine nl ?_
      refine nN ?_
      refine rt ?_
      refine fret (v := .slice Ag5 zs.length cg5) (.tmp .nil) rfl ?_
      exact ⟨Ag5, cg5, zs, q0, rfl, (by (try simp); omega), (by omega), (hs3.pick [1, 0] rfl (by decide))⟩

theorem slClone {Axs : Option Addr} {cxs : Nat} (xs : List Int) (w : World) (hxs : Sl w [] 1 Axs xs.length cxs (xs.map I)) (hxs_n : xs.length ≤ 1099511627776) : Does Try.prog 48 [.slice Axs xs.length cxs] w (fun v w' => ∃ Ar : Option Addr, ∃ cr : Nat, v = .slice Ar xs.length cr ∧ SH w w' [] [.own Ar xs.length cr 3 1 (xs.map I)]) := by
  refine fn_enter (N := 8) Try.func48 rfl (by kernel_rfl) rfl rfl rfl ?_
  have hs0 : SH w w [] [] := SH.refl w []
  have hxs_m : xs.length ≤ 9223372036854775807 := Nat.le_trans hxs.cap hxs.capMax
  refine sq ?_
  refine rg ?_
  refine q trivial rfl rfl (asg (v := .slice none 0 0) rfl) ?_
  refine nl ?_
  refine nN ?_
  refine sq ?_
  refine sq ?_
  refine rg ?_
  refine q trivial rfl rfl (mv (v := .slice Axs xs.length cxs) rfl) ?_
  refine q trivial rfl rfl (slnil (A := Axs) sl23 rfl rfl) ?_
  refine nl ?_
  refine nN ?_
  refine cdd (p := Axs = none) rfl (fun h1 => ?_) (fun h1 => ?_)
  · refine sq ?_
    refine rg ?_
    refine q trivial rfl rfl (asg (v := .slice none 0 0) rfl) ?_
    refine nl ?_
    refine nN ?_
    refine rt (tR ?_)
    refine fret (v := .slice none 0 0) (.tmp .nil) rfl ?_
    have hs1 : SH w w [] [.own none (([] : List Int).length) 0 3 1 (([] : List Int).map I)] := SH.nils (by intro i hi; simp at hi; subst hi; exact nilItem) hs0
    have e1 : ([] : List Int) = xs := by first | rfl | exact (sl_none hxs (by assumption)).symm | simp
    have e2 : ([] : List Int).length = xs.length := by exact congrArg List.length e1
    exact ⟨none, 0, (slv rfl e2 rfl), (hs1.cast (lc (own_eq (g := I) rfl e2 rfl e1) rfl))⟩
  · refine sk ?_
    refine nN ?_
    refine sq ?_
    refine rg ?_
    refine Go.PF.bs hs0 sl23 [] rfl (cs := []) (by kernel_rfl) rfl (by decide) (by decide) trivial rfl (fun b1 w1 (hs2 : SH w w1 [] [.own (some ⟨b1, 0, none⟩) (([] : List Int).length) 0 3 1 (([] : List Int).map I)]) => ?_)
    refine q trivial rfl rfl (mv (v := .slice Axs xs.length cxs) rfl) ?_
    refine apm (g := I) (ys := ([] : List Int)) (zs := xs) hs2 0 rfl sl23 rfl rfl rfl (hxs.up0 hs2) (fun _ => rfl) (by unfold maxLen; first | omega | (simp; omega)) (by first | omega | (simp; omega)) trivial rfl (fun A1 c1 w2 (hs3 : SH w w2 [] [.own A1 xs.length c1 3 1 (xs.map I)]) => ?_)
    refine q trivial rfl rfl (asg (v := .slice A1 xs.length c1) rfl) ?_
    refine nl ?_
    refine nN ?_
    refine rt ?_
    refine fret (v := .slice A1 xs.length c1) (.tmp .nil) rfl ?_
    exact ⟨A1, c1, rfl, hs3⟩

theorem slGrow (n : Int) (w : World) (hn : 0 ≤ n ∧ n ≤ 1099511627776) : Does Try.prog 53 [.slice none 0 0, .int .i64 n] w (fun v w' => ∃ Ar : Option Addr, ∃ cr : Nat, v = .slice Ar ([] : List Int).length cr ∧ SH w w' [] [.own Ar (([] : List Int).length) cr 3 1 (([] : List Int).map I)]) := by
  refine fn_enter (N := 27) Try.func53 rfl (by kernel_rfl) rfl rfl rfl ?_
  have hs0 : SH w w [] [] := SH.refl w []
  refine sq ?_
  refine rg ?_
  refine q trivial rfl rfl (asg (v := .slice none 0 0) rfl) ?_
  refine nl ?_
  refine nN ?_
  refine sq ?_
  refine sq ?_
  refine rg ?_
  refine q trivial rfl rfl (mv (v := .int .i64 n) rfl) ?_
  refine q trivial rfl rfl (lss (k := .i64) (a := n) (b := 0) rfl rfl) ?_
  refine nl ?_
  refine nN ?_
  refine cdd (p := n < 0) rfl (fun h1 => absurd h1 (by omega)) (fun h1 => ?_)
  refine sk ?_
  refine nN ?_
  refine sq ?_
  refine sq ?_
  refine rg ?_
  refine q trivial rfl rfl (mv (v := .int .i64 n) rfl) ?_
  refine q trivial rfl rfl (mv (v := .slice none 0 0) rfl) ?_
  refine q trivial rfl rfl (lnC (c := 0) sl23 rfl) ?_
  refine q trivial rfl rfl (mv (v := .slice none 0 0) rfl) ?_
  refine q trivial rfl rfl (lnA (n := 0) sl23 rfl) ?_
  refine q trivial rfl rfl (sub (a := 0) (b := 0) rfl rfl (by exact ⟨by omega, by omega⟩)) ?_
  refine q trivial rfl rfl (sub (a := n) (b := (0 : Int) - 0) rfl rfl (by exact ⟨by omega, by omega⟩)) ?_
  refine q trivial rfl rfl (asg (v := .int .i64 (n - ((0 : Int) - 0))) rfl) ?_
  refine nl ?_
  refine nN ?_
  refine sq ?_
  refine rg ?_
  refine q trivial rfl rfl (mv (v := .int .i64 (n - ((0 : Int) - 0))) rfl) ?_
  refine q trivial rfl rfl (gtr (k := .i64) (a := n - ((0 : Int) - 0)) (b := 0) rfl rfl) ?_
  refine nl ?_
  refine nN ?_
  refine cdd (p := (0 : Int) < (n - ((0 : Int) - 0))) rfl (fun h2 => ?_) (fun h2 => ?_)
  · refine rg ?_
    refine q trivial rfl rfl (mv (v := .slice none 0 0) rfl) ?_
    refine q trivial rfl rfl (mv (v := .slice none 0 0) rfl) ?_
    refine q trivial rfl rfl (lnC (c := 0) sl23 rfl) ?_
    refine q trivial rfl rfl (cun sl23 rfl rfl) ?_
    refine q trivial rfl rfl (mv (v := .int .i64 (n - ((0 : Int) - 0))) rfl) ?_
    refine apz (g := I) (zz := 0) (m := (n - ((0 : Int) - 0)).toNat) hs0 sl23 rfl ti3 rfl (ieq (x := n - ((0 : Int) - 0)) (by omega)) (by omega) (by unfold maxLen; omega) (by omega) trivial rfl (fun A1 c1 w1 (hs1 : SH w w1 [] [.own A1 ((List.replicate ((n - ((0 : Int) - 0)).toNat) (0 : Int)).length) c1 3 1 ((List.replicate ((n - ((0 : Int) - 0)).toNat) (0 : Int)).map I)]) => ?_)
    refine q trivial rfl rfl (mv (v := .slice none 0 0) rfl) ?_
    refine q trivial rfl rfl (lnA (n := 0) sl23 rfl) ?_
    have e1 : ((List.replicate ((n - ((0 : Int) - 0)).toNat) (0 : Int)).map I).take (0 * 1) = ((List.replicate ((n - ((0 : Int) - 0)).toNat) (0 : Int)).take 0).map I := by first | rfl | simp [List.map_take]
    have hs2 : SH w w1 [] [.own A1 0 c1 3 1 (((List.replicate ((n - ((0 : Int) - 0)).toNat) (0 : Int)).take 0).map I)] := e1 ▸ SH.trunc hs1 0 (0) rfl (by first | omega | (simp; omega))
    refine q trivial rfl rfl (cuh 0 sl23 rfl rfl (Nat.le_trans (by first | omega | (simp; omega)) (own_cap hs1 0 rfl).1)) ?_
    refine q trivial rfl rfl (asg (v := .slice A1 0 c1) rfl) ?_
    refine nl ?_
    refine nN ?_
    refine sq ?_
    refine rg ?_
    refine q trivial rfl rfl (mv (v := .slice A1 0 c1) rfl) ?_
    refine q trivial rfl rfl (asg (v := .slice A1 0 c1) rfl) ?_
    refine nl ?_
    refine nN ?_
    refine rt ?_
    refine fret (v := .slice A1 0 c1) (.tmp .nil) rfl ?_
    have e2 : (List.replicate ((n - ((0 : Int) - 0)).toNat) (0 : Int)).take 0 = ([] : List Int) := by first | rfl | simp
    have e3 : 0 = ([] : List Int).length := by exact (show 0 = ((List.replicate ((n - ((0 : Int) - 0)).toNat) (0 : Int)).take 0).length by first | rfl | (simp; done) | (simp; omega) | omega).trans (congrArg List.length e2)
    exact ⟨A1, c1, (slv rfl e3 rfl), (hs2.cast (lc (own_eq (g := I) rfl e3 rfl e2) rfl))⟩
  · refine sk ?_
    refine nN ?_
    refine sq ?_
    refine rg ?_
    refine q trivial rfl rfl (mv (v := .slice none 0 0) rfl) ?_
    refine q trivial rfl rfl (asg (v := .slice none 0 0) rfl) ?_
    refine nl ?_
    refine nN ?_
    refine rt ?_
    refine fret (v := .slice none 0 0) (.tmp .nil) rfl ?_
    have hs3 : SH w w [] [.own none (([] : List Int).length) 0 3 1 (([] : List Int).map I)] := SH.nils (by intro i hi; simp at hi; subst hi; exact nilItem) hs0
    exact ⟨none, 0, rfl, hs3⟩

theorem slConcat {Ahs : Option Addr} {chs : Nat} (hs : List Hd) (w : World) (hhs : Sl w [] 1 Ahs hs.length chs (hs.map hv)) (hhs_in : ∀ u ∈ hs, HdOk w [] u) (hct : (catH hs).length ≤ 1099511627776) : Does Try.prog 50 [.slice Ahs hs.length chs] w (fun v w' => ∃ Ar : Option Addr, ∃ cr : Nat, v = .slice Ar (catH hs).length cr ∧ SH w w' [] [.own Ar ((catH hs).length) cr 3 1 ((catH hs).map I)]) := by
  refine fn_enter (N := 36) Try.func50 rfl (by kernel_rfl) rfl rfl rfl ?_
  have hs0 : SH w w [] [] := SH.refl w []
  have hhs_m : hs.length ≤ 9223372036854775807 := Nat.le_trans hhs.cap hhs.capMax
  refine sq ?_
  refine rg ?_
  refine q trivial rfl rfl (asg (v := .slice none 0 0) rfl) ?_
  refine nl ?_
  refine nN ?_
  refine sq ?_
  refine rg ?_
  refine q trivial rfl rfl (asg (v := .int .i64 0) rfl) ?_
  refine nl ?_
  refine nN ?_
  refine sq ?_
  refine sq ?_
  refine rg ?_
  refine q trivial rfl rfl (mv (v := .slice Ahs hs.length chs) rfl) ?_
  refine q trivial rfl rfl (lnA (n := hs.length) sl63 rfl) ?_
  refine q trivial rfl rfl (mv (v := .int .i64 0) rfl) ?_
  refine nl ?_
  refine nN ?_
  refine bl ?_
  refine lp (σ := Nat) (fun (k : Nat) f w' => Has f [(0, .slice Ahs hs.length chs), (3, .int .i64 ((catH (hs.take k)).length : Int)), (9, .slice Ahs hs.length chs), (10, .int .i64 ((hs.length : Nat) : Int)), (11, .int .i64 ((k : Nat) : Int))] ∧ (k ≤ hs.length) ∧ SH w w' [] []) (fun k => hs.length - k) 0 ⟨⟨rfl, (show (.int .i64 0 : Value) = .int .i64 ((catH (hs.take 0)).length : Int) from congrArg (Value.int .i64) (by simp [catH])), rfl, rfl, rfl, trivial⟩, (by simp), hs0⟩ ?_
  rintro k f w1 ⟨hf, hk, hs1⟩
  obtain ⟨g1, rfl⟩ := has_upd hf
  clear hf
  refine sq ?_
  refine rg ?_
  refine q trivial rfl rfl (lss (k := .i64) (a := ((k : Nat) : Int)) (b := ((hs.length : Nat) : Int)) rfl rfl) ?_
  refine nl ?_
  refine nN ?_
  refine sq ?_
  refine cdd (p := ((k : Nat) : Int) < ((hs.length : Nat) : Int)) rfl (fun h1 => ?_) (fun h1 => ?_)
  · refine sk ?_
    refine nN ?_
    refine sq ?_
    refine bl ?_
    refine sq ?_
    refine rg ?_
    refine ixw1 k sl63 rfl rfl hhs (by first | omega | (simp; omega)) (getm hv hd0 (by first | omega | (simp; omega))) trivial rfl (fun a1 ha1 => ?_)
    refine q trivial rfl rfl (lda (v := .slice ((hs.getD k hd0).A) (((hs.getD k hd0).xs).length) ((hs.getD k hd0).c)) hs1 ha1 (fun _ h => h) rfl rfl one23) ?_
    refine q trivial rfl rfl (asg (v := .slice ((hs.getD k hd0).A) (((hs.getD k hd0).xs).length) ((hs.getD k hd0).c)) rfl) ?_
    refine nl ?_
    refine nN ?_
    refine sq ?_
    refine rg ?_
    refine q trivial rfl rfl (mv (v := .int .i64 ((catH (hs.take k)).length : Int)) rfl) ?_
    refine q trivial rfl rfl (mv (v := .slice ((hs.getD k hd0).A) (((hs.getD k hd0).xs).length) ((hs.getD k hd0).c)) rfl) ?_
    refine q trivial rfl rfl (lnA (n := ((hs.getD k hd0).xs).length) sl23 rfl) ?_
    refine q trivial rfl rfl (add (a := ((catH (hs.take k)).length : Int)) (b := ((((hs.getD k hd0).xs).length : Nat) : Int)) rfl rfl (by have hq := catH_len (l := hs) (k := k + 1); rw [← catH_succ (by omega), List.length_append] at hq; exact ⟨by omega, by omega⟩)) ?_
    refine q trivial rfl rfl (asg (v := .int .i64 (((catH (hs.take k)).length : Int) + ((((hs.getD k hd0).xs).length : Nat) : Int))) rfl) ?_
    refine nl ?_
    refine nN ?_
    refine sq ?_
    refine rg ?_
    refine q trivial rfl rfl (mv (v := .int .i64 (((catH (hs.take k)).length : Int) + ((((hs.getD k hd0).xs).length : Nat) : Int))) rfl) ?_
    refine q trivial rfl rfl (lss (k := .i64) (a := ((catH (hs.take k)).length : Int) + ((((hs.getD k hd0).xs).length : Nat) : Int)) (b := 0) rfl rfl) ?_
    refine nl ?_
    refine nN ?_
    refine cdd (p := (((catH (hs.take k)).length : Int) + ((((hs.getD k hd0).xs).length : Nat) : Int)) < 0) rfl (fun h2 => absurd h2 (by omega)) (fun h2 => ?_)
    refine sk ?_
    refine bN ?_
    refine nN ?_
    refine rg ?_
    refine q trivial rfl rfl (add (a := ((k : Nat) : Int)) (b := 1) rfl rfl (by exact ⟨by omega, by omega⟩)) ?_
    refine q trivial rfl rfl (mv (v := .int .i64 (((k : Nat) : Int) + 1)) rfl) ?_
    refine nl ?_
    refine nN ?_
    refine ⟨(k + 1), ⟨⟨rfl, (show (.int .i64 (((catH (hs.take k)).length : Int) + ((((hs.getD k hd0).xs).length : Nat) : Int)) : Value) = .int .i64 ((catH (hs.take (k + 1))).length : Int) from congrArg (Value.int .i64) (by rw [← catH_succ (by omega)]; simp)), rfl, rfl, rfl, trivial⟩, (by omega), hs1⟩, ?_⟩
    omega
  · refine ex (tE (tE (bE ?_)))
    refine nN ?_
    refine sq ?_
    refine rg ?_
    refine q trivial rfl rfl (mv (v := .int .i64 ((catH (hs.take k)).length : Int)) rfl) ?_
    refine cl trivial rfl (slGrow (n := ((catH (hs.take k)).length : Int)) (w := _) (hn := (by have hq := catH_len (l := hs) (k := k); omega))) ?_
    rintro _ w2 ⟨A1, c1, rfl, hs2'⟩
    have hs2 : SH w w2 [] [.own A1 (([] : List Int).length) c1 3 1 (([] : List Int).map I)] := hs1.call0 hs2'
    clear hs2'
    refine q trivial rfl rfl (asg (v := .slice A1 (([] : List Int).length) c1) rfl) ?_
    refine nl ?_
    refine nN ?_
    refine sq ?_
    refine sq ?_
    refine rg ?_
    refine q trivial rfl rfl (mv (v := .slice Ahs hs.length chs) rfl) ?_
    refine q trivial rfl rfl (lnA (n := hs.length) sl63 rfl) ?_
    refine q trivial rfl rfl (mv (v := .int .i64 0) rfl) ?_
    refine nl ?_
    refine nN ?_
    refine bl ?_
    have e1 : ([] : List Int) = catH (hs.take 0) := by simp [catH]
    have e2 : ([] : List Int).length = (catH (hs.take 0)).length := by rw [e1]
    refine lp (σ := (Option Addr) × Nat × Nat) (fun ⟨Ag6, cg6, j⟩ f w' => Has f [(6, .slice Ag6 ((catH (hs.take j)).length) cg6), (25, .slice Ahs hs.length chs), (26, .int .i64 ((hs.length : Nat) : Int)), (27, .int .i64 ((j : Nat) : Int))] ∧ (j ≤ hs.length) ∧ SH w w' [] [.own Ag6 ((catH (hs.take j)).length) cg6 3 1 ((catH (hs.take j)).map I)]) (fun ⟨Ag6, cg6, j⟩ => hs.length - j) (A1, c1, 0) ⟨⟨(show (.slice A1 (([] : List Int).length) c1 : Value) = .slice A1 ((catH (hs.take 0)).length) c1 from slv rfl e2 rfl), rfl, rfl, rfl, trivial⟩, (by simp), (hs2.cast (lc (own_eq (g := I) rfl e2 rfl e1) rfl))⟩ ?_
    rintro ⟨Ag6, cg6, j⟩ f w3 ⟨hf, hj, hs3⟩
    obtain ⟨g2, rfl⟩ := has_upd hf
    clear hf
    refine sq ?_
    refine rg ?_
    refine q trivial rfl rfl (lss (k := .i64) (a := ((j : Nat) : Int)) (b := ((hs.length : Nat) : Int)) rfl rfl) ?_
    refine nl ?_
    refine nN ?_
    refine sq ?_
    refine cdd (p := ((j : Nat) : Int) < ((hs.length : Nat) : Int)) rfl (fun h3 => ?_) (fun h3 => ?_)
    · refine sk ?_
      refine nN ?_
      refine sq ?_
      refine bl ?_
      refine sq ?_
      refine rg ?_
      refine ixw1 j sl63 rfl rfl hhs (by first | omega | (simp; omega)) (getm hv hd0 (by first | omega | (simp; omega))) trivial rfl (fun a2 ha2 => ?_)
      refine q trivial rfl rfl (lda (v := .slice ((hs.getD j hd0).A) (((hs.getD j hd0).xs).length) ((hs.getD j hd0).c)) hs3 ha2 (fun _ h => h) rfl rfl one23) ?_
      refine q trivial rfl rfl (asg (v := .slice ((hs.getD j hd0).A) (((hs.getD j hd0).xs).length) ((hs.getD j hd0).c)) rfl) ?_
      refine nl ?_
      refine nN ?_
      refine rg ?_
      refine q trivial rfl rfl (mv (v := .slice Ag6 ((catH (hs.take j)).length) cg6) rfl) ?_
      refine q trivial rfl rfl (mv (v := .slice ((hs.getD j hd0).A) (((hs.getD j hd0).xs).length) ((hs.getD j hd0).c)) rfl) ?_
      refine apm (g := I) (ys := catH (hs.take j)) (zs := (hs.getD j hd0).xs) hs3 0 rfl sl23 rfl rfl rfl (Sl.up0 (hhs_in _ (getD_mem' (by first | omega | (simp; omega)))) hs3) (fun _ => rfl) (by unfold maxLen; have hq := catH_len (l := hs) (k := j + 1); rw [← catH_succ (by omega), List.length_append] at hq; omega) (by have hq := catH_len (l := hs) (k := j + 1); rw [← catH_succ (by omega), List.length_append] at hq; omega) trivial rfl (fun A2 c2 w4 (hs4 : SH w w4 [] [.own A2 (((catH (hs.take j)) ++ ((hs.getD j hd0).xs)).length) c2 3 1 (((catH (hs.take j)) ++ ((hs.getD j hd0).xs)).map I)]) => ?_)
      refine q trivial rfl rfl (asg (v := .slice A2 (((catH (hs.take j)) ++ ((hs.getD j hd0).xs)).length) c2) rfl) ?_
      refine nl ?_
      refine bN ?_
      refine nN ?_
      refine rg ?_
      refine q trivial rfl rfl (add (a := ((j : Nat) : Int)) (b := 1) rfl rfl (by exact ⟨by omega, by omega⟩)) ?_
      refine q trivial rfl rfl (mv (v := .int .i64 (((j : Nat) : Int) + 1)) rfl) ?_
      refine nl ?_
      refine nN ?_
      have e3 : (catH (hs.take j)) ++ ((hs.getD j hd0).xs) = catH (hs.take (j + 1)) := by exact catH_succ (by omega)
      have e4 : ((catH (hs.take j)) ++ ((hs.getD j hd0).xs)).length = (catH (hs.take (j + 1))).length := by rw [e3]
      refine ⟨(A2, c2, j + 1), ⟨⟨(show (.slice A2 (((catH (hs.take j)) ++ ((hs.getD j hd0).xs)).length) c2 : Value) = .slice A2 ((catH (hs.take (j + 1))).length) c2 from slv rfl e4 rfl), rfl, rfl, rfl, trivial⟩, (by omega), (hs4.cast (lc (own_eq (g := I) rfl e4 rfl e3) rfl))⟩, ?_⟩
      show hs.length - (j + 1) < hs.length - j
      omega
    · refine ex (tE (tE (bE ?_)))
      refine nN ?_
      refine sq ?_
      refine rg ?_
      refine q trivial rfl rfl (mv (v := .slice Ag6 ((catH (hs.take j)).length) cg6) rfl) ?_
      refine q trivial rfl rfl (asg (v := .slice Ag6 ((catH (hs.take j)).length) cg6) rfl) ?_
      refine nl ?_
      refine nN ?_
      refine rt ?_
      refine fret (v := .slice Ag6 ((catH (hs.take j)).length) cg6) (.tmp .nil) rfl ?_
      have e5 : catH (hs.take j) = catH hs := by have : j = hs.length := (by omega); subst this; simp
      have e6 : (catH (hs.take j)).length = (catH hs).length := by exact congrArg List.length e5
      exact ⟨Ag6, cg6, (slv rfl e6 rfl), (hs3.cast (lc (own_eq (g := I) rfl e6 rfl e5) rfl))⟩

theorem iPipeValid {Axs : Option Addr} {cxs : Nat} (xs : List Int) (ni : Int) (eb : Bool) (w : World) (hxs : Sl w [] 1 Axs xs.length cxs (xs.map I)) : Does Try.prog 17 [.agg #[.slice Axs xs.length cxs, .int .i64 ni, .bool eb]] w (fun v w' => v = .bool (pipeOk xs ni) ∧ SH w w' [] []) := by
  refine fn_enter (N := 20) Try.func17 rfl (by kernel_rfl) rfl rfl rfl ?_
  have hs0 : SH w w [] [] := SH.refl w []
  have hxs_m : xs.length ≤ 9223372036854775807 := Nat.le_trans hxs.cap hxs.capMax
  refine sq ?_
  refine rg ?_
  refine bx (v := .agg #[.slice Axs xs.length cxs, .int .i64 ni, .bool eb]) (cs := [.slice Axs xs.length cxs, .int .i64 ni, .bool eb]) hs0 rfl rfl trivial rfl (fun b1 w1 (hs1 : SH w w1 [] [.blk b1 25 [.slice Axs xs.length cxs, .int .i64 ni, .bool eb]]) => ?_)
  refine q trivial rfl rfl (asg (v := .bool false) rfl) ?_
  refine nl ?_
  refine nN ?_
  refine sq ?_
  refine rg ?_
  refine q trivial rfl rfl (fa 0 fo25_0 rfl) ?_
  refine q trivial rfl rfl (ld (v := .slice Axs xs.length cxs) hs1 0 rfl rfl rfl one23) ?_
  refine q trivial rfl rfl (lnA (n := xs.length) sl23 rfl) ?_
  refine q trivial rfl rfl (leq (k := .i64) (a := ((xs.length : Nat) : Int)) (b := 16) rfl rfl) ?_
  refine q trivial rfl rfl (mv (v := .bool (decide (((xs.length : Nat) : Int) ≤ 16))) rfl) ?_
  refine spd (p := ((xs.length : Nat) : Int) ≤ 16) 7 rfl (fun h1 => ?_) (fun h1 => ?_)
  · refine q ⟨_, rfl, rfl⟩ rfl rfl (fa 0 fo25_0 rfl) ?_
    refine q ⟨_, rfl, rfl⟩ rfl rfl (ld (v := .slice Axs xs.length cxs) hs1 0 rfl rfl rfl one23) ?_
    refine cl ⟨_, rfl, rfl⟩ rfl (iBytesValid (Azs := Axs) (czs := cxs) (zs := xs) (w := _) (hzs := (hxs.up0 hs1))) ?_
    rintro _ w2 ⟨rfl, hs2'⟩
    have hs2 : SH w w2 [] [.blk b1 25 [.slice Axs xs.length cxs, .int .i64 ni, .bool eb]] := hs1.call0 hs2'
    clear hs2'
    refine q trivial rfl rfl (pt (v := .bool (isBytes xs)) rfl rfl) ?_
    refine q trivial rfl rfl (mv (v := .bool (isBytes xs)) rfl) ?_
    refine spl (b := isBytes xs) 12 rfl (fun h2 => ?_) (fun h2 => ?_)
    · refine q ⟨_, rfl, rfl⟩ rfl rfl (fa 1 fo25_1 rfl) ?_
      refine q ⟨_, rfl, rfl⟩ rfl rfl (ld (v := .int .i64 ni) hs2 0 rfl rfl rfl one3) ?_
      refine q ⟨_, rfl, rfl⟩ rfl rfl (fa 0 fo25_0 rfl) ?_
      refine q ⟨_, rfl, rfl⟩ rfl rfl (ld (v := .slice Axs xs.length cxs) hs2 0 rfl rfl rfl one23) ?_
      refine q ⟨_, rfl, rfl⟩ rfl rfl (lnA (n := xs.length) sl23 rfl) ?_
      refine cl ⟨_, rfl, rfl⟩ rfl (iWithin (x := ni) (lo := ((xs.length : Nat) : Int)) (hi := 9999) (w := _)) ?_
      rintro _ w3 ⟨rfl, hs3'⟩
      have hs3 : SH w w3 [] [.blk b1 25 [.slice Axs xs.length cxs, .int .i64 ni, .bool eb]] := hs2.call0 hs3'
      clear hs3'
      refine q trivial rfl rfl (pt (v := .bool (decide (((xs.length : Nat) : Int) ≤ ni ∧ ni ≤ 9999))) rfl rfl) ?_
      refine q trivial rfl rfl (asg (v := .bool (decide (((xs.length : Nat) : Int) ≤ ni ∧ ni ≤ 9999))) rfl) ?_
      refine nl ?_
      refine nN ?_
      refine rt ?_
      refine fret (v := .bool (decide (((xs.length : Nat) : Int) ≤ ni ∧ ni ≤ 9999))) (.tmp .nil) rfl ?_
      have e1 : (decide (((xs.length : Nat) : Int) ≤ ni ∧ ni ≤ 9999)) = pipeOk xs ni := by simp [pipeOk, h1, h2] <;> omega
      exact ⟨(congrArg (Value.bool) e1), (hs3.pick [] rfl (by decide))⟩
    · refine gk false rfl rfl rfl rfl rfl ?_
      refine gk false rfl rfl rfl rfl rfl ?_
      refine gk false rfl rfl rfl rfl rfl ?_
      refine gk false rfl rfl rfl rfl rfl ?_
      refine gk false rfl rfl rfl rfl rfl ?_
      refine gk false rfl rfl rfl rfl rfl ?_
      refine q trivial rfl rfl (pf (v := .bool false) rfl rfl) ?_
      refine q trivial rfl rfl (asg (v := .bool false) rfl) ?_
      refine nl ?_
      refine nN ?_
      refine rt ?_
      refine fret (v := .bool false) (.tmp .nil) rfl ?_
      have e2 : false = pipeOk xs ni := by simp [pipeOk, h1, h2] <;> omega
      exact ⟨(congrArg (Value.bool) e2), (hs2.pick [] rfl (by decide))⟩
  · refine gk false rfl rfl rfl rfl rfl ?_
    refine gk false rfl rfl rfl rfl rfl ?_
    refine gk false rfl rfl rfl rfl rfl ?_
    refine q trivial rfl rfl (pf (v := .bool false) rfl rfl) ?_
    refine q trivial rfl rfl (mv (v := .bool false) rfl) ?_
    refine gk false rfl rfl rfl rfl rfl ?_
    refine gk false rfl rfl rfl rfl rfl ?_
    refine gk false rfl rfl rfl rfl rfl ?_
    refine gk false rfl rfl rfl rfl rfl ?_
    refine gk false rfl rfl rfl rfl rfl ?_
    refine gk false rfl rfl rfl rfl rfl ?_
    refine q trivial rfl rfl (pf (v := .bool false) rfl rfl) ?_
    refine q trivial rfl rfl (asg (v := .bool false) rfl) ?_
    refine nl ?_
    refine nN ?_
    refine rt ?_
    refine fret (v := .bool false) (.tmp .nil) rfl ?_
    have e3 : false = pipeOk xs ni := by simp [pipeOk, h1] <;> omega
    exact ⟨(congrArg (Value.bool) e3), (hs1.pick [] rfl (by decide))⟩

theorem sPipeValid {Axs : Option Addr} {cxs : Nat} (xs : List Int) (ni : Int) (eb : Bool) (w : World) (hxs : Sl w [] 1 Axs xs.length cxs (xs.map I)) : Does Try.prog 18 [.agg #[.slice Axs xs.length cxs, .int .i64 ni, .bool eb]] w (fun v w' => v = .bool (pipeOk xs ni) ∧ SH w w' [] []) := by
  refine fn_enter (N := 20) Try.func18 rfl (by kernel_rfl) rfl rfl rfl ?_
  have hs0 : SH w w [] [] := SH.refl w []
  have hxs_m : xs.length ≤ 9223372036854775807 := Nat.le_trans hxs.cap hxs.capMax
  refine sq ?_
  refine rg ?_
  refine bx (v := .agg #[.slice Axs xs.length cxs, .int .i64 ni, .bool eb]) (cs := [.slice Axs xs.length cxs, .int .i64 ni, .bool eb]) hs0 rfl rfl trivial rfl (fun b1 w1 (hs1 : SH w w1 [] [.blk b1 25 [.slice Axs xs.length cxs, .int .i64 ni, .bool eb]]) => ?_)
  refine q trivial rfl rfl (asg (v := .bool false) rfl) ?_
  refine nl ?_
  refine nN ?_
  refine sq ?_
  refine rg ?_
  refine q trivial rfl rfl (fa 0 fo25_0 rfl) ?_
  refine q trivial rfl rfl (ld (v := .slice Axs xs.length cxs) hs1 0 rfl rfl rfl one23) ?_
  refine cl trivial rfl (sBytesValid (Azs := Axs) (czs := cxs) (zs := xs) (w := _) (hzs := (hxs.up0 hs1))) ?_
  rintro _ w2 ⟨rfl, hs2'⟩
  have hs2 : SH w w2 [] [.blk b1 25 [.slice Axs xs.length cxs, .int .i64 ni, .bool eb]] := hs1.call0 hs2'
  clear hs2'
  refine q trivial rfl rfl (mv (v := .bool (isBytes xs)) rfl) ?_
  refine spl (b := isBytes xs) 6 rfl (fun h1 => ?_) (fun h1 => ?_)
  · refine q ⟨_, rfl, rfl⟩ rfl rfl (fa 0 fo25_0 rfl) ?_
    refine q ⟨_, rfl, rfl⟩ rfl rfl (ld (v := .slice Axs xs.length cxs) hs2 0 rfl rfl rfl one23) ?_
    refine q ⟨_, rfl, rfl⟩ rfl rfl (lnA (n := xs.length) sl23 rfl) ?_
    refine q ⟨_, rfl, rfl⟩ rfl rfl (leq (k := .i64) (a := ((xs.length : Nat) : Int)) (b := 16) rfl rfl) ?_
    refine q trivial rfl rfl (pt (v := .bool (decide (((xs.length : Nat) : Int) ≤ 16))) rfl rfl) ?_
    refine q trivial rfl rfl (mv (v := .bool (decide (((xs.length : Nat) : Int) ≤ 16))) rfl) ?_
    refine spd (p := ((xs.length : Nat) : Int) ≤ 16) 12 rfl (fun h2 => ?_) (fun h2 => ?_)
    · refine q ⟨_, rfl, rfl⟩ rfl rfl (fa 1 fo25_1 rfl) ?_
      refine q ⟨_, rfl, rfl⟩ rfl rfl (ld (v := .int .i64 ni) hs2 0 rfl rfl rfl one3) ?_
      refine q ⟨_, rfl, rfl⟩ rfl rfl (fa 0 fo25_0 rfl) ?_
      refine q ⟨_, rfl, rfl⟩ rfl rfl (ld (v := .slice Axs xs.length cxs) hs2 0 rfl rfl rfl one23) ?_
      refine q ⟨_, rfl, rfl⟩ rfl rfl (lnA (n := xs.length) sl23 rfl) ?_
      refine cl ⟨_, rfl, rfl⟩ rfl (sIn (x := ni) (lo := ((xs.length : Nat) : Int)) (hi := 9999) (w := _)) ?_
      rintro _ w3 ⟨rfl, hs3'⟩
      have hs3 : SH w w3 [] [.blk b1 25 [.slice Axs xs.length cxs, .int .i64 ni, .bool eb]] := hs2.call0 hs3'
      clear hs3'
      refine q trivial rfl rfl (pt (v := .bool (decide (((xs.length : Nat) : Int) ≤ ni ∧ ni ≤ 9999))) rfl rfl) ?_
      refine q trivial rfl rfl (asg (v := .bool (decide (((xs.length : Nat) : Int) ≤ ni ∧ ni ≤ 9999))) rfl) ?_
      refine nl ?_
      refine nN ?_
      refine rt ?_
      refine fret (v := .bool (decide (((xs.length : Nat) : Int) ≤ ni ∧ ni ≤ 9999))) (.tmp .nil) rfl ?_
      have e1 : (decide (((xs.length : Nat) : Int) ≤ ni ∧ ni ≤ 9999)) = pipeOk xs ni := by simp [pipeOk, h1, h2] <;> omega
      exact ⟨(congrArg (Value.bool) e1), (hs3.pick [] rfl (by decide))⟩
    · refine gk false rfl rfl rfl rfl rfl ?_
      refine gk false rfl rfl rfl rfl rfl ?_
      refine gk false rfl rfl rfl rfl rfl ?_
      refine gk false rfl rfl rfl rfl rfl ?_
      refine gk false rfl rfl rfl rfl rfl ?_
      refine gk false rfl rfl rfl rfl rfl ?_
      refine q trivial rfl rfl (pf (v := .bool false) rfl rfl) ?_
      refine q trivial rfl rfl (asg (v := .bool false) rfl) ?_
      refine nl ?_
      refine nN ?_
      refine rt ?_
      refine fret (v := .bool false) (.tmp .nil) rfl ?_
      have e2 : false = pipeOk xs ni := by simp [pipeOk, h1, h2] <;> omega
      exact ⟨(congrArg (Value.bool) e2), (hs2.pick [] rfl (by decide))⟩
  · refine gk false rfl rfl rfl rfl rfl ?_
    refine gk false rfl rfl rfl rfl rfl ?_
    refine gk false rfl rfl rfl rfl rfl ?_
    refine gk false rfl rfl rfl rfl rfl ?_
    refine q trivial rfl rfl (pf (v := .bool false) rfl rfl) ?_
    refine q trivial rfl rfl (mv (v := .bool false) rfl) ?_
    refine gk false rfl rfl rfl rfl rfl ?_
    refine gk false rfl rfl rfl rfl rfl ?_
    refine gk false rfl rfl rfl rfl rfl ?_
    refine gk false rfl rfl rfl rfl rfl ?_
    refine gk false rfl rfl rfl rfl rfl ?_
    refine gk false rfl rfl rfl rfl rfl ?_
    refine q trivial rfl rfl (pf (v := .bool false) rfl rfl) ?_
    refine q trivial rfl rfl (asg (v := .bool false) rfl) ?_
    refine nl ?_
    refine nN ?_
    refine rt ?_
    refine fret (v := .bool false) (.tmp .nil) rfl ?_
    have e3 : false = pipeOk xs ni := by simp [pipeOk, h1] <;> omega
    exact ⟨(congrArg (Value.bool) e3), (hs2.pick [] rfl (by decide))⟩

theorem iPipePut {Axs : Option Addr} {cxs : Nat} (xs : List Int) (ni : Int) (eb : Bool) {Abs : Option Addr} {cbs : Nat} (bs : List Int) (w : World) (hxs : Sl w [] 1 Axs xs.length cxs (xs.map I)) (hbs : Sl w [] 1 Abs bs.length cbs (bs.map I)) : Does Try.prog 35 [.agg #[.slice Axs xs.length cxs, .int .i64 ni, .bool eb], .slice Abs bs.length cbs] w (fun v w' => ∃ Ar : Option Addr, ∃ cr : Nat, v = .tuple #[.agg #[.slice Ar ((pipePut xs ni eb bs).1).length cr, .int .i64 ((pipePut xs ni eb bs).2.1), .bool false], .int .i64 ((pipePut xs ni eb bs).2.2.1), .bool ((pipePut xs ni eb bs).2.2.2)] ∧ SH w w' [] [.own Ar (((pipePut xs ni eb bs).1).length) cr 3 1 (((pipePut xs ni eb bs).1).map I)]) := by
  refine fn_enter (N := 47) Try.func35 rfl (by kernel_rfl) rfl rfl rfl ?_
  have hs0 : SH w w [] [] := SH.refl w []
  have hxs_m : xs.length ≤ 9223372036854775807 := Nat.le_trans hxs.cap hxs.capMax
  have hbs_m : bs.length ≤ 9223372036854775807 := Nat.le_trans hbs.cap hbs.capMax
  refine sq ?_
  refine rg ?_
  refine bx (v := .agg #[.slice Axs xs.length cxs, .int .i64 ni, .bool eb]) (cs := [.slice Axs xs.length cxs, .int .i64 ni, .bool eb]) hs0 rfl rfl trivial rfl (fun b1 w1 (hs1 : SH w w1 [] [.blk b1 25 [.slice Axs xs.length cxs, .int .i64 ni, .bool eb]]) => ?_)
  refine al (v := .agg #[.slice none 0 0, .int .i64 0, .bool false]) (cs := [.slice none 0 0, .int .i64 0, .bool false]) hs1 tz25 rfl trivial rfl (fun b2 w2 (hs2 : SH w w2 [] [.blk b1 25 [.slice Axs xs.length cxs, .int .i64 ni, .bool eb], .blk b2 25 [.slice none 0 0, .int .i64 0, .bool false]]) => ?_)
  refine q trivial rfl rfl (asg (v := .int .i64 0) rfl) ?_
  refine q trivial rfl rfl (asg (v := .bool false) rfl) ?_
  refine nl ?_
  refine nN ?_
  refine sq ?_
  refine sq ?_
  refine rg ?_
  refine q trivial rfl rfl (ldg (vs := [.slice Axs xs.length cxs, .int .i64 ni, .bool eb]) hs2 0 rfl rfl rfl rfl ag25) ?_
  refine cl trivial rfl (iPipeValid (Axs := Axs) (cxs := cxs) (xs := xs) (ni := ni) (eb := eb) (w := _) (hxs := (hxs.up0 hs2))) ?_
  rintro _ w3 ⟨rfl, hs3'⟩
  have hs3 : SH w w3 [] [.blk b1 25 [.slice Axs xs.length cxs, .int .i64 ni, .bool eb], .blk b2 25 [.slice none 0 0, .int .i64 0, .bool false]] := hs2.call0 hs3'
  clear hs3'
  refine q trivial rfl rfl (nt (b := pipeOk xs ni) rfl) ?_
  refine q trivial rfl rfl (mv (v := .bool (!(pipeOk xs ni))) rfl) ?_
  refine spl (b := !(pipeOk xs ni)) 12 rfl (fun h1 => ?_) (fun h1 => ?_)
  · have h2 : (pipeOk xs ni) = false := by simpa using h1
    refine gk true rfl rfl rfl rfl rfl ?_
    refine gk true rfl rfl rfl rfl rfl ?_
    refine gk true rfl rfl rfl rfl rfl ?_
    refine q trivial rfl rfl (pt (v := .bool true) rfl rfl) ?_
    refine q trivial rfl rfl (mv (v := .bool true) rfl) ?_
    refine gk true rfl rfl rfl rfl rfl ?_
    refine gk true rfl rfl rfl rfl rfl ?_
    refine q trivial rfl rfl (pt (v := .bool true) rfl rfl) ?_
    refine nl ?_
    refine nN ?_
    refine cdt rfl ?_
    refine sq ?_
    refine rg ?_
    refine q trivial rfl rfl (bdv (v := .agg #[.slice none 0 0, .int .i64 0, .bool false]) [] rfl (fun _ => by kernel_rfl)) ?_
    refine stg (vs := [.slice none 0 0, .int .i64 0, .bool false]) hs3 1 rfl rfl rfl rfl rfl rfl rfl ag25 trivial (fun w4 (hs4 : SH w w4 [] [.blk b1 25 [.slice Axs xs.length cxs, .int .i64 ni, .bool eb], .blk b2 25 [.slice none 0 0, .int .i64 0, .bool false]]) => ?_)
    refine q trivial rfl rfl (asg (v := .int .i64 0) rfl) ?_
    refine q trivial rfl rfl (asg (v := .bool false) rfl) ?_
    refine nl ?_
    refine nN ?_
    refine rt (tR ?_)
    refine fret (v := .tuple #[.agg #[.slice none 0 0, .int .i64 0, .bool false], .int .i64 0, .bool false]) (resC hs4 1 rfl rfl ag25 rfl (.tmp (.tmp .nil))) rfl ?_
    have hs5 : SH w w4 [] [.blk b1 25 [.slice Axs xs.length cxs, .int .i64 ni, .bool eb], .blk b2 25 [.slice none 0 0, .int .i64 0, .bool false], .own none (([] : List Int).length) 0 3 1 (([] : List Int).map I)] := SH.nils (by intro i hi; simp at hi; subst hi; exact nilItem) hs4
    have e1 : pipePut xs ni eb bs = (([] : List Int), 0, 0, false) := by (try simp only [catH_cons, catH_nil, List.append_nil] at h2 ⊢); simp [pipePut, putOk, h2]
    have e2 : ([] : List Int) = (pipePut xs ni eb bs).1 := by rw [e1]
    have e3 : ([] : List Int).length = ((pipePut xs ni eb bs).1).length := by exact congrArg List.length e2
    have e4 : 0 = (pipePut xs ni eb bs).2.1 := by rw [e1]
    have e5 : 0 = (pipePut xs ni eb bs).2.2.1 := by rw [e1]
    have e6 : false = (pipePut xs ni eb bs).2.2.2 := by rw [e1]
    exact ⟨none, 0, (tup3 (aggv (lc (slv rfl e3 rfl) (lc (congrArg (Value.int .i64) e4) (lc rfl rfl)))) (congrArg (Value.int .i64) e5) (congrArg (Value.bool) e6)), ((hs5.pick [2] rfl (by decide)).cast (lc (own_eq (g := I) rfl e3 rfl e2) rfl))⟩
  · have h3 : (pipeOk xs ni) = true := by simpa using h1
    refine q ⟨_, rfl, rfl⟩ rfl rfl (mv (v := .slice Abs bs.length cbs) rfl) ?_
    refine cl ⟨_, rfl, rfl⟩ rfl (iBytesValid (Azs := Abs) (czs := cbs) (zs := bs) (w := _) (hzs := (hbs.up0 hs3))) ?_
    rintro _ w5 ⟨rfl, hs6'⟩
    have hs6 : SH w w5 [] [.blk b1 25 [.slice Axs xs.length cxs, .int .i64 ni, .bool eb], .blk b2 25 [.slice none 0 0, .int .i64 0, .bool false]] := hs3.call0 hs6'
    clear hs6'
    refine q ⟨_, rfl, rfl⟩ rfl rfl (nt (b := isBytes bs) rfl) ?_
    refine q trivial rfl rfl (pf (v := .bool (!(isBytes bs))) rfl rfl) ?_
    refine q trivial rfl rfl (mv (v := .bool (!(isBytes bs))) rfl) ?_
    refine spl (b := !(isBytes bs)) 17 rfl (fun h4 => ?_) (fun h4 => ?_)
    · have h5 : (isBytes bs) = false := by simpa using h4
      refine gk true rfl rfl rfl rfl rfl ?_
      refine gk true rfl rfl rfl rfl rfl ?_
      refine q trivial rfl rfl (pt (v := .bool true) rfl rfl) ?_
      refine nl ?_
      refine nN ?_
      refine cdt rfl ?_
      refine sq ?_
      refine rg ?_
      refine q trivial rfl rfl (bdv (v := .agg #[.slice none 0 0, .int .i64 0, .bool false]) [] rfl (fun _ => by kernel_rfl)) ?_
      refine stg (vs := [.slice none 0 0, .int .i64 0, .bool false]) hs6 1 rfl rfl rfl rfl rfl rfl rfl ag25 trivial (fun w6 (hs7 : SH w w6 [] [.blk b1 25 [.slice Axs xs.length cxs, .int .i64 ni, .bool eb], .blk b2 25 [.slice none 0 0, .int .i64 0, .bool false]]) => ?_)
      refine q trivial rfl rfl (asg (v := .int .i64 0) rfl) ?_
      refine q trivial rfl rfl (asg (v := .bool false) rfl) ?_
      refine nl ?_
      refine nN ?_
      refine rt (tR ?_)
      refine fret (v := .tuple #[.agg #[.slice none 0 0, .int .i64 0, .bool false], .int .i64 0, .bool false]) (resC hs7 1 rfl rfl ag25 rfl (.tmp (.tmp .nil))) rfl ?_
      have hs8 : SH w w6 [] [.blk b1 25 [.slice Axs xs.length cxs, .int .i64 ni, .bool eb], .blk b2 25 [.slice none 0 0, .int .i64 0, .bool false], .own none (([] : List Int).length) 0 3 1 (([] : List Int).map I)] := SH.nils (by intro i hi; simp at hi; subst hi; exact nilItem) hs7
      have e7 : pipePut xs ni eb bs = (([] : List Int), 0, 0, false) := by (try simp only [catH_cons, catH_nil, List.append_nil] at h3 h5 ⊢); simp [pipePut, putOk, h3, h5]
      have e8 : ([] : List Int) = (pipePut xs ni eb bs).1 := by rw [e7]
      have e9 : ([] : List Int).length = ((pipePut xs ni eb bs).1).length := by exact congrArg List.length e8
      have e10 : 0 = (pipePut xs ni eb bs).2.1 := by rw [e7]
      have e11 : 0 = (pipePut xs ni eb bs).2.2.1 := by rw [e7]
      have e12 : false = (pipePut xs ni eb bs).2.2.2 := by rw [e7]
      exact ⟨none, 0, (tup3 (aggv (lc (slv rfl e9 rfl) (lc (congrArg (Value.int .i64) e10) (lc rfl rfl)))) (congrArg (Value.int .i64) e11) (congrArg (Value.bool) e12)), ((hs8.pick [2] rfl (by decide)).cast (lc (own_eq (g := I) rfl e9 rfl e8) rfl))⟩
    · have h6 : (isBytes bs) = true := by simpa using h4
      refine q ⟨_, rfl, rfl⟩ rfl rfl (fa 2 fo25_2 rfl) ?_
      refine q ⟨_, rfl, rfl⟩ rfl rfl (ld (v := .bool eb) hs6 0 rfl rfl rfl one4) ?_
      refine q trivial rfl rfl (pf (v := .bool eb) rfl rfl) ?_
      refine nl ?_
      refine nN ?_
      refine cd (b := eb) rfl (fun h7 => ?_) (fun h7 => ?_)
      · refine sq ?_
        refine rg ?_
        refine q trivial rfl rfl (bdv (v := .agg #[.slice none 0 0, .int .i64 0, .bool false]) [] rfl (fun _ => by kernel_rfl)) ?_
        refine stg (vs := [.slice none 0 0, .int .i64 0, .bool false]) hs6 1 rfl rfl rfl rfl rfl rfl rfl ag25 trivial (fun w7 (hs9 : SH w w7 [] [.blk b1 25 [.slice Axs xs.length cxs, .int .i64 ni, .bool eb], .blk b2 25 [.slice none 0 0, .int .i64 0, .bool false]]) => ?_)
        refine q trivial rfl rfl (asg (v := .int .i64 0) rfl) ?_
        refine q trivial rfl rfl (asg (v := .bool false) rfl) ?_
        refine nl ?_
        refine nN ?_
        refine rt (tR ?_)
        refine fret (v := .tuple #[.agg #[.slice none 0 0, .int .i64 0, .bool false], .int .i64 0, .bool false]) (resC hs9 1 rfl rfl ag25 rfl (.tmp (.tmp .nil))) rfl ?_
        have hs10 : SH w w7 [] [.blk b1 25 [.slice Axs xs.length cxs, .int .i64 ni, .bool eb], .blk b2 25 [.slice none 0 0, .int .i64 0, .bool false], .own none (([] : List Int).length) 0 3 1 (([] : List Int).map I)] := SH.nils (by intro i hi; simp at hi; subst hi; exact nilItem) hs9
        have e13 : pipePut xs ni eb bs = (([] : List Int), 0, 0, false) := by (try simp only [catH_cons, catH_nil, List.append_nil] at h3 h6 h7 ⊢); simp [pipePut, putOk, h3, h6, h7]
        have e14 : ([] : List Int) = (pipePut xs ni eb bs).1 := by rw [e13]
        have e15 : ([] : List Int).length = ((pipePut xs ni eb bs).1).length := by exact congrArg List.length e14
        have e16 : 0 = (pipePut xs ni eb bs).2.1 := by rw [e13]
        have e17 : 0 = (pipePut xs ni eb bs).2.2.1 := by rw [e13]
        have e18 : false = (pipePut xs ni eb bs).2.2.2 := by rw [e13]
        exact ⟨none, 0, (tup3 (aggv (lc (slv rfl e15 rfl) (lc (congrArg (Value.int .i64) e16) (lc rfl rfl)))) (congrArg (Value.int .i64) e17) (congrArg (Value.bool) e18)), ((hs10.pick [2] rfl (by decide)).cast (lc (own_eq (g := I) rfl e15 rfl e14) rfl))⟩
      · refine sk ?_
        refine nN ?_
        refine sq ?_
        refine rg ?_
        refine q trivial rfl rfl (mv (v := .slice Abs bs.length cbs) rfl) ?_
        refine q trivial rfl rfl (lnA (n := bs.length) sl23 rfl) ?_
        refine q trivial rfl rfl (fa 0 fo25_0 rfl) ?_
        refine q trivial rfl rfl (ld (v := .slice Axs xs.length cxs) hs6 0 rfl rfl rfl one23) ?_
        refine q trivial rfl rfl (lnA (n := xs.length) sl23 rfl) ?_
        refine q trivial rfl rfl (sub (a := 16) (b := ((xs.length : Nat) : Int)) rfl rfl (by first | (exact ⟨by omega, by omega⟩) | (have hpb := pipeOk_len (by assumption); have hpn := putN_le xs bs; exact ⟨by omega, by omega⟩))) ?_
        refine q trivial rfl rfl (mnI (a := ((bs.length : Nat) : Int)) (b := 16 - ((xs.length : Nat) : Int)) rfl rfl) ?_
        refine q trivial rfl rfl (asg (v := .int .i64 (min ((bs.length : Nat) : Int) (16 - ((xs.length : Nat) : Int)))) rfl) ?_
        have e19 : min ((bs.length : Nat) : Int) (16 - ((xs.length : Nat) : Int)) = ((putN xs bs : Nat) : Int) := by have hpb := pipeOk_len (by assumption); exact putN_eq xs bs (by omega)
        refine re 7 (v := .int .i64 ((putN xs bs : Nat) : Int)) (congrArg (Value.int .i64) e19) ?_
        refine nl ?_
        refine nN ?_
        refine sq ?_
        refine raJ (fun w' => ∃ L, SH w w' [] L ∧ (.blk b1 25 [.slice Axs xs.length cxs, .int .i64 ni, .bool eb]) ∈ L ∧ (.blk b2 25 [.slice none 0 0, .int .i64 0, .bool false]) ∈ L ∧ True) (fun f w' => ∃ b_4_5 : Nat, ∃ A_4_6 : Option Addr, ∃ c_4_6 : Nat, ∃ b_4_12 : Nat, Has f [(4, .pointer (some ⟨b2, 0, none⟩)), (7, .int .i64 ((putN xs bs : Nat) : Int)), (8, .pointer (some ⟨b_4_12, 0, none⟩))] ∧ SH w w' [] [.blk b1 25 [.slice Axs xs.length cxs, .int .i64 ni, .bool eb], .blk b2 25 [.slice none 0 0, .int .i64 0, .bool false], .own (some ⟨b_4_5, 0, none⟩) ([(⟨Axs, cxs, xs⟩ : Hd), (⟨Abs, cbs, bs.take (putN xs bs)⟩ : Hd)].length) 2 23 1 ([(⟨Axs, cxs, xs⟩ : Hd), (⟨Abs, cbs, bs.take (putN xs bs)⟩ : Hd)].map hv), .own A_4_6 ((catH [(⟨Axs, cxs, xs⟩ : Hd), (⟨Abs, cbs, bs.take (putN xs bs)⟩ : Hd)]).length) c_4_6 3 1 ((catH [(⟨Axs, cxs, xs⟩ : Hd), (⟨Abs, cbs, bs.take (putN xs bs)⟩ : Hd)]).map I), .blk b_4_12 25 [.slice A_4_6 ((catH [(⟨Axs, cxs, xs⟩ : Hd), (⟨Abs, cbs, bs.take (putN xs bs)⟩ : Hd)]).length) c_4_6, .int .i64 (ni + ((putN xs bs : Nat) : Int)), .bool false]]) mixed ?_ ?_
        · have hs11 := hs6.drew
          refine tk (fuel := 5) (is := [0, 1, 2, 3, 4, 7, 8, 9, 10]) (.cons rfl (.cons rfl (.cons rfl (.cons rfl (.cons rfl (.cons rfl (.cons rfl (.cons rfl (.cons rfl (.nil)))))))))) (by kernel_rfl) (by kernel_rfl) ⟨_, hs11, memi 0 rfl, memi 1 rfl, trivial⟩ ?_
          refine .op trivial rfl rfl (fun wq _ => fa 0 fo25_0 rfl) ?_
          refine .op trivial rfl rfl (fun wq ⟨Lq, hsq, mh0, mh1, _⟩ => ldm (v := .slice Axs xs.length cxs) hsq mh0 rfl rfl one23) ?_
          refine .op trivial rfl rfl (fun wq _ => mv (v := .slice Abs bs.length cbs) rfl) ?_
          refine .op trivial rfl rfl (fun wq _ => mv (v := .int .i64 ((putN xs bs : Nat) : Int)) rfl) ?_
          refine .op trivial rfl rfl (fun wq _ => cuhm_ (zs := bs) (putN xs bs) sl23 rfl rfl (by first | (first | omega | (simp; omega)) | (have hpb := pipeOk_len (by assumption); have hpn := putN_le xs bs; first | omega | (simp; omega))) hbs.cap) ?_
          refine .op trivial rfl rfl (fun wq _ => fa 1 fo25_1 rfl) ?_
          refine .op trivial rfl rfl (fun wq ⟨Lq, hsq, mh0, mh1, _⟩ => ldm (v := .int .i64 ni) hsq mh0 rfl rfl one3) ?_
          refine .op trivial rfl rfl (fun wq _ => mv (v := .int .i64 ((putN xs bs : Nat) : Int)) rfl) ?_
          refine .op trivial rfl rfl (fun wq _ => add (a := ni) (b := ((putN xs bs : Nat) : Int)) rfl rfl (by first | (exact ⟨by omega, by omega⟩) | (have hpb := pipeOk_len (by assumption); have hpn := putN_le xs bs; exact ⟨by omega, by omega⟩))) ?_
          refine .nil ?_
          refine a2 (i := 5) (j := 12) (by kernel_rfl) ?_ ?_
          · refine one_ rfl ?_
            refine Go.PF.bs hs11 sl63 [(0, .slice Axs xs.length cxs), (1, .slice Abs ((bs.take (putN xs bs)).length) cbs)] rfl (cs := [.slice Axs xs.length cxs, .slice Abs ((bs.take (putN xs bs)).length) cbs]) (by kernel_rfl) rfl (by decide) (by decide) trivial rfl (fun b_4_5 w8 (hs12 : SH w w8 [] [.blk b1 25 [.slice Axs xs.length cxs, .int .i64 ni, .bool eb], .blk b2 25 [.slice none 0 0, .int .i64 0, .bool false], .own (some ⟨b_4_5, 0, none⟩) ([(⟨Axs, cxs, xs⟩ : Hd), (⟨Abs, cbs, bs.take (putN xs bs)⟩ : Hd)].length) 2 23 1 ([(⟨Axs, cxs, xs⟩ : Hd), (⟨Abs, cbs, bs.take (putN xs bs)⟩ : Hd)].map hv)]) => ?_)
            refine nl (kq ⟨_, hs12, memi 0 rfl, memi 1 rfl, trivial⟩ ?_)
            refine a2 (i := 6) (j := 12) (by kernel_rfl) ?_ ?_
            · refine one_ rfl ?_
              refine cl trivial rfl (slConcat (Ahs := (some ⟨b_4_5, 0, none⟩)) (chs := 2) (hs := [(⟨Axs, cxs, xs⟩ : Hd), (⟨Abs, cbs, bs.take (putN xs bs)⟩ : Hd)]) (w := _) (hhs := (hs12.sl0 2 rfl)) (hhs_in := (fa_cons (hxs.up0 hs12) (fa_cons (Sl.cuthm (hbs.up0 hs12) (by first | (first | omega | (simp; omega)) | (have hpb := pipeOk_len (by assumption); have hpn := putN_le xs bs; first | omega | (simp; omega)))) fa_nil))) (hct := (by have hpb := pipeOk_len (by assumption); have hpn := putN_le xs bs; simp [catH]; omega))) ?_
              rintro _ w9 ⟨A_4_6, c_4_6, rfl, hs13'⟩
              have hs13 : SH w w9 [] [.blk b1 25 [.slice Axs xs.length cxs, .int .i64 ni, .bool eb], .blk b2 25 [.slice none 0 0, .int .i64 0, .bool false], .own (some ⟨b_4_5, 0, none⟩) ([(⟨Axs, cxs, xs⟩ : Hd), (⟨Abs, cbs, bs.take (putN xs bs)⟩ : Hd)].length) 2 23 1 ([(⟨Axs, cxs, xs⟩ : Hd), (⟨Abs, cbs, bs.take (putN xs bs)⟩ : Hd)].map hv), .own A_4_6 ((catH [(⟨Axs, cxs, xs⟩ : Hd), (⟨Abs, cbs, bs.take (putN xs bs)⟩ : Hd)]).length) c_4_6 3 1 ((catH [(⟨Axs, cxs, xs⟩ : Hd), (⟨Abs, cbs, bs.take (putN xs bs)⟩ : Hd)]).map I)] := hs12.call0 hs13'
              clear hs13'
              refine nl (kq ⟨_, hs13, memi 0 rfl, memi 1 rfl, trivial⟩ ?_)
              refine tk (fuel := 2) (is := [11]) (.cons rfl (.nil)) (by kernel_rfl) (by kernel_rfl) ⟨_, hs13, memi 0 rfl, memi 1 rfl, trivial⟩ ?_
              refine .op trivial rfl rfl (fun wq _ => bdv (v := .agg #[.slice A_4_6 ((catH [(⟨Axs, cxs, xs⟩ : Hd), (⟨Abs, cbs, bs.take (putN xs bs)⟩ : Hd)]).length) c_4_6, .int .i64 (ni + ((putN xs bs : Nat) : Int)), .bool false]) [(0, .slice A_4_6 ((catH [(⟨Axs, cxs, xs⟩ : Hd), (⟨Abs, cbs, bs.take (putN xs bs)⟩ : Hd)]).length) c_4_6), (1, .int .i64 (ni + ((putN xs bs : Nat) : Int))), (2, .bool false)] rfl (fun _ => by kernel_rfl)) ?_
              refine .nil ?_
              refine a1 (i := 12) (by kernel_rfl) ?_
              refine one_ rfl ?_
              refine al (v := .agg #[.slice none 0 0, .int .i64 0, .bool false]) (cs := [.slice none 0 0, .int .i64 0, .bool false]) hs13 tz25 rfl trivial rfl (fun b_4_12 w10 (hs14 : SH w w10 [] [.blk b1 25 [.slice Axs xs.length cxs, .int .i64 ni, .bool eb], .blk b2 25 [.slice none 0 0, .int .i64 0, .bool false], .own (some ⟨b_4_5, 0, none⟩) ([(⟨Axs, cxs, xs⟩ : Hd), (⟨Abs, cbs, bs.take (putN xs bs)⟩ : Hd)].length) 2 23 1 ([(⟨Axs, cxs, xs⟩ : Hd), (⟨Abs, cbs, bs.take (putN xs bs)⟩ : Hd)].map hv), .own A_4_6 ((catH [(⟨Axs, cxs, xs⟩ : Hd), (⟨Abs, cbs, bs.take (putN xs bs)⟩ : Hd)]).length) c_4_6 3 1 ((catH [(⟨Axs, cxs, xs⟩ : Hd), (⟨Abs, cbs, bs.take (putN xs bs)⟩ : Hd)]).map I), .blk b_4_12 25 [.slice none 0 0, .int .i64 0, .bool false]]) => ?_)
              refine nl (kq ⟨_, hs14, memi 0 rfl, memi 1 rfl, trivial⟩ ?_)
              refine a1 (i := 13) (by kernel_rfl) ?_
              refine one_ rfl ?_
              refine stg (vs := [.slice A_4_6 ((catH [(⟨Axs, cxs, xs⟩ : Hd), (⟨Abs, cbs, bs.take (putN xs bs)⟩ : Hd)]).length) c_4_6, .int .i64 (ni + ((putN xs bs : Nat) : Int)), .bool false]) hs14 4 rfl rfl rfl rfl rfl rfl rfl ag25 trivial (fun w11 (hs15 : SH w w11 [] [.blk b1 25 [.slice Axs xs.length cxs, .int .i64 ni, .bool eb], .blk b2 25 [.slice none 0 0, .int .i64 0, .bool false], .own (some ⟨b_4_5, 0, none⟩) ([(⟨Axs, cxs, xs⟩ : Hd), (⟨Abs, cbs, bs.take (putN xs bs)⟩ : Hd)].length) 2 23 1 ([(⟨Axs, cxs, xs⟩ : Hd), (⟨Abs, cbs, bs.take (putN xs bs)⟩ : Hd)].map hv), .own A_4_6 ((catH [(⟨Axs, cxs, xs⟩ : Hd), (⟨Abs, cbs, bs.take (putN xs bs)⟩ : Hd)]).length) c_4_6 3 1 ((catH [(⟨Axs, cxs, xs⟩ : Hd), (⟨Abs, cbs, bs.take (putN xs bs)⟩ : Hd)]).map I), .blk b_4_12 25 [.slice A_4_6 ((catH [(⟨Axs, cxs, xs⟩ : Hd), (⟨Abs, cbs, bs.take (putN xs bs)⟩ : Hd)]).length) c_4_6, .int .i64 (ni + ((putN xs bs : Nat) : Int)), .bool false]]) => ?_)
              refine nl (kq ⟨_, hs15, memi 0 rfl, memi 1 rfl, trivial⟩ ?_)
              refine ad (by kernel_rfl) ?_
              exact ⟨b_4_5, A_4_6, c_4_6, b_4_12, ⟨rfl, rfl, rfl, trivial⟩, hs15⟩
            · refine one_ rfl ?_
              refine al (v := .agg #[.slice none 0 0, .int .i64 0, .bool false]) (cs := [.slice none 0 0, .int .i64 0, .bool false]) hs12 tz25 rfl trivial rfl (fun b_4_12 w12 (hs16 : SH w w12 [] [.blk b1 25 [.slice Axs xs.length cxs, .int .i64 ni, .bool eb], .blk b2 25 [.slice none 0 0, .int .i64 0, .bool false], .own (some ⟨b_4_5, 0, none⟩) ([(⟨Axs, cxs, xs⟩ : Hd), (⟨Abs, cbs, bs.take (putN xs bs)⟩ : Hd)].length) 2 23 1 ([(⟨Axs, cxs, xs⟩ : Hd), (⟨Abs, cbs, bs.take (putN xs bs)⟩ : Hd)].map hv), .blk b_4_12 25 [.slice none 0 0, .int .i64 0, .bool false]]) => ?_)
              refine nl (kq ⟨_, hs16, memi 0 rfl, memi 1 rfl, trivial⟩ ?_)
              refine a1 (i := 6) (by kernel_rfl) ?_
              refine one_ rfl ?_
              refine cl trivial rfl (slConcat (Ahs := (some ⟨b_4_5, 0, none⟩)) (chs := 2) (hs := [(⟨Axs, cxs, xs⟩ : Hd), (⟨Abs, cbs, bs.take (putN xs bs)⟩ : Hd)]) (w := _) (hhs := (hs16.sl0 2 rfl)) (hhs_in := (fa_cons (hxs.up0 hs16) (fa_cons (Sl.cuthm (hbs.up0 hs16) (by first | (first | omega | (simp; omega)) | (have hpb := pipeOk_len (by assumption); have hpn := putN_le xs bs; first | omega | (simp; omega)))) fa_nil))) (hct := (by have hpb := pipeOk_len (by assumption); have hpn := putN_le xs bs; simp [catH]; omega))) ?_
              rintro _ w13 ⟨A_4_6, c_4_6, rfl, hs17'⟩
              have hs17 : SH w w13 [] [.blk b1 25 [.slice Axs xs.length cxs, .int .i64 ni, .bool eb], .blk b2 25 [.slice none 0 0, .int .i64 0, .bool false], .own (some ⟨b_4_5, 0, none⟩) ([(⟨Axs, cxs, xs⟩ : Hd), (⟨Abs, cbs, bs.take (putN xs bs)⟩ : Hd)].length) 2 23 1 ([(⟨Axs, cxs, xs⟩ : Hd), (⟨Abs, cbs, bs.take (putN xs bs)⟩ : Hd)].map hv), .blk b_4_12 25 [.slice none 0 0, .int .i64 0, .bool false], .own A_4_6 ((catH [(⟨Axs, cxs, xs⟩ : Hd), (⟨Abs, cbs, bs.take (putN xs bs)⟩ : Hd)]).length) c_4_6 3 1 ((catH [(⟨Axs, cxs, xs⟩ : Hd), (⟨Abs, cbs, bs.take (putN xs bs)⟩ : Hd)]).map I)] := hs16.call0 hs17'
              clear hs17'
              refine nl (kq ⟨_, hs17, memi 0 rfl, memi 1 rfl, trivial⟩ ?_)
              refine tk (fuel := 1) (is := [11]) (.cons rfl (.nil)) (by kernel_rfl) (by kernel_rfl) ⟨_, hs17, memi 0 rfl, memi 1 rfl, trivial⟩ ?_
              refine .op trivial rfl rfl (fun wq _ => bdv (v := .agg #[.slice A_4_6 ((catH [(⟨Axs, cxs, xs⟩ : Hd), (⟨Abs, cbs, bs.take (putN xs bs)⟩ : Hd)]).length) c_4_6, .int .i64 (ni + ((putN xs bs : Nat) : Int)), .bool false]) [(0, .slice A_4_6 ((catH [(⟨Axs, cxs, xs⟩ : Hd), (⟨Abs, cbs, bs.take (putN xs bs)⟩ : Hd)]).length) c_4_6), (1, .int .i64 (ni + ((putN xs bs : Nat) : Int))), (2, .bool false)] rfl (fun _ => by kernel_rfl)) ?_
              refine .nil ?_
              refine a1 (i := 13) (by kernel_rfl) ?_
              refine one_ rfl ?_
              refine stg (vs := [.slice A_4_6 ((catH [(⟨Axs, cxs, xs⟩ : Hd), (⟨Abs, cbs, bs.take (putN xs bs)⟩ : Hd)]).length) c_4_6, .int .i64 (ni + ((putN xs bs : Nat) : Int)), .bool false]) hs17 3 rfl rfl rfl rfl rfl rfl rfl ag25 trivial (fun w14 (hs18 : SH w w14 [] [.blk b1 25 [.slice Axs xs.length cxs, .int .i64 ni, .bool eb], .blk b2 25 [.slice none 0 0, .int .i64 0, .bool false], .own (some ⟨b_4_5, 0, none⟩) ([(⟨Axs, cxs, xs⟩ : Hd), (⟨Abs, cbs, bs.take (putN xs bs)⟩ : Hd)].length) 2 23 1 ([(⟨Axs, cxs, xs⟩ : Hd), (⟨Abs, cbs, bs.take (putN xs bs)⟩ : Hd)].map hv), .own A_4_6 ((catH [(⟨Axs, cxs, xs⟩ : Hd), (⟨Abs, cbs, bs.take (putN xs bs)⟩ : Hd)]).length) c_4_6 3 1 ((catH [(⟨Axs, cxs, xs⟩ : Hd), (⟨Abs, cbs, bs.take (putN xs bs)⟩ : Hd)]).map I), .blk b_4_12 25 [.slice A_4_6 ((catH [(⟨Axs, cxs, xs⟩ : Hd), (⟨Abs, cbs, bs.take (putN xs bs)⟩ : Hd)]).length) c_4_6, .int .i64 (ni + ((putN xs bs : Nat) : Int)), .bool false]]) => ?_)
              refine nl (kq ⟨_, hs18, memi 0 rfl, memi 1 rfl, trivial⟩ ?_)
              refine ad (by kernel_rfl) ?_
              exact ⟨b_4_5, A_4_6, c_4_6, b_4_12, ⟨rfl, rfl, rfl, trivial⟩, hs18⟩
          · refine one_ rfl ?_
            refine al (v := .agg #[.slice none 0 0, .int .i64 0, .bool false]) (cs := [.slice none 0 0, .int .i64 0, .bool false]) hs11 tz25 rfl trivial rfl (fun b_4_12 w15 (hs19 : SH w w15 [] [.blk b1 25 [.slice Axs xs.length cxs, .int .i64 ni, .bool eb], .blk b2 25 [.slice none 0 0, .int .i64 0, .bool false], .blk b_4_12 25 [.slice none 0 0, .int .i64 0, .bool false]]) => ?_)
            refine nl (kq ⟨_, hs19, memi 0 rfl, memi 1 rfl, trivial⟩ ?_)
            refine a1 (i := 5) (by kernel_rfl) ?_
            refine one_ rfl ?_
            refine Go.PF.bs hs19 sl63 [(0, .slice Axs xs.length cxs), (1, .slice Abs ((bs.take (putN xs bs)).length) cbs)] rfl (cs := [.slice Axs xs.length cxs, .slice Abs ((bs.take (putN xs bs)).length) cbs]) (by kernel_rfl) rfl (by decide) (by decide) trivial rfl (fun b_4_5 w16 (hs20 : SH w w16 [] [.blk b1 25 [.slice Axs xs.length cxs, .int .i64 ni, .bool eb], .blk b2 25 [.slice none 0 0, .int .i64 0, .bool false], .blk b_4_12 25 [.slice none 0 0, .int .i64 0, .bool false], .own (some ⟨b_4_5, 0, none⟩) ([(⟨Axs, cxs, xs⟩ : Hd), (⟨Abs, cbs, bs.take (putN xs bs)⟩ : Hd)].length) 2 23 1 ([(⟨Axs, cxs, xs⟩ : Hd), (⟨Abs, cbs, bs.take (putN xs bs)⟩ : Hd)].map hv)]) => ?_)
            refine nl (kq ⟨_, hs20, memi 0 rfl, memi 1 rfl, trivial⟩ ?_)
            refine a1 (i := 6) (by kernel_rfl) ?_
            refine one_ rfl ?_
            refine cl trivial rfl (slConcat (Ahs := (some ⟨b_4_5, 0, none⟩)) (chs := 2) (hs := [(⟨Axs, cxs, xs⟩ : Hd), (⟨Abs, cbs, bs.take (putN xs bs)⟩ : Hd)]) (w := _) (hhs := (hs20.sl0 3 rfl)) (hhs_in := (fa_cons (hxs.up0 hs20) (fa_cons (Sl.cuthm (hbs.up0 hs20) (by first | (first | omega | (simp; omega)) | (have hpb := pipeOk_len (by assumption); have hpn := putN_le xs bs; first | omega | (simp; omega)))) fa_nil))) (hct := (by have hpb := pipeOk_len (by assumption); have hpn := putN_le xs bs; simp [catH]; omega))) ?_
            rintro _ w17 ⟨A_4_6, c_4_6, rfl, hs21'⟩
            have hs21 : SH w w17 [] [.blk b1 25 [.slice Axs xs.length cxs, .int .i64 ni, .bool eb], .blk b2 25 [.slice none 0 0, .int .i64 0, .bool false], .blk b_4_12 25 [.slice none 0 0, .int .i64 0, .bool false], .own (some ⟨b_4_5, 0, none⟩) ([(⟨Axs, cxs, xs⟩ : Hd), (⟨Abs, cbs, bs.take (putN xs bs)⟩ : Hd)].length) 2 23 1 ([(⟨Axs, cxs, xs⟩ : Hd), (⟨Abs, cbs, bs.take (putN xs bs)⟩ : Hd)].map hv), .own A_4_6 ((catH [(⟨Axs, cxs, xs⟩ : Hd), (⟨Abs, cbs, bs.take (putN xs bs)⟩ : Hd)]).length) c_4_6 3 1 ((catH [(⟨Axs, cxs, xs⟩ : Hd), (⟨Abs, cbs, bs.take (putN xs bs)⟩ : Hd)]).map I)] := hs20.call0 hs21'
            clear hs21'
            refine nl (kq ⟨_, hs21, memi 0 rfl, memi 1 rfl, trivial⟩ ?_)
            refine tk (fuel := 1) (is := [11]) (.cons rfl (.nil)) (by kernel_rfl) (by kernel_rfl) ⟨_, hs21, memi 0 rfl, memi 1 rfl, trivial⟩ ?_
            refine .op trivial rfl rfl (fun wq _ => bdv (v := .agg #[.slice A_4_6 ((catH [(⟨Axs, cxs, xs⟩ : Hd), (⟨Abs, cbs, bs.take (putN xs bs)⟩ : Hd)]).length) c_4_6, .int .i64 (ni + ((putN xs bs : Nat) : Int)), .bool false]) [(0, .slice A_4_6 ((catH [(⟨Axs, cxs, xs⟩ : Hd), (⟨Abs, cbs, bs.take (putN xs bs)⟩ : Hd)]).length) c_4_6), (1, .int .i64 (ni + ((putN xs bs : Nat) : Int))), (2, .bool false)] rfl (fun _ => by kernel_rfl)) ?_
            refine .nil ?_
            refine a1 (i := 13) (by kernel_rfl) ?_
            refine one_ rfl ?_
            refine stg (vs := [.slice A_4_6 ((catH [(⟨Axs, cxs, xs⟩ : Hd), (⟨Abs, cbs, bs.take (putN xs bs)⟩ : Hd)]).length) c_4_6, .int .i64 (ni + ((putN xs bs : Nat) : Int)), .bool false]) hs21 2 rfl rfl rfl rfl rfl rfl rfl ag25 trivial (fun w18 (hs22 : SH w w18 [] [.blk b1 25 [.slice Axs xs.length cxs, .int .i64 ni, .bool eb], .blk b2 25 [.slice none 0 0, .int .i64 0, .bool false], .own (some ⟨b_4_5, 0, none⟩) ([(⟨Axs, cxs, xs⟩ : Hd), (⟨Abs, cbs, bs.take (putN xs bs)⟩ : Hd)].length) 2 23 1 ([(⟨Axs, cxs, xs⟩ : Hd), (⟨Abs, cbs, bs.take (putN xs bs)⟩ : Hd)].map hv), .own A_4_6 ((catH [(⟨Axs, cxs, xs⟩ : Hd), (⟨Abs, cbs, bs.take (putN xs bs)⟩ : Hd)]).length) c_4_6 3 1 ((catH [(⟨Axs, cxs, xs⟩ : Hd), (⟨Abs, cbs, bs.take (putN xs bs)⟩ : Hd)]).map I), .blk b_4_12 25 [.slice A_4_6 ((catH [(⟨Axs, cxs, xs⟩ : Hd), (⟨Abs, cbs, bs.take (putN xs bs)⟩ : Hd)]).length) c_4_6, .int .i64 (ni + ((putN xs bs : Nat) : Int)), .bool false]]) => ?_)
            refine nl (kq ⟨_, hs22, memi 0 rfl, memi 1 rfl, trivial⟩ ?_)
            refine ad (by kernel_rfl) ?_
            exact ⟨b_4_5, A_4_6, c_4_6, b_4_12, ⟨rfl, rfl, rfl, trivial⟩, hs22⟩
        rintro f w19 ⟨b_4_5, A_4_6, c_4_6, b_4_12, hf, hs23⟩
        obtain ⟨g1, rfl⟩ := has_upd hf
        clear hf
        refine nN ?_
        have hs24 : SH w w19 [] [.blk b2 25 [.slice none 0 0, .int .i64 0, .bool false], .own A_4_6 ((catH [(⟨Axs, cxs, xs⟩ : Hd), (⟨Abs, cbs, bs.take (putN xs bs)⟩ : Hd)]).length) c_4_6 3 1 ((catH [(⟨Axs, cxs, xs⟩ : Hd), (⟨Abs, cbs, bs.take (putN xs bs)⟩ : Hd)]).map I), .blk b_4_12 25 [.slice A_4_6 ((catH [(⟨Axs, cxs, xs⟩ : Hd), (⟨Abs, cbs, bs.take (putN xs bs)⟩ : Hd)]).length) c_4_6, .int .i64 (ni + ((putN xs bs : Nat) : Int)), .bool false]] := hs23.pick [1, 3, 4] rfl (by decide)
        refine sq ?_
        refine sq ?_
        refine rg ?_
        refine q trivial rfl rfl (ldg (vs := [.slice A_4_6 ((catH [(⟨Axs, cxs, xs⟩ : Hd), (⟨Abs, cbs, bs.take (putN xs bs)⟩ : Hd)]).length) c_4_6, .int .i64 (ni + ((putN xs bs : Nat) : Int)), .bool false]) hs24 2 rfl rfl rfl rfl ag25) ?_
        refine cl trivial rfl (iPipeValid (Axs := A_4_6) (cxs := c_4_6) (xs := catH [(⟨Axs, cxs, xs⟩ : Hd), (⟨Abs, cbs, bs.take (putN xs bs)⟩ : Hd)]) (ni := ni + ((putN xs bs : Nat) : Int)) (eb := false) (w := _) (hxs := (hs24.sl0 1 rfl))) ?_
        rintro _ w20 ⟨rfl, hs25'⟩
        have hs25 : SH w w20 [] [.blk b2 25 [.slice none 0 0, .int .i64 0, .bool false], .own A_4_6 ((catH [(⟨Axs, cxs, xs⟩ : Hd), (⟨Abs, cbs, bs.take (putN xs bs)⟩ : Hd)]).length) c_4_6 3 1 ((catH [(⟨Axs, cxs, xs⟩ : Hd), (⟨Abs, cbs, bs.take (putN xs bs)⟩ : Hd)]).map I), .blk b_4_12 25 [.slice A_4_6 ((catH [(⟨Axs, cxs, xs⟩ : Hd), (⟨Abs, cbs, bs.take (putN xs bs)⟩ : Hd)]).length) c_4_6, .int .i64 (ni + ((putN xs bs : Nat) : Int)), .bool false]] := hs24.call0 hs25'
        clear hs25'
        refine q trivial rfl rfl (nt (b := pipeOk (catH [(⟨Axs, cxs, xs⟩ : Hd), (⟨Abs, cbs, bs.take (putN xs bs)⟩ : Hd)]) (ni + ((putN xs bs : Nat) : Int))) rfl) ?_
        refine nl ?_
        refine nN ?_
        refine cd (b := !(pipeOk (catH [(⟨Axs, cxs, xs⟩ : Hd), (⟨Abs, cbs, bs.take (putN xs bs)⟩ : Hd)]) (ni + ((putN xs bs : Nat) : Int)))) rfl (fun h8 => ?_) (fun h8 => ?_)
        · have h9 : (pipeOk (catH [(⟨Axs, cxs, xs⟩ : Hd), (⟨Abs, cbs, bs.take (putN xs bs)⟩ : Hd)]) (ni + ((putN xs bs : Nat) : Int))) = false := by simpa using h8
          refine sq ?_
          refine rg ?_
          refine q trivial rfl rfl (bdv (v := .agg #[.slice none 0 0, .int .i64 0, .bool false]) [] rfl (fun _ => by kernel_rfl)) ?_
          refine stg (vs := [.slice none 0 0, .int .i64 0, .bool false]) hs25 0 rfl rfl rfl rfl rfl rfl rfl ag25 trivial (fun w21 (hs26 : SH w w21 [] [.own A_4_6 ((catH [(⟨Axs, cxs, xs⟩ : Hd), (⟨Abs, cbs, bs.take (putN xs bs)⟩ : Hd)]).length) c_4_6 3 1 ((catH [(⟨Axs, cxs, xs⟩ : Hd), (⟨Abs, cbs, bs.take (putN xs bs)⟩ : Hd)]).map I), .blk b_4_12 25 [.slice A_4_6 ((catH [(⟨Axs, cxs, xs⟩ : Hd), (⟨Abs, cbs, bs.take (putN xs bs)⟩ : Hd)]).length) c_4_6, .int .i64 (ni + ((putN xs bs : Nat) : Int)), .bool false], .blk b2 25 [.slice none 0 0, .int .i64 0, .bool false]]) => ?_)
          refine q trivial rfl rfl (asg (v := .int .i64 0) rfl) ?_
          refine q trivial rfl rfl (asg (v := .bool false) rfl) ?_
          refine nl ?_
          refine nN ?_
          refine rt (tR ?_)
          refine fret (v := .tuple #[.agg #[.slice none 0 0, .int .i64 0, .bool false], .int .i64 0, .bool false]) (resC hs26 2 rfl rfl ag25 rfl (.tmp (.tmp .nil))) rfl ?_
          have hs27 : SH w w21 [] [.own A_4_6 ((catH [(⟨Axs, cxs, xs⟩ : Hd), (⟨Abs, cbs, bs.take (putN xs bs)⟩ : Hd)]).length) c_4_6 3 1 ((catH [(⟨Axs, cxs, xs⟩ : Hd), (⟨Abs, cbs, bs.take (putN xs bs)⟩ : Hd)]).map I), .blk b_4_12 25 [.slice A_4_6 ((catH [(⟨Axs, cxs, xs⟩ : Hd), (⟨Abs, cbs, bs.take (putN xs bs)⟩ : Hd)]).length) c_4_6, .int .i64 (ni + ((putN xs bs : Nat) : Int)), .bool false], .blk b2 25 [.slice none 0 0, .int .i64 0, .bool false], .own none (([] : List Int).length) 0 3 1 (([] : List Int).map I)] := SH.nils (by intro i hi; simp at hi; subst hi; exact nilItem) hs26
          have e20 : pipePut xs ni eb bs = (([] : List Int), 0, 0, false) := by (try simp only [catH_cons, catH_nil, List.append_nil] at h3 h6 h7 h9 ⊢); simp [pipePut, putOk, h3, h6, h7, h9]
          have e21 : ([] : List Int) = (pipePut xs ni eb bs).1 := by rw [e20]
          have e22 : ([] : List Int).length = ((pipePut xs ni eb bs).1).length := by exact congrArg List.length e21
          have e23 : 0 = (pipePut xs ni eb bs).2.1 := by rw [e20]
          have e24 : 0 = (pipePut xs ni eb bs).2.2.1 := by rw [e20]
          have e25 : false = (pipePut xs ni eb bs).2.2.2 := by rw [e20]
          exact ⟨none, 0, (tup3 (aggv (lc (slv rfl e22 rfl) (lc (congrArg (Value.int .i64) e23) (lc rfl rfl)))) (congrArg (Value.int .i64) e24) (congrArg (Value.bool) e25)), ((hs27.pick [3] rfl (by decide)).cast (lc (own_eq (g := I) rfl e22 rfl e21) rfl))⟩
        · have h10 : (pipeOk (catH [(⟨Axs, cxs, xs⟩ : Hd), (⟨Abs, cbs, bs.take (putN xs bs)⟩ : Hd)]) (ni + ((putN xs bs : Nat) : Int))) = true := by simpa using h8
          refine sk ?_
          refine nN ?_
          refine sq ?_
          refine rg ?_
          refine q trivial rfl rfl (ldg (vs := [.slice A_4_6 ((catH [(⟨Axs, cxs, xs⟩ : Hd), (⟨Abs, cbs, bs.take (putN xs bs)⟩ : Hd)]).length) c_4_6, .int .i64 (ni + ((putN xs bs : Nat) : Int)), .bool false]) hs25 2 rfl rfl rfl rfl ag25) ?_
          refine q trivial rfl rfl (mv (v := .int .i64 ((putN xs bs : Nat) : Int)) rfl) ?_
          refine stg (vs := [.slice A_4_6 ((catH [(⟨Axs, cxs, xs⟩ : Hd), (⟨Abs, cbs, bs.take (putN xs bs)⟩ : Hd)]).length) c_4_6, .int .i64 (ni + ((putN xs bs : Nat) : Int)), .bool false]) hs25 0 rfl rfl rfl rfl rfl rfl rfl ag25 trivial (fun w22 (hs28 : SH w w22 [] [.own A_4_6 ((catH [(⟨Axs, cxs, xs⟩ : Hd), (⟨Abs, cbs, bs.take (putN xs bs)⟩ : Hd)]).length) c_4_6 3 1 ((catH [(⟨Axs, cxs, xs⟩ : Hd), (⟨Abs, cbs, bs.take (putN xs bs)⟩ : Hd)]).map I), .blk b_4_12 25 [.slice A_4_6 ((catH [(⟨Axs, cxs, xs⟩ : Hd), (⟨Abs, cbs, bs.take (putN xs bs)⟩ : Hd)]).length) c_4_6, .int .i64 (ni + ((putN xs bs : Nat) : Int)), .bool false], .blk b2 25 [.slice A_4_6 ((catH [(⟨Axs, cxs, xs⟩ : Hd), (⟨Abs, cbs, bs.take (putN xs bs)⟩ : Hd)]).length) c_4_6, .int .i64 (ni + ((putN xs bs : Nat) : Int)), .bool false]]) => ?_)
          refine q trivial rfl rfl (asg (v := .int .i64 ((putN xs bs : Nat) : Int)) rfl) ?_
          refine q trivial rfl rfl (asg (v := .bool true) rfl) ?_
          refine nl ?_
          refine nN ?_
          refine rt ?_
          refine fret (v := .tuple #[.agg #[.slice A_4_6 ((catH [(⟨Axs, cxs, xs⟩ : Hd), (⟨Abs, cbs, bs.take (putN xs bs)⟩ : Hd)]).length) c_4_6, .int .i64 (ni + ((putN xs bs : Nat) : Int)), .bool false], .int .i64 ((putN xs bs : Nat) : Int), .bool true]) (resC hs28 2 rfl rfl ag25 rfl (.tmp (.tmp .nil))) rfl ?_
          have e26 : pipePut xs ni eb bs = (catH [(⟨Axs, cxs, xs⟩ : Hd), (⟨Abs, cbs, bs.take (putN xs bs)⟩ : Hd)], ni + ((putN xs bs : Nat) : Int), ((putN xs bs : Nat) : Int), true) := by (try simp only [catH_cons, catH_nil, List.append_nil] at h3 h6 h7 h10 ⊢); simp [pipePut, putOk, h3, h6, h7, h10]
          have e27 : catH [(⟨Axs, cxs, xs⟩ : Hd), (⟨Abs, cbs, bs.take (putN xs bs)⟩ : Hd)] = (pipePut xs ni eb bs).1 := by rw [e26]
          have e28 : (catH [(⟨Axs, cxs, xs⟩ : Hd), (⟨Abs, cbs, bs.take (putN xs bs)⟩ : Hd)]).length = ((pipePut xs ni eb bs).1).length := by exact congrArg List.length e27
          have e29 : ni + ((putN xs bs : Nat) : Int) = (pipePut xs ni eb bs).2.1 := by rw [e26]
          have e30 : ((putN xs bs : Nat) : Int) = (pipePut xs ni eb bs).2.2.1 := by rw [e26]
          have e31 : true = (pipePut xs ni eb bs).2.2.2 := by rw [e26]
          exact ⟨A_4_6, c_4_6, (tup3 (aggv (lc (slv rfl e28 rfl) (lc (congrArg (Value.int .i64) e29) (lc rfl rfl)))) (congrArg (Value.int .i64) e30) (congrArg (Value.bool) e31)), ((hs28.pick [0] rfl (by decide)).cast (lc (own_eq (g := I) rfl e28 rfl e27) rfl))⟩

theorem sPipePut {Axs : Option Addr} {cxs : Nat} (xs : List Int) (ni : Int) (eb : Bool) {Abs : Option Addr} {cbs : Nat} (bs : List Int) (w : World) (hxs : Sl w [] 1 Axs xs.length cxs (xs.map I)) (hbs : Sl w [] 1 Abs bs.length cbs (bs.map I)) : Does Try.prog 36 [.agg #[.slice Axs xs.length cxs, .int .i64 ni, .bool eb], .slice Abs bs.length cbs] w (fun v w' => ∃ Ar : Option Addr, ∃ cr : Nat, v = .tuple #[.agg #[.slice Ar ((pipePut xs ni eb bs).1).length cr, .int .i64 ((pipePut xs ni eb bs).2.1), .bool false], .int .i64 ((pipePut xs ni eb bs).2.2.1), .bool ((pipePut xs ni eb bs).2.2.2)] ∧ SH w w' [] [.own Ar (((pipePut xs ni eb bs).1).length) cr 3 1 (((pipePut xs ni eb bs).1).map I)]) := by
  refine fn_enter (N := 48) Try.func36 rfl (by kernel_rfl) rfl rfl rfl ?_
  have hs0 : SH w w [] [] := SH.refl w []
  have hxs_m : xs.length ≤ 9223372036854775807 := Nat.le_trans hxs.cap hxs.capMax
  have hbs_m : bs.length ≤ 9223372036854775807 := Nat.le_trans hbs.cap hbs.capMax
  refine sq ?_
  refine rg ?_
  refine bx (v := .agg #[.slice Axs xs.length cxs, .int .i64 ni, .bool eb]) (cs := [.slice Axs xs.length cxs, .int .i64 ni, .bool eb]) hs0 rfl rfl trivial rfl (fun b1 w1 (hs1 : SH w w1 [] [.blk b1 25 [.slice Axs xs.length cxs, .int .i64 ni, .bool eb]]) => ?_)
  refine al (v := .agg #[.slice none 0 0, .int .i64 0, .bool false]) (cs := [.slice none 0 0, .int .i64 0, .bool false]) hs1 tz25 rfl trivial rfl (fun b2 w2 (hs2 : SH w w2 [] [.blk b1 25 [.slice Axs xs.length cxs, .int .i64 ni, .bool eb], .blk b2 25 [.slice none 0 0, .int .i64 0, .bool false]]) => ?_)
  refine q trivial rfl rfl (asg (v := .int .i64 0) rfl) ?_
  refine q trivial rfl rfl (asg (v := .bool false) rfl) ?_
  refine nl ?_
  refine nN ?_
  refine sq ?_
  refine sq ?_
  refine rg ?_
  refine q trivial rfl rfl (ldg (vs := [.slice Axs xs.length cxs, .int .i64 ni, .bool eb]) hs2 0 rfl rfl rfl rfl ag25) ?_
  refine cl trivial rfl (sPipeValid (Axs := Axs) (cxs := cxs) (xs := xs) (ni := ni) (eb := eb) (w := _) (hxs := (hxs.up0 hs2))) ?_
  rintro _ w3 ⟨rfl, hs3'⟩
  have hs3 : SH w w3 [] [.blk b1 25 [.slice Axs xs.length cxs, .int .i64 ni, .bool eb], .blk b2 25 [.slice none 0 0, .int .i64 0, .bool false]] := hs2.call0 hs3'
  clear hs3'
  refine q trivial rfl rfl (nt (b := pipeOk xs ni) rfl) ?_
  refine q trivial rfl rfl (mv (v := .bool (!(pipeOk xs ni))) rfl) ?_
  refine spl (b := !(pipeOk xs ni)) 12 rfl (fun h1 => ?_) (fun h1 => ?_)
  · have h2 : (pipeOk xs ni) = false := by simpa using h1
    refine gk true rfl rfl rfl rfl rfl ?_
    refine gk true rfl rfl rfl rfl rfl ?_
    refine gk true rfl rfl rfl rfl rfl ?_
    refine q trivial rfl rfl (pt (v := .bool true) rfl rfl) ?_
    refine q trivial rfl rfl (mv (v := .bool true) rfl) ?_
    refine gk true rfl rfl rfl rfl rfl ?_
    refine gk true rfl rfl rfl rfl rfl ?_
    refine q trivial rfl rfl (pt (v := .bool true) rfl rfl) ?_
    refine nl ?_
    refine nN ?_
    refine cdt rfl ?_
    refine sq ?_
    refine rg ?_
    refine q trivial rfl rfl (bdv (v := .agg #[.slice none 0 0, .int .i64 0, .bool false]) [] rfl (fun _ => by kernel_rfl)) ?_
    refine stg (vs := [.slice none 0 0, .int .i64 0, .bool false]) hs3 1 rfl rfl rfl rfl rfl rfl rfl ag25 trivial (fun w4 (hs4 : SH w w4 [] [.blk b1 25 [.slice Axs xs.length cxs, .int .i64 ni, .bool eb], .blk b2 25 [.slice none 0 0, .int .i64 0, .bool false]]) => ?_)
    refine q trivial rfl rfl (asg (v := .int .i64 0) rfl) ?_
    refine q trivial rfl rfl (asg (v := .bool false) rfl) ?_
    refine nl ?_
    refine nN ?_
    refine rt (tR ?_)
    refine fret (v := .tuple #[.agg #[.slice none 0 0, .int .i64 0, .bool false], .int .i64 0, .bool false]) (resC hs4 1 rfl rfl ag25 rfl (.tmp (.tmp .nil))) rfl ?_
    have hs5 : SH w w4 [] [.blk b1 25 [.slice Axs xs.length cxs, .int .i64 ni, .bool eb], .blk b2 25 [.slice none 0 0, .int .i64 0, .bool false], .own none (([] : List Int).length) 0 3 1 (([] : List Int).map I)] := SH.nils (by intro i hi; simp at hi; subst hi; exact nilItem) hs4
    have e1 : pipePut xs ni eb bs = (([] : List Int), 0, 0, false) := by (try simp only [catH_cons, catH_nil, List.append_nil] at h2 ⊢); simp [pipePut, putOk, h2]
    have e2 : ([] : List Int) = (pipePut xs ni eb bs).1 := by rw [e1]
    have e3 : ([] : List Int).length = ((pipePut xs ni eb bs).1).length := by exact congrArg List.length e2
    have e4 : 0 = (pipePut xs ni eb bs).2.1 := by rw [e1]
    have e5 : 0 = (pipePut xs ni eb bs).2.2.1 := by rw [e1]
    have e6 : false = (pipePut xs ni eb bs).2.2.2 := by rw [e1]
    exact ⟨none, 0, (tup3 (aggv (lc (slv rfl e3 rfl) (lc (congrArg (Value.int .i64) e4) (lc rfl rfl)))) (congrArg (Value.int .i64) e5) (congrArg (Value.bool) e6)), ((hs5.pick [2] rfl (by decide)).cast (lc (own_eq (g := I) rfl e3 rfl e2) rfl))⟩
  · have h3 : (pipeOk xs ni) = true := by simpa using h1
    refine q ⟨_, rfl, rfl⟩ rfl rfl (mv (v := .slice Abs bs.length cbs) rfl) ?_
    refine cl ⟨_, rfl, rfl⟩ rfl (sBytesValid (Azs := Abs) (czs := cbs) (zs := bs) (w := _) (hzs := (hbs.up0 hs3))) ?_
    rintro _ w5 ⟨rfl, hs6'⟩
    have hs6 : SH w w5 [] [.blk b1 25 [.slice Axs xs.length cxs, .int .i64 ni, .bool eb], .blk b2 25 [.slice none 0 0, .int .i64 0, .bool false]] := hs3.call0 hs6'
    clear hs6'
    refine q ⟨_, rfl, rfl⟩ rfl rfl (nt (b := isBytes bs) rfl) ?_
    refine q trivial rfl rfl (pf (v := .bool (!(isBytes bs))) rfl rfl) ?_
    refine q trivial rfl rfl (mv (v := .bool (!(isBytes bs))) rfl) ?_
    refine spl (b := !(isBytes bs)) 17 rfl (fun h4 => ?_) (fun h4 => ?_)
    · have h5 : (isBytes bs) = false := by simpa using h4
      refine gk true rfl rfl rfl rfl rfl ?_
      refine gk true rfl rfl rfl rfl rfl ?_
      refine q trivial rfl rfl (pt (v := .bool true) rfl rfl) ?_
      refine nl ?_
      refine nN ?_
      refine cdt rfl ?_
      refine sq ?_
      refine rg ?_
      refine q trivial rfl rfl (bdv (v := .agg #[.slice none 0 0, .int .i64 0, .bool false]) [] rfl (fun _ => by kernel_rfl)) ?_
      refine stg (vs := [.slice none 0 0, .int .i64 0, .bool false]) hs6 1 rfl rfl rfl rfl rfl rfl rfl ag25 trivial (fun w6 (hs7 : SH w w6 [] [.blk b1 25 [.slice Axs xs.length cxs, .int .i64 ni, .bool eb], .blk b2 25 [.slice none 0 0, .int .i64 0, .bool false]]) => ?_)
      refine q trivial rfl rfl (asg (v := .int .i64 0) rfl) ?_
      refine q trivial rfl rfl (asg (v := .bool false) rfl) ?_
      refine nl ?_
      refine nN ?_
      refine rt (tR ?_)
      refine fret (v := .tuple #[.agg #[.slice none 0 0, .int .i64 0, .bool false], .int .i64 0, .bool false]) (resC hs7 1 rfl rfl ag25 rfl (.tmp (.tmp .nil))) rfl ?_
      have hs8 : SH w w6 [] [.blk b1 25 [.slice Axs xs.length cxs, .int .i64 ni, .bool eb], .blk b2 25 [.slice none 0 0, .int .i64 0, .bool false], .own none (([] : List Int).length) 0 3 1 (([] : List Int).map I)] := SH.nils (by intro i hi; simp at hi; subst hi; exact nilItem) hs7
      have e7 : pipePut xs ni eb bs = (([] : List Int), 0, 0, false) := by (try simp only [catH_cons, catH_nil, List.append_nil] at h3 h5 ⊢); simp [pipePut, putOk, h3, h5]
      have e8 : ([] : List Int) = (pipePut xs ni eb bs).1 := by rw [e7]
      have e9 : ([] : List Int).length = ((pipePut xs ni eb bs).1).length := by exact congrArg List.length e8
      have e10 : 0 = (pipePut xs ni eb bs).2.1 := by rw [e7]
      have e11 : 0 = (pipePut xs ni eb bs).2.2.1 := by rw [e7]
      have e12 : false = (pipePut xs ni eb bs).2.2.2 := by rw [e7]
      exact ⟨none, 0, (tup3 (aggv (lc (slv rfl e9 rfl) (lc (congrArg (Value.int .i64) e10) (lc rfl rfl)))) (congrArg (Value.int .i64) e11) (congrArg (Value.bool) e12)), ((hs8.pick [2] rfl (by decide)).cast (lc (own_eq (g := I) rfl e9 rfl e8) rfl))⟩
    · have h6 : (isBytes bs) = true := by simpa using h4
      refine q ⟨_, rfl, rfl⟩ rfl rfl (fa 2 fo25_2 rfl) ?_
      refine q ⟨_, rfl, rfl⟩ rfl rfl (ld (v := .bool eb) hs6 0 rfl rfl rfl one4) ?_
      refine q trivial rfl rfl (pf (v := .bool eb) rfl rfl) ?_
      refine nl ?_
      refine nN ?_
      refine cd (b := eb) rfl (fun h7 => ?_) (fun h7 => ?_)
      · refine sq ?_
        refine rg ?_
        refine q trivial rfl rfl (bdv (v := .agg #[.slice none 0 0, .int .i64 0, .bool false]) [] rfl (fun _ => by kernel_rfl)) ?_
        refine stg (vs := [.slice none 0 0, .int .i64 0, .bool false]) hs6 1 rfl rfl rfl rfl rfl rfl rfl ag25 trivial (fun w7 (hs9 : SH w w7 [] [.blk b1 25 [.slice Axs xs.length cxs, .int .i64 ni, .bool eb], .blk b2 25 [.slice none 0 0, .int .i64 0, .bool false]]) => ?_)
        refine q trivial rfl rfl (asg (v := .int .i64 0) rfl) ?_
        refine q trivial rfl rfl (asg (v := .bool false) rfl) ?_
        refine nl ?_
        refine nN ?_
        refine rt (tR ?_)
        refine fret (v := .tuple #[.agg #[.slice none 0 0, .int .i64 0, .bool false], .int .i64 0, .bool false]) (resC hs9 1 rfl rfl ag25 rfl (.tmp (.tmp .nil))) rfl ?_
        have hs10 : SH w w7 [] [.blk b1 25 [.slice Axs xs.length cxs, .int .i64 ni, .bool eb], .blk b2 25 [.slice none 0 0, .int .i64 0, .bool false], .own none (([] : List Int).length) 0 3 1 (([] : List Int).map I)] := SH.nils (by intro i hi; simp at hi; subst hi; exact nilItem) hs9
        have e13 : pipePut xs ni eb bs = (([] : List Int), 0, 0, false) := by (try simp only [catH_cons, catH_nil, List.append_nil] at h3 h6 h7 ⊢); simp [pipePut, putOk, h3, h6, h7]
        have e14 : ([] : List Int) = (pipePut xs ni eb bs).1 := by rw [e13]
        have e15 : ([] : List Int).length = ((pipePut xs ni eb bs).1).length := by exact congrArg List.length e14
        have e16 : 0 = (pipePut xs ni eb bs).2.1 := by rw [e13]
        have e17 : 0 = (pipePut xs ni eb bs).2.2.1 := by rw [e13]
        have e18 : false = (pipePut xs ni eb bs).2.2.2 := by rw [e13]
        exact ⟨none, 0, (tup3 (aggv (lc (slv rfl e15 rfl) (lc (congrArg (Value.int .i64) e16) (lc rfl rfl)))) (congrArg (Value.int .i64) e17) (congrArg (Value.bool) e18)), ((hs10.pick [2] rfl (by decide)).cast (lc (own_eq (g := I) rfl e15 rfl e14) rfl))⟩
      · refine sk ?_
        refine nN ?_
        refine sq ?_
        refine rg ?_
        refine q trivial rfl rfl (mv (v := .slice Abs bs.length cbs) rfl) ?_
        refine q trivial rfl rfl (lnA (n := bs.length) sl23 rfl) ?_
        refine q trivial rfl rfl (fa 0 fo25_0 rfl) ?_
        refine q trivial rfl rfl (ld (v := .slice Axs xs.length cxs) hs6 0 rfl rfl rfl one23) ?_
        refine q trivial rfl rfl (lnA (n := xs.length) sl23 rfl) ?_
        refine q trivial rfl rfl (sub (a := 16) (b := ((xs.length : Nat) : Int)) rfl rfl (by first | (exact ⟨by omega, by omega⟩) | (have hpb := pipeOk_len (by assumption); have hpn := putN_le xs bs; exact ⟨by omega, by omega⟩))) ?_
        refine q trivial rfl rfl (mnI (a := ((bs.length : Nat) : Int)) (b := 16 - ((xs.length : Nat) : Int)) rfl rfl) ?_
        refine q trivial rfl rfl (asg (v := .int .i64 (min ((bs.length : Nat) : Int) (16 - ((xs.length : Nat) : Int)))) rfl) ?_
        have e19 : min ((bs.length : Nat) : Int) (16 - ((xs.length : Nat) : Int)) = ((putN xs bs : Nat) : Int) := by have hpb := pipeOk_len (by assumption); exact putN_eq xs bs (by omega)
        refine re 7 (v := .int .i64 ((putN xs bs : Nat) : Int)) (congrArg (Value.int .i64) e19) ?_
        refine nl ?_
        refine nN ?_
        refine sq ?_
        refine raJ (fun w' => ∃ L, SH w w' [] L ∧ (.blk b1 25 [.slice Axs xs.length cxs, .int .i64 ni, .bool eb]) ∈ L ∧ (.blk b2 25 [.slice none 0 0, .int .i64 0, .bool false]) ∈ L ∧ True) (fun f w' => ∃ A_4_7 : Option Addr, ∃ c_4_7 : Nat, ∃ b_4_13 : Nat, Has f [(4, .pointer (some ⟨b2, 0, none⟩)), (7, .int .i64 ((putN xs bs : Nat) : Int)), (8, .pointer (some ⟨b_4_13, 0, none⟩))] ∧ SH w w' [] [.blk b1 25 [.slice Axs xs.length cxs, .int .i64 ni, .bool eb], .blk b2 25 [.slice none 0 0, .int .i64 0, .bool false], .own A_4_7 ((xs ++ (bs.take (putN xs bs))).length) c_4_7 3 1 ((xs ++ (bs.take (putN xs bs))).map I), .blk b_4_13 25 [.slice A_4_7 ((xs ++ (bs.take (putN xs bs))).length) c_4_7, .int .i64 (ni + ((putN xs bs : Nat) : Int)), .bool false]]) mixed ?_ ?_
        · have hs11 := hs6.drew
          refine tk (fuel := 6) (is := [1, 2, 4, 5, 6, 8, 9, 10, 11]) (.cons rfl (.cons rfl (.cons rfl (.cons rfl (.cons rfl (.cons rfl (.cons rfl (.cons rfl (.cons rfl (.nil)))))))))) (by kernel_rfl) (by kernel_rfl) ⟨_, hs11, memi 0 rfl, memi 1 rfl, trivial⟩ ?_
          refine .op trivial rfl rfl (fun wq _ => fa 0 fo25_0 rfl) ?_
          refine .op trivial rfl rfl (fun wq ⟨Lq, hsq, mh0, mh1, _⟩ => ldm (v := .slice Axs xs.length cxs) hsq mh0 rfl rfl one23) ?_
          refine .op trivial rfl rfl (fun wq _ => mv (v := .slice Abs bs.length cbs) rfl) ?_
          refine .op trivial rfl rfl (fun wq _ => mv (v := .int .i64 ((putN xs bs : Nat) : Int)) rfl) ?_
          refine .op trivial rfl rfl (fun wq _ => cuhm_ (zs := bs) (putN xs bs) sl23 rfl rfl (by first | (first | omega | (simp; omega)) | (have hpb := pipeOk_len (by assumption); have hpn := putN_le xs bs; first | omega | (simp; omega))) hbs.cap) ?_
          refine .op trivial rfl rfl (fun wq _ => fa 1 fo25_1 rfl) ?_
          refine .op trivial rfl rfl (fun wq ⟨Lq, hsq, mh0, mh1, _⟩ => ldm (v := .int .i64 ni) hsq mh0 rfl rfl one3) ?_
          refine .op trivial rfl rfl (fun wq _ => mv (v := .int .i64 ((putN xs bs : Nat) : Int)) rfl) ?_
          refine .op trivial rfl rfl (fun wq _ => add (a := ni) (b := ((putN xs bs : Nat) : Int)) rfl rfl (by first | (exact ⟨by omega, by omega⟩) | (have hpb := pipeOk_len (by assumption); have hpn := putN_le xs bs; exact ⟨by omega, by omega⟩))) ?_
          refine .nil ?_
          refine a2 (i := 0) (j := 13) (by kernel_rfl) ?_ ?_
          · refine one_ rfl ?_
            refine Go.PF.bs hs11 sl23 [] rfl (cs := []) (by kernel_rfl) rfl (by decide) (by decide) trivial rfl (fun b_4_0 w8 (hs12 : SH w w8 [] [.blk b1 25 [.slice Axs xs.length cxs, .int .i64 ni, .bool eb], .blk b2 25 [.slice none 0 0, .int .i64 0, .bool false], .own (some ⟨b_4_0, 0, none⟩) (([] : List Int).length) 0 3 1 (([] : List Int).map I)]) => ?_)
            refine nl (kq ⟨_, hs12, memi 0 rfl, memi 1 rfl, trivial⟩ ?_)
            refine a2 (i := 3) (j := 13) (by kernel_rfl) ?_ ?_
            · refine one_ rfl ?_
              refine apm (g := I) (ys := ([] : List Int)) (zs := xs) hs12 2 rfl sl23 rfl rfl rfl (hxs.up0 hs12) (fun _ => rfl) (by unfold maxLen; first | (first | omega | (simp; omega)) | (have hpb := pipeOk_len (by assumption); have hpn := putN_le xs bs; first | omega | (simp; omega))) (by first | (first | omega | (simp; omega)) | (have hpb := pipeOk_len (by assumption); have hpn := putN_le xs bs; first | omega | (simp; omega))) trivial rfl (fun A_4_3 c_4_3 w9 (hs13 : SH w w9 [] [.blk b1 25 [.slice Axs xs.length cxs, .int .i64 ni, .bool eb], .blk b2 25 [.slice none 0 0, .int .i64 0, .bool false], .own A_4_3 xs.length c_4_3 3 1 (xs.map I)]) => ?_)
              refine nl (kq ⟨_, hs13, memi 0 rfl, memi 1 rfl, trivial⟩ ?_)
              refine a2 (i := 7) (j := 13) (by kernel_rfl) ?_ ?_
              · refine one_ rfl ?_
                refine apm (g := I) (ys := xs) (zs := bs.take (putN xs bs)) hs13 2 rfl sl23 rfl rfl rfl (Sl.cuthm (hbs.up0 hs13) (by first | (first | omega | (simp; omega)) | (have hpb := pipeOk_len (by assumption); have hpn := putN_le xs bs; first | omega | (simp; omega)))) (fun _ => rfl) (by unfold maxLen; first | (first | omega | (simp; omega)) | (have hpb := pipeOk_len (by assumption); have hpn := putN_le xs bs; first | omega | (simp; omega))) (by first | (first | omega | (simp; omega)) | (have hpb := pipeOk_len (by assumption); have hpn := putN_le xs bs; first | omega | (simp; omega))) trivial rfl (fun A_4_7 c_4_7 w10 (hs14 : SH w w10 [] [.blk b1 25 [.slice Axs xs.length cxs, .int .i64 ni, .bool eb], .blk b2 25 [.slice none 0 0, .int .i64 0, .bool false], .own A_4_7 ((xs ++ (bs.take (putN xs bs))).length) c_4_7 3 1 ((xs ++ (bs.take (putN xs bs))).map I)]) => ?_)
                refine nl (kq ⟨_, hs14, memi 0 rfl, memi 1 rfl, trivial⟩ ?_)
                refine tk (fuel := 2) (is := [12]) (.cons rfl (.nil)) (by kernel_rfl) (by kernel_rfl) ⟨_, hs14, memi 0 rfl, memi 1 rfl, trivial⟩ ?_
                refine .op trivial rfl rfl (fun wq _ => bdv (v := .agg #[.slice A_4_7 ((xs ++ (bs.take (putN xs bs))).length) c_4_7, .int .i64 (ni + ((putN xs bs : Nat) : Int)), .bool false]) [(0, .slice A_4_7 ((xs ++ (bs.take (putN xs bs))).length) c_4_7), (1, .int .i64 (ni + ((putN xs bs : Nat) : Int)))] rfl (fun _ => by kernel_rfl)) ?_
                refine .nil ?_
                refine a1 (i := 13) (by kernel_rfl) ?_
                refine one_ rfl ?_
                refine al (v := .agg #[.slice none 0 0, .int .i64 0, .bool false]) (cs := [.slice none 0 0, .int .i64 0, .bool false]) hs14 tz25 rfl trivial rfl (fun b_4_13 w11 (hs15 : SH w w11 [] [.blk b1 25 [.slice Axs xs.length cxs, .int .i64 ni, .bool eb], .blk b2 25 [.slice none 0 0, .int .i64 0, .bool false], .own A_4_7 ((xs ++ (bs.take (putN xs bs))).length) c_4_7 3 1 ((xs ++ (bs.take (putN xs bs))).map I), .blk b_4_13 25 [.slice none 0 0, .int .i64 0, .bool false]]) => ?_)
                refine nl (kq ⟨_, hs15, memi 0 rfl, memi 1 rfl, trivial⟩ ?_)
                refine a1 (i := 14) (by kernel_rfl) ?_
                refine one_ rfl ?_
                refine stg (vs := [.slice A_4_7 ((xs ++ (bs.take (putN xs bs))).length) c_4_7, .int .i64 (ni + ((putN xs bs : Nat) : Int)), .bool false]) hs15 3 rfl rfl rfl rfl rfl rfl rfl ag25 trivial (fun w12 (hs16 : SH w w12 [] [.blk b1 25 [.slice Axs xs.length cxs, .int .i64 ni, .bool eb], .blk b2 25 [.slice none 0 0, .int .i64 0, .bool false], .own A_4_7 ((xs ++ (bs.take (putN xs bs))).length) c_4_7 3 1 ((xs ++ (bs.take (putN xs bs))).map I), .blk b_4_13 25 [.slice A_4_7 ((xs ++ (bs.take (putN xs bs))).length) c_4_7, .int .i64 (ni + ((putN xs bs : Nat) : Int)), .bool false]]) => ?_)
                refine nl (kq ⟨_, hs16, memi 0 rfl, memi 1 rfl, trivial⟩ ?_)
                refine ad (by kernel_rfl) ?_
                exact ⟨A_4_7, c_4_7, b_4_13, ⟨rfl, rfl, rfl, trivial⟩, hs16⟩
              · refine one_ rfl ?_
                refine al (v := .agg #[.slice none 0 0, .int .i64 0, .bool false]) (cs := [.slice none 0 0, .int .i64 0, .bool false]) hs13 tz25 rfl trivial rfl (fun b_4_13 w13 (hs17 : SH w w13 [] [.blk b1 25 [.slice Axs xs.length cxs, .int .i64 ni, .bool eb], .blk b2 25 [.slice none 0 0, .int .i64 0, .bool false], .own A_4_3 xs.length c_4_3 3 1 (xs.map I), .blk b_4_13 25 [.slice none 0 0, .int .i64 0, .bool false]]) => ?_)
                refine nl (kq ⟨_, hs17, memi 0 rfl, memi 1 rfl, trivial⟩ ?_)
                refine a1 (i := 7) (by kernel_rfl) ?_
                refine one_ rfl ?_
                refine apm (g := I) (ys := xs) (zs := bs.take (putN xs bs)) hs17 2 rfl sl23 rfl rfl rfl (Sl.cuthm (hbs.up0 hs17) (by first | (first | omega | (simp; omega)) | (have hpb := pipeOk_len (by assumption); have hpn := putN_le xs bs; first | omega | (simp; omega)))) (fun _ => rfl) (by unfold maxLen; first | (first | omega | (simp; omega)) | (have hpb := pipeOk_len (by assumption); have hpn := putN_le xs bs; first | omega | (simp; omega))) (by first | (first | omega | (simp; omega)) | (have hpb := pipeOk_len (by assumption); have hpn := putN_le xs bs; first | omega | (simp; omega))) trivial rfl (fun A_4_7 c_4_7 w14 (hs18 : SH w w14 [] [.blk b1 25 [.slice Axs xs.length cxs, .int .i64 ni, .bool eb], .blk b2 25 [.slice none 0 0, .int .i64 0, .bool false], .blk b_4_13 25 [.slice none 0 0, .int .i64 0, .bool false], .own A_4_7 ((xs ++ (bs.take (putN xs bs))).length) c_4_7 3 1 ((xs ++ (bs.take (putN xs bs))).map I)]) => ?_)
                refine nl (kq ⟨_, hs18, memi 0 rfl, memi 1 rfl, trivial⟩ ?_)
                refine tk (fuel := 1) (is := [12]) (.cons rfl (.nil)) (by kernel_rfl) (by kernel_rfl) ⟨_, hs18, memi 0 rfl, memi 1 rfl, trivial⟩ ?_
                refine .op trivial rfl rfl (fun wq _ => bdv (v := .agg #[.slice A_4_7 ((xs ++ (bs.take (putN xs bs))).length) c_4_7, .int .i64 (ni + ((putN xs bs : Nat) : Int)), .bool false]) [(0, .slice A_4_7 ((xs ++ (bs.take (putN xs bs))).length) c_4_7), (1, .int .i64 (ni + ((putN xs bs : Nat) : Int)))] rfl (fun _ => by kernel_rfl)) ?_
                refine .nil ?_
                refine a1 (i := 14) (by kernel_rfl) ?_
                refine one_ rfl ?_
                refine stg (vs := [.slice A_4_7 ((xs ++ (bs.take (putN xs bs))).length) c_4_7, .int .i64 (ni + ((putN xs bs : Nat) : Int)), .bool false]) hs18 2 rfl rfl rfl rfl rfl rfl rfl ag25 trivial (fun w15 (hs19 : SH w w15 [] [.blk b1 25 [.slice Axs xs.length cxs, .int .i64 ni, .bool eb], .blk b2 25 [.slice none 0 0, .int .i64 0, .bool false], .own A_4_7 ((xs ++ (bs.take (putN xs bs))).length) c_4_7 3 1 ((xs ++ (bs.take (putN xs bs))).map I), .blk b_4_13 25 [.slice A_4_7 ((xs ++ (bs.take (putN xs bs))).length) c_4_7, .int .i64 (ni + ((putN xs bs : Nat) : Int)), .bool false]]) => ?_)
                refine nl (kq ⟨_, hs19, memi 0 rfl, memi 1 rfl, trivial⟩ ?_)
                refine ad (by kernel_rfl) ?_
                exact ⟨A_4_7, c_4_7, b_4_13, ⟨rfl, rfl, rfl, trivial⟩, hs19⟩
            · refine one_ rfl ?_
              refine al (v := .agg #[.slice none 0 0, .int .i64 0, .bool false]) (cs := [.slice none 0 0, .int .i64 0, .bool false]) hs12 tz25 rfl trivial rfl (fun b_4_13 w16 (hs20 : SH w w16 [] [.blk b1 25 [.slice Axs xs.length cxs, .int .i64 ni, .bool eb], .blk b2 25 [.slice none 0 0, .int .i64 0, .bool false], .own (some ⟨b_4_0, 0, none⟩) (([] : List Int).length) 0 3 1 (([] : List Int).map I), .blk b_4_13 25 [.slice none 0 0, .int .i64 0, .bool false]]) => ?_)
              refine nl (kq ⟨_, hs20, memi 0 rfl, memi 1 rfl, trivial⟩ ?_)
              refine a1 (i := 3) (by kernel_rfl) ?_
              refine one_ rfl ?_
              refine apm (g := I) (ys := ([] : List Int)) (zs := xs) hs20 2 rfl sl23 rfl rfl rfl (hxs.up0 hs20) (fun _ => rfl) (by unfold maxLen; first | (first | omega | (simp; omega)) | (have hpb := pipeOk_len (by assumption); have hpn := putN_le xs bs; first | omega | (simp; omega))) (by first | (first | omega | (simp; omega)) | (have hpb := pipeOk_len (by assumption); have hpn := putN_le xs bs; first | omega | (simp; omega))) trivial rfl (fun A_4_3 c_4_3 w17 (hs21 : SH w w17 [] [.blk b1 25 [.slice Axs xs.length cxs, .int .i64 ni, .bool eb], .blk b2 25 [.slice none 0 0, .int .i64 0, .bool false], .blk b_4_13 25 [.slice none 0 0, .int .i64 0, .bool false], .own A_4_3 xs.length c_4_3 3 1 (xs.map I)]) => ?_)
              refine nl (kq ⟨_, hs21, memi 0 rfl, memi 1 rfl, trivial⟩ ?_)
              refine a1 (i := 7) (by kernel_rfl) ?_
              refine one_ rfl ?_
              refine apm (g := I) (ys := xs) (zs := bs.take (putN xs bs)) hs21 3 rfl sl23 rfl rfl rfl (Sl.cuthm (hbs.up0 hs21) (by first | (first | omega | (simp; omega)) | (have hpb := pipeOk_len (by assumption); have hpn := putN_le xs bs; first | omega | (simp; omega)))) (fun _ => rfl) (by unfold maxLen; first | (first | omega | (simp; omega)) | (have hpb := pipeOk_len (by assumption); have hpn := putN_le xs bs; first | omega | (simp; omega))) (by first | (first | omega | (simp; omega)) | (have hpb := pipeOk_len (by assumption); have hpn := putN_le xs bs; first | omega | (simp; omega))) trivial rfl (fun A_4_7 c_4_7 w18 (hs22 : SH w w18 [] [.blk b1 25 [.slice Axs xs.length cxs, .int .i64 ni, .bool eb], .blk b2 25 [.slice none 0 0, .int .i64 0, .bool false], .blk b_4_13 25 [.slice none 0 0, .int .i64 0, .bool false], .own A_4_7 ((xs ++ (bs.take (putN xs bs))).length) c_4_7 3 1 ((xs ++ (bs.take (putN xs bs))).map I)]) => ?_)
              refine nl (kq ⟨_, hs22, memi 0 rfl, memi 1 rfl, trivial⟩ ?_)
              refine tk (fuel := 1) (is := [12]) (.cons rfl (.nil)) (by kernel_rfl) (by kernel_rfl) ⟨_, hs22, memi 0 rfl, memi 1 rfl, trivial⟩ ?_
              refine .op trivial rfl rfl (fun wq _ => bdv (v := .agg #[.slice A_4_7 ((xs ++ (bs.take (putN xs bs))).length) c_4_7, .int .i64 (ni + ((putN xs bs : Nat) : Int)), .bool false]) [(0, .slice A_4_7 ((xs ++ (bs.take (putN xs bs))).length) c_4_7), (1, .int .i64 (ni + ((putN xs bs : Nat) : Int)))] rfl (fun _ => by kernel_rfl)) ?_
              refine .nil ?_
              refine a1 (i := 14) (by kernel_rfl) ?_
              refine one_ rfl ?_
              refine stg (vs := [.slice A_4_7 ((xs ++ (bs.take (putN xs bs))).length) c_4_7, .int .i64 (ni + ((putN xs bs : Nat) : Int)), .bool false]) hs22 2 rfl rfl rfl rfl rfl rfl rfl ag25 trivial (fun w19 (hs23 : SH w w19 [] [.blk b1 25 [.slice Axs xs.length cxs, .int .i64 ni, .bool eb], .blk b2 25 [.slice none 0 0, .int .i64 0, .bool false], .own A_4_7 ((xs ++ (bs.take (putN xs bs))).length) c_4_7 3 1 ((xs ++ (bs.take (putN xs bs))).map I), .blk b_4_13 25 [.slice A_4_7 ((xs ++ (bs.take (putN xs bs))).length) c_4_7, .int .i64 (ni + ((putN xs bs : Nat) : Int)), .bool false]]) => ?_)
              refine nl (kq ⟨_, hs23, memi 0 rfl, memi 1 rfl, trivial⟩ ?_)
              refine ad (by kernel_rfl) ?_
              exact ⟨A_4_7, c_4_7, b_4_13, ⟨rfl, rfl, rfl, trivial⟩, hs23⟩
          · refine one_ rfl ?_
            refine al (v := .agg #[.slice none 0 0, .int .i64 0, .bool false]) (cs := [.slice none 0 0, .int .i64 0, .bool false]) hs11 tz25 rfl trivial rfl (fun b_4_13 w20 (hs24 : SH w w20 [] [.blk b1 25 [.slice Axs xs.length cxs, .int .i64 ni, .bool eb], .blk b2 25 [.slice none 0 0, .int .i64 0, .bool false], .blk b_4_13 25 [.slice none 0 0, .int .i64 0, .bool false]]) => ?_)
            refine nl (kq ⟨_, hs24, memi 0 rfl, memi 1 rfl, trivial⟩ ?_)
            refine a1 (i := 0) (by kernel_rfl) ?_
            refine one_ rfl ?_
            refine Go.PF.bs hs24 sl23 [] rfl (cs := []) (by kernel_rfl) rfl (by decide) (by decide) trivial rfl (fun b_4_0 w21 (hs25 : SH w w21 [] [.blk b1 25 [.slice Axs xs.length cxs, .int .i64 ni, .bool eb], .blk b2 25 [.slice none 0 0, .int .i64 0, .bool false], .blk b_4_13 25 [.slice none 0 0, .int .i64 0, .bool false], .own (some ⟨b_4_0, 0, none⟩) (([] : List Int).length) 0 3 1 (([] : List Int).map I)]) => ?_)
            refine nl (kq ⟨_, hs25, memi 0 rfl, memi 1 rfl, trivial⟩ ?_)
            refine a1 (i := 3) (by kernel_rfl) ?_
            refine one_ rfl ?_
            refine apm (g := I) (ys := ([] : List Int)) (zs := xs) hs25 3 rfl sl23 rfl rfl rfl (hxs.up0 hs25) (fun _ => rfl) (by unfold maxLen; first | (first | omega | (simp; omega)) | (have hpb := pipeOk_len (by assumption); have hpn := putN_le xs bs; first | omega | (simp; omega))) (by first | (first | omega | (simp; omega)) | (have hpb := pipeOk_len (by assumption); have hpn := putN_le xs bs; first | omega | (simp; omega))) trivial rfl (fun A_4_3 c_4_3 w22 (hs26 : SH w w22 [] [.blk b1 25 [.slice Axs xs.length cxs, .int .i64 ni, .bool eb], .blk b2 25 [.slice none 0 0, .int .i64 0, .bool false], .blk b_4_13 25 [.slice none 0 0, .int .i64 0, .bool false], .own A_4_3 xs.length c_4_3 3 1 (xs.map I)]) => ?_)
            refine nl (kq ⟨_, hs26, memi 0 rfl, memi 1 rfl, trivial⟩ ?_)
            refine a1 (i := 7) (by kernel_rfl) ?_
            refine one_ rfl ?_
            refine apm (g := I) (ys := xs) (zs := bs.take (putN xs bs)) hs26 3 rfl sl23 rfl rfl rfl (Sl.cuthm (hbs.up0 hs26) (by first | (first | omega | (simp; omega)) | (have hpb := pipeOk_len (by assumption); have hpn := putN_le xs bs; first | omega | (simp; omega)))) (fun _ => rfl) (by unfold maxLen; first | (first | omega | (simp; omega)) | (have hpb := pipeOk_len (by assumption); have hpn := putN_le xs bs; first | omega | (simp; omega))) (by first | (first | omega | (simp; omega)) | (have hpb := pipeOk_len (by assumption); have hpn := putN_le xs bs; first | omega | (simp; omega))) trivial rfl (fun A_4_7 c_4_7 w23 (hs27 : SH w w23 [] [.blk b1 25 [.slice Axs xs.length cxs, .int .i64 ni, .bool eb], .blk b2 25 [.slice none 0 0, .int .i64 0, .bool false], .blk b_4_13 25 [.slice none 0 0, .int .i64 0, .bool false], .own A_4_7 ((xs ++ (bs.take (putN xs bs))).length) c_4_7 3 1 ((xs ++ (bs.take (putN xs bs))).map I)]) => ?_)
            refine nl (kq ⟨_, hs27, memi 0 rfl, memi 1 rfl, trivial⟩ ?_)
            refine tk (fuel := 1) (is := [12]) (.cons rfl (.nil)) (by kernel_rfl) (by kernel_rfl) ⟨_, hs27, memi 0 rfl, memi 1 rfl, trivial⟩ ?_
            refine .op trivial rfl rfl (fun wq _ => bdv (v := .agg #[.slice A_4_7 ((xs ++ (bs.take (putN xs bs))).length) c_4_7, .int .i64 (ni + ((putN xs bs : Nat) : Int)), .bool false]) [(0, .slice A_4_7 ((xs ++ (bs.take (putN xs bs))).length) c_4_7), (1, .int .i64 (ni + ((putN xs bs : Nat) : Int)))] rfl (fun _ => by kernel_rfl)) ?_
            refine .nil ?_
            refine a1 (i := 14) (by kernel_rfl) ?_
            refine one_ rfl ?_
            refine stg (vs := [.slice A_4_7 ((xs ++ (bs.take (putN xs bs))).length) c_4_7, .int .i64 (ni + ((putN xs bs : Nat) : Int)), .bool false]) hs27 2 rfl rfl rfl rfl rfl rfl rfl ag25 trivial (fun w24 (hs28 : SH w w24 [] [.blk b1 25 [.slice Axs xs.length cxs, .int .i64 ni, .bool eb], .blk b2 25 [.slice none 0 0, .int .i64 0, .bool false], .own A_4_7 ((xs ++ (bs.take (putN xs bs))).length) c_4_7 3 1 ((xs ++ (bs.take (putN xs bs))).map I), .blk b_4_13 25 [.slice A_4_7 ((xs ++ (bs.take (putN xs bs))).length) c_4_7, .int .i64 (ni + ((putN xs bs : Nat) : Int)), .bool false]]) => ?_)
            refine nl (kq ⟨_, hs28, memi 0 rfl, memi 1 rfl, trivial⟩ ?_)
            refine ad (by kernel_rfl) ?_
            exact ⟨A_4_7, c_4_7, b_4_13, ⟨rfl, rfl, rfl, trivial⟩, hs28⟩
        rintro f w25 ⟨A_4_7, c_4_7, b_4_13, hf, hs29⟩
        obtain ⟨g1, rfl⟩ := has_upd hf
        clear hf
        refine nN ?_
        refine sq ?_
        refine sq ?_
        refine rg ?_
        refine q trivial rfl rfl (ldg (vs := [.slice A_4_7 ((xs ++ (bs.take (putN xs bs))).length) c_4_7, .int .i64 (ni + ((putN xs bs : Nat) : Int)), .bool false]) hs29 3 rfl rfl rfl rfl ag25) ?_
        refine cl trivial rfl (sPipeValid (Axs := A_4_7) (cxs := c_4_7) (xs := xs ++ (bs.take (putN xs bs))) (ni := ni + ((putN xs bs : Nat) : Int)) (eb := false) (w := _) (hxs := (hs29.sl0 2 rfl))) ?_
        rintro _ w26 ⟨rfl, hs30'⟩
        have hs30 : SH w w26 [] [.blk b1 25 [.slice Axs xs.length cxs, .int .i64 ni, .bool eb], .blk b2 25 [.slice none 0 0, .int .i64 0, .bool false], .own A_4_7 ((xs ++ (bs.take (putN xs bs))).length) c_4_7 3 1 ((xs ++ (bs.take (putN xs bs))).map I), .blk b_4_13 25 [.slice A_4_7 ((xs ++ (bs.take (putN xs bs))).length) c_4_7, .int .i64 (ni + ((putN xs bs : Nat) : Int)), .bool false]] := hs29.call0 hs30'
        clear hs30'
        refine q trivial rfl rfl (nt (b := pipeOk (xs ++ (bs.take (putN xs bs))) (ni + ((putN xs bs : Nat) : Int))) rfl) ?_
        refine nl ?_
        refine nN ?_
        refine cd (b := !(pipeOk (xs ++ (bs.take (putN xs bs))) (ni + ((putN xs bs : Nat) : Int)))) rfl (fun h8 => ?_) (fun h8 => ?_)
        · have h9 : (pipeOk (xs ++ (bs.take (putN xs bs))) (ni + ((putN xs bs : Nat) : Int))) = false := by simpa using h8
          refine sq ?_
          refine rg ?_
          refine q trivial rfl rfl (bdv (v := .agg #[.slice none 0 0, .int .i64 0, .bool false]) [] rfl (fun _ => by kernel_rfl)) ?_
          refine stg (vs := [.slice none 0 0, .int .i64 0, .bool false]) hs30 1 rfl rfl rfl rfl rfl rfl rfl ag25 trivial (fun w27 (hs31 : SH w w27 [] [.blk b1 25 [.slice Axs xs.length cxs, .int .i64 ni, .bool eb], .own A_4_7 ((xs ++ (bs.take (putN xs bs))).length) c_4_7 3 1 ((xs ++ (bs.take (putN xs bs))).map I), .blk b_4_13 25 [.slice A_4_7 ((xs ++ (bs.take (putN xs bs))).length) c_4_7, .int .i64 (ni + ((putN xs bs : Nat) : Int)), .bool false], .blk b2 25 [.slice none 0 0, .int .i64 0, .bool false]]) => ?_)
          refine q trivial rfl rfl (asg (v := .int .i64 0) rfl) ?_
          refine q trivial rfl rfl (asg (v := .bool false) rfl) ?_
          refine nl ?_
          refine nN ?_
          have hs32 : SH w w27 [] [.blk b2 25 [.slice none 0 0, .int .i64 0, .bool false]] := hs31.pick [3] rfl (by decide)
          refine rt (tR ?_)
          refine fret (v := .tuple #[.agg #[.slice none 0 0, .int .i64 0, .bool false], .int .i64 0, .bool false]) (resC hs32 0 rfl rfl ag25 rfl (.tmp (.tmp .nil))) rfl ?_
          have hs33 : SH w w27 [] [.blk b2 25 [.slice none 0 0, .int .i64 0, .bool false], .own none (([] : List Int).length) 0 3 1 (([] : List Int).map I)] := SH.nils (by intro i hi; simp at hi; subst hi; exact nilItem) hs32
          have e20 : pipePut xs ni eb bs = (([] : List Int), 0, 0, false) := by (try simp only [catH_cons, catH_nil, List.append_nil] at h3 h6 h7 h9 ⊢); simp [pipePut, putOk, h3, h6, h7, h9]
          have e21 : ([] : List Int) = (pipePut xs ni eb bs).1 := by rw [e20]
          have e22 : ([] : List Int).length = ((pipePut xs ni eb bs).1).length := by exact congrArg List.length e21
          have e23 : 0 = (pipePut xs ni eb bs).2.1 := by rw [e20]
          have e24 : 0 = (pipePut xs ni eb bs).2.2.1 := by rw [e20]
          have e25 : false = (pipePut xs ni eb bs).2.2.2 := by rw [e20]
          exact ⟨none, 0, (tup3 (aggv (lc (slv rfl e22 rfl) (lc (congrArg (Value.int .i64) e23) (lc rfl rfl)))) (congrArg (Value.int .i64) e24) (congrArg (Value.bool) e25)), ((hs33.pick [1] rfl (by decide)).cast (lc (own_eq (g := I) rfl e22 rfl e21) rfl))⟩
        · have h10 : (pipeOk (xs ++ (bs.take (putN xs bs))) (ni + ((putN xs bs : Nat) : Int))) = true := by simpa using h8
          refine sk ?_
          refine nN ?_
          refine sq ?_
          refine rg ?_
          refine q trivial rfl rfl (ldg (vs := [.slice A_4_7 ((xs ++ (bs.take (putN xs bs))).length) c_4_7, .int .i64 (ni + ((putN xs bs : Nat) : Int)), .bool false]) hs30 3 rfl rfl rfl rfl ag25) ?_
          refine q trivial rfl rfl (mv (v := .int .i64 ((putN xs bs : Nat) : Int)) rfl) ?_
          refine stg (vs := [.slice A_4_7 ((xs ++ (bs.take (putN xs bs))).length) c_4_7, .int .i64 (ni + ((putN xs bs : Nat) : Int)), .bool false]) hs30 1 rfl rfl rfl rfl rfl rfl rfl ag25 trivial (fun w28 (hs34 : SH w w28 [] [.blk b1 25 [.slice Axs xs.length cxs, .int .i64 ni, .bool eb], .own A_4_7 ((xs ++ (bs.take (putN xs bs))).length) c_4_7 3 1 ((xs ++ (bs.take (putN xs bs))).map I), .blk b_4_13 25 [.slice A_4_7 ((xs ++ (bs.take (putN xs bs))).length) c_4_7, .int .i64 (ni + ((putN xs bs : Nat) : Int)), .bool false], .blk b2 25 [.slice A_4_7 ((xs ++ (bs.take (putN xs bs))).length) c_4_7, .int .i64 (ni + ((putN xs bs : Nat) : Int)), .bool false]]) => ?_)
          refine q trivial rfl rfl (asg (v := .int .i64 ((putN xs bs : Nat) : Int)) rfl) ?_
          refine q trivial rfl rfl (asg (v := .bool true) rfl) ?_
          refine nl ?_
          refine nN ?_
          have hs35 : SH w w28 [] [.own A_4_7 ((xs ++ (bs.take (putN xs bs))).length) c_4_7 3 1 ((xs ++ (bs.take (putN xs bs))).map I), .blk b2 25 [.slice A_4_7 ((xs ++ (bs.take (putN xs bs))).length) c_4_7, .int .i64 (ni + ((putN xs bs : Nat) : Int)), .bool false]] := hs34.pick [1, 3] rfl (by decide)
          refine rt ?_
          refine fret (v := .tuple #[.agg #[.slice A_4_7 ((xs ++ (bs.take (putN xs bs))).length) c_4_7, .int .i64 (ni + ((putN xs bs : Nat) : Int)), .bool false], .int .i64 ((putN xs bs : Nat) : Int), .bool true]) (resC hs35 1 rfl rfl ag25 rfl (.tmp (.tmp .nil))) rfl ?_
          have e26 : pipePut xs ni eb bs = (xs ++ (bs.take (putN xs bs)), ni + ((putN xs bs : Nat) : Int), ((putN xs bs : Nat) : Int), true) := by (try simp only [catH_cons, catH_nil, List.append_nil] at h3 h6 h7 h10 ⊢); simp [pipePut, putOk, h3, h6, h7, h10]
          have e27 : xs ++ (bs.take (putN xs bs)) = (pipePut xs ni eb bs).1 := by rw [e26]
          have e28 : (xs ++ (bs.take (putN xs bs))).length = ((pipePut xs ni eb bs).1).length := by exact congrArg List.length e27
          have e29 : ni + ((putN xs bs : Nat) : Int) = (pipePut xs ni eb bs).2.1 := by rw [e26]
          have e30 : ((putN xs bs : Nat) : Int) = (pipePut xs ni eb bs).2.2.1 := by rw [e26]
          have e31 : true = (pipePut xs ni eb bs).2.2.2 := by rw [e26]
          exact ⟨A_4_7, c_4_7, (tup3 (aggv (lc (slv rfl e28 rfl) (lc (congrArg (Value.int .i64) e29) (lc rfl rfl)))) (congrArg (Value.int .i64) e30) (congrArg (Value.bool) e31)), ((hs35.pick [0] rfl (by decide)).cast (lc (own_eq (g := I) rfl e28 rfl e27) rfl))⟩

theorem iPipeGet {Axs : Option Addr} {cxs : Nat} (xs : List Int) (ni : Int) (eb : Bool) (m : Int) (w : World) (hxs : Sl w [] 1 Axs xs.length cxs (xs.map I)) : Does Try.prog 23 [.agg #[.slice Axs xs.length cxs, .int .i64 ni, .bool eb], .int .i64 m] w (fun v w' => ∃ Ar : Option Addr, ∃ cr : Nat, ∃ Agr : Option Addr, ∃ cgr : Nat, v = .tuple #[.agg #[.slice Ar ((pipeGet xs ni eb m).1).length cr, .int .i64 ((pipeGet xs ni eb m).2.1), .bool ((pipeGet xs ni eb m).2.2.1)], .slice Agr ((pipeGet xs ni eb m).2.2.2.1).length cgr, .bool ((pipeGet xs ni eb m).2.2.2.2)] ∧ SH w w' [] [.own Ar (((pipeGet xs ni eb m).1).length) cr 3 1 (((pipeGet xs ni eb m).1).map I), .own Agr (((pipeGet xs ni eb m).2.2.2.1).length) cgr 3 1 (((pipeGet xs ni eb m).2.2.2.1).map I)]) := by
  refine fn_enter (N := 36) Try.func23 rfl (by kernel_rfl) rfl rfl rfl ?_
  have hs0 : SH w w [] [] := SH.refl w []
  have hxs_m : xs.length ≤ 9223372036854775807 := Nat.le_trans hxs.cap hxs.capMax
  refine sq ?_
  refine rg ?_
  refine bx (v := .agg #[.slice Axs xs.length cxs, .int .i64 ni, .bool eb]) (cs := [.slice Axs xs.length cxs, .int .i64 ni, .bool eb]) hs0 rfl rfl trivial rfl (fun b1 w1 (hs1 : SH w w1 [] [.blk b1 25 [.slice Axs xs.length cxs, .int .i64 ni, .bool eb]]) => ?_)
  refine al (v := .agg #[.slice none 0 0, .int .i64 0, .bool false]) (cs := [.slice none 0 0, .int .i64 0, .bool false]) hs1 tz25 rfl trivial rfl (fun b2 w2 (hs2 : SH w w2 [] [.blk b1 25 [.slice Axs xs.length cxs, .int .i64 ni, .bool eb], .blk b2 25 [.slice none 0 0, .int .i64 0, .bool false]]) => ?_)
  refine q trivial rfl rfl (asg (v := .slice none 0 0) rfl) ?_
  refine q trivial rfl rfl (asg (v := .bool false) rfl) ?_
  refine nl ?_
  refine nN ?_
  refine sq ?_
  refine sq ?_
  refine rg ?_
  refine q trivial rfl rfl (ldg (vs := [.slice Axs xs.length cxs, .int .i64 ni, .bool eb]) hs2 0 rfl rfl rfl rfl ag25) ?_
  refine cl trivial rfl (iPipeValid (Axs := Axs) (cxs := cxs) (xs := xs) (ni := ni) (eb := eb) (w := _) (hxs := (hxs.up0 hs2))) ?_
  rintro _ w3 ⟨rfl, hs3'⟩
  have hs3 : SH w w3 [] [.blk b1 25 [.slice Axs xs.length cxs, .int .i64 ni, .bool eb], .blk b2 25 [.slice none 0 0, .int .i64 0, .bool false]] := hs2.call0 hs3'
  clear hs3'
  refine q trivial rfl rfl (nt (b := pipeOk xs ni) rfl) ?_
  refine q trivial rfl rfl (mv (v := .bool (!(pipeOk xs ni))) rfl) ?_
  refine spl (b := !(pipeOk xs ni)) 11 rfl (fun h1 => ?_) (fun h1 => ?_)
  · have h2 : (pipeOk xs ni) = false := by simpa using h1
    refine gk true rfl rfl rfl rfl rfl ?_
    refine gk true rfl rfl rfl rfl rfl ?_
    refine q trivial rfl rfl (pt (v := .bool true) rfl rfl) ?_
    refine nl ?_
    refine nN ?_
    refine cdt rfl ?_
    refine sq ?_
    refine rg ?_
    refine q trivial rfl rfl (bdv (v := .agg #[.slice none 0 0, .int .i64 0, .bool false]) [] rfl (fun _ => by kernel_rfl)) ?_
    refine stg (vs := [.slice none 0 0, .int .i64 0, .bool false]) hs3 1 rfl rfl rfl rfl rfl rfl rfl ag25 trivial (fun w4 (hs4 : SH w w4 [] [.blk b1 25 [.slice Axs xs.length cxs, .int .i64 ni, .bool eb], .blk b2 25 [.slice none 0 0, .int .i64 0, .bool false]]) => ?_)
    refine q trivial rfl rfl (asg (v := .slice none 0 0) rfl) ?_
    refine q trivial rfl rfl (asg (v := .bool false) rfl) ?_
    refine nl ?_
    refine nN ?_
    refine rt (tR ?_)
    refine fret (v := .tuple #[.agg #[.slice none 0 0, .int .i64 0, .bool false], .slice none 0 0, .bool false]) (resC hs4 1 rfl rfl ag25 rfl (.tmp (.tmp .nil))) rfl ?_
    have hs5 : SH w w4 [] [.blk b1 25 [.slice Axs xs.length cxs, .int .i64 ni, .bool eb], .blk b2 25 [.slice none 0 0, .int .i64 0, .bool false], .own none (([] : List Int).length) 0 3 1 (([] : List Int).map I)] := SH.nils (by intro i hi; simp at hi; subst hi; exact nilItem) hs4
    have hs6 : SH w w4 [] [.blk b1 25 [.slice Axs xs.length cxs, .int .i64 ni, .bool eb], .blk b2 25 [.slice none 0 0, .int .i64 0, .bool false], .own none (([] : List Int).length) 0 3 1 (([] : List Int).map I), .own none (([] : List Int).length) 0 3 1 (([] : List Int).map I)] := SH.nils (by intro i hi; simp at hi; subst hi; exact nilItem) hs5
    have e1 : pipeGet xs ni eb m = (([] : List Int), 0, false, ([] : List Int), false) := by simp [pipeGet, h2]
    have e2 : ([] : List Int) = (pipeGet xs ni eb m).1 := by rw [e1]
    have e3 : ([] : List Int).length = ((pipeGet xs ni eb m).1).length := by exact congrArg List.length e2
    have e4 : 0 = (pipeGet xs ni eb m).2.1 := by rw [e1]
    have e5 : false = (pipeGet xs ni eb m).2.2.1 := by rw [e1]
    have e6 : ([] : List Int) = (pipeGet xs ni eb m).2.2.2.1 := by rw [e1]
    have e7 : ([] : List Int).length = ((pipeGet xs ni eb m).2.2.2.1).length := by exact congrArg List.length e6
    have e8 : false = (pipeGet xs ni eb m).2.2.2.2 := by rw [e1]
    exact ⟨none, 0, none, 0, (tup3 (aggv (lc (slv rfl e3 rfl) (lc (congrArg (Value.int .i64) e4) (lc (congrArg (Value.bool) e5) rfl)))) (slv rfl e7 rfl) (congrArg (Value.bool) e8)), ((hs6.pick [2, 3] rfl (by decide)).cast (lc (own_eq (g := I) rfl e3 rfl e2) (lc (own_eq (g := I) rfl e7 rfl e6) rfl)))⟩
  · have h3 : (pipeOk xs ni) = true := by simpa using h1
    refine q ⟨_, rfl, rfl⟩ rfl rfl (mv (v := .int .i64 m) rfl) ?_
    refine q ⟨_, rfl, rfl⟩ rfl rfl (lss (k := .i64) (a := m) (b := 0) rfl rfl) ?_
    refine q trivial rfl rfl (pf (v := .bool (decide (m < 0))) rfl rfl) ?_
    refine nl ?_
    refine nN ?_
    refine cdd (p := m < 0) rfl (fun h4 => ?_) (fun h4 => ?_)
    · refine sq ?_
      refine rg ?_
      refine q trivial rfl rfl (bdv (v := .agg #[.slice none 0 0, .int .i64 0, .bool false]) [] rfl (fun _ => by kernel_rfl)) ?_
      refine stg (vs := [.slice none 0 0, .int .i64 0, .bool false]) hs3 1 rfl rfl rfl rfl rfl rfl rfl ag25 trivial (fun w5 (hs7 : SH w w5 [] [.blk b1 25 [.slice Axs xs.length cxs, .int .i64 ni, .bool eb], .blk b2 25 [.slice none 0 0, .int .i64 0, .bool false]]) => ?_)
      refine q trivial rfl rfl (asg (v := .slice none 0 0) rfl) ?_
      refine q trivial rfl rfl (asg (v := .bool false) rfl) ?_
      refine nl ?_
      refine nN ?_
      refine rt (tR ?_)
      refine fret (v := .tuple #[.agg #[.slice none 0 0, .int .i64 0, .bool false], .slice none 0 0, .bool false]) (resC hs7 1 rfl rfl ag25 rfl (.tmp (.tmp .nil))) rfl ?_
      have hs8 : SH w w5 [] [.blk b1 25 [.slice Axs xs.length cxs, .int .i64 ni, .bool eb], .blk b2 25 [.slice none 0 0, .int .i64 0, .bool false], .own none (([] : List Int).length) 0 3 1 (([] : List Int).map I)] := SH.nils (by intro i hi; simp at hi; subst hi; exact nilItem) hs7
      have hs9 : SH w w5 [] [.blk b1 25 [.slice Axs xs.length cxs, .int .i64 ni, .bool eb], .blk b2 25 [.slice none 0 0, .int .i64 0, .bool false], .own none (([] : List Int).length) 0 3 1 (([] : List Int).map I), .own none (([] : List Int).length) 0 3 1 (([] : List Int).map I)] := SH.nils (by intro i hi; simp at hi; subst hi; exact nilItem) hs8
      have e9 : pipeGet xs ni eb m = (([] : List Int), 0, false, ([] : List Int), false) := by simp [pipeGet, h3, h4]
      have e10 : ([] : List Int) = (pipeGet xs ni eb m).1 := by rw [e9]
      have e11 : ([] : List Int).length = ((pipeGet xs ni eb m).1).length := by exact congrArg List.length e10
      have e12 : 0 = (pipeGet xs ni eb m).2.1 := by rw [e9]
      have e13 : false = (pipeGet xs ni eb m).2.2.1 := by rw [e9]
      have e14 : ([] : List Int) = (pipeGet xs ni eb m).2.2.2.1 := by rw [e9]
      have e15 : ([] : List Int).length = ((pipeGet xs ni eb m).2.2.2.1).length := by exact congrArg List.length e14
      have e16 : false = (pipeGet xs ni eb m).2.2.2.2 := by rw [e9]
      exact ⟨none, 0, none, 0, (tup3 (aggv (lc (slv rfl e11 rfl) (lc (congrArg (Value.int .i64) e12) (lc (congrArg (Value.bool) e13) rfl)))) (slv rfl e15 rfl) (congrArg (Value.bool) e16)), ((hs9.pick [2, 3] rfl (by decide)).cast (lc (own_eq (g := I) rfl e11 rfl e10) (lc (own_eq (g := I) rfl e15 rfl e14) rfl)))⟩
    · refine sk ?_
      refine nN ?_
      refine sq ?_
      refine rg ?_
      refine q trivial rfl rfl (mv (v := .int .i64 m) rfl) ?_
      refine q trivial rfl rfl (fa 0 fo25_0 rfl) ?_
      refine q trivial rfl rfl (ld (v := .slice Axs xs.length cxs) hs3 0 rfl rfl rfl one23) ?_
      refine q trivial rfl rfl (lnA (n := xs.length) sl23 rfl) ?_
      refine q trivial rfl rfl (mnI (a := m) (b := ((xs.length : Nat) : Int)) rfl rfl) ?_
      refine q trivial rfl rfl (asg (v := .int .i64 (min m ((xs.length : Nat) : Int))) rfl) ?_
      have e17 : min m ((xs.length : Nat) : Int) = ((min m.toNat xs.length : Nat) : Int) := by omega
      refine re 7 (v := .int .i64 ((min m.toNat xs.length : Nat) : Int)) (congrArg (Value.int .i64) e17) ?_
      refine nl ?_
      refine nN ?_
      refine sq ?_
      refine ra (fun w' => ∃ L, SH w w' [] L ∧ (.blk b1 25 [.slice Axs xs.length cxs, .int .i64 ni, .bool eb]) ∈ L ∧ True) mixed ?_
      have hs10 := hs3.drew
      refine tk (fuel := 6) (is := [0, 1, 2, 3, 5, 6, 7, 8, 10, 11, 12, 13]) (.cons rfl (.cons rfl (.cons rfl (.cons rfl (.cons rfl (.cons rfl (.cons rfl (.cons rfl (.cons rfl (.cons rfl (.cons rfl (.cons rfl (.nil))))))))))))) (by kernel_rfl) (by kernel_rfl) ⟨_, hs10, memi 0 rfl, trivial⟩ ?_
      refine .op trivial rfl rfl (fun wq _ => fa 0 fo25_0 rfl) ?_
      refine .op trivial rfl rfl (fun wq ⟨Lq, hsq, mh0, _⟩ => ldm (v := .slice Axs xs.length cxs) hsq mh0 rfl rfl one23) ?_
      refine .op trivial rfl rfl (fun wq _ => mv (v := .int .i64 ((min m.toNat xs.length : Nat) : Int)) rfl) ?_
      refine .op trivial rfl rfl (fun wq _ => culm (zs := xs) (min m.toNat xs.length) sl23 rfl rfl (by first | (first | omega | (simp; omega)) | (have hpb := pipeOk_len (by assumption); first | omega | (simp; omega)))) ?_
      refine .op trivial rfl rfl (fun wq _ => fa 1 fo25_1 rfl) ?_
      refine .op trivial rfl rfl (fun wq ⟨Lq, hsq, mh0, _⟩ => ldm (v := .int .i64 ni) hsq mh0 rfl rfl one3) ?_
      refine .op trivial rfl rfl (fun wq _ => fa 2 fo25_2 rfl) ?_
      refine .op trivial rfl rfl (fun wq ⟨Lq, hsq, mh0, _⟩ => ldm (v := .bool eb) hsq mh0 rfl rfl one4) ?_
      refine .op trivial rfl rfl (fun wq _ => fa 0 fo25_0 rfl) ?_
      refine .op trivial rfl rfl (fun wq ⟨Lq, hsq, mh0, _⟩ => ldm (v := .slice Axs xs.length cxs) hsq mh0 rfl rfl one23) ?_
      refine .op trivial rfl rfl (fun wq _ => mv (v := .int .i64 ((min m.toNat xs.length : Nat) : Int)) rfl) ?_
      refine .op trivial rfl rfl (fun wq _ => cuhm_ (zs := xs) (min m.toNat xs.length) sl23 rfl rfl (by first | (first | omega | (simp; omega)) | (have hpb := pipeOk_len (by assumption); first | omega | (simp; omega))) hxs.cap) ?_
      refine .nil ?_
      refine a1 (i := 4) (by kernel_rfl) ?_
      refine one_ rfl ?_
      refine cl trivial rfl (slClone (Axs := if cxs = min m.toNat xs.length then Axs else Axs.map (·.add ((min m.toNat xs.length) * 1))) (cxs := cxs - (min m.toNat xs.length)) (xs := xs.drop (min m.toNat xs.length)) (w := _) (hxs := (Sl.cutlm (hxs.up0 hs10) (by first | (first | omega | (simp; omega)) | (have hpb := pipeOk_len (by assumption); first | omega | (simp; omega))))) (hxs_n := (by first | (first | omega | (simp; omega)) | (have hpb := pipeOk_len (by assumption); first | omega | (simp; omega))))) ?_
      rintro _ w6 ⟨A_4_4, c_4_4, rfl, hs11'⟩
      have hs11 : SH w w6 [] [.blk b1 25 [.slice Axs xs.length cxs, .int .i64 ni, .bool eb], .blk b2 25 [.slice none 0 0, .int .i64 0, .bool false], .own A_4_4 ((xs.drop (min m.toNat xs.length)).length) c_4_4 3 1 ((xs.drop (min m.toNat xs.length)).map I)] := hs10.call0 hs11'
      clear hs11'
      refine nl (kq ⟨_, hs11, memi 0 rfl, trivial⟩ ?_)
      refine tk (fuel := 4) (is := [9]) (.cons rfl (.nil)) (by kernel_rfl) (by kernel_rfl) ⟨_, hs11, memi 0 rfl, trivial⟩ ?_
      refine .op trivial rfl rfl (fun wq _ => bdv (v := .agg #[.slice A_4_4 ((xs.drop (min m.toNat xs.length)).length) c_4_4, .int .i64 ni, .bool eb]) [(0, .slice A_4_4 ((xs.drop (min m.toNat xs.length)).length) c_4_4), (1, .int .i64 ni), (2, .bool eb)] rfl (fun _ => by kernel_rfl)) ?_
      refine .nil ?_
      refine a1 (i := 14) (by kernel_rfl) ?_
      refine one_ rfl ?_
      refine cl trivial rfl (slClone (Axs := Axs) (cxs := cxs) (xs := xs.take (min m.toNat xs.length)) (w := _) (hxs := (Sl.cuthm (hxs.up0 hs11) (by first | (first | omega | (simp; omega)) | (have hpb := pipeOk_len (by assumption); first | omega | (simp; omega))))) (hxs_n := (by first | (first | omega | (simp; omega)) | (have hpb := pipeOk_len (by assumption); first | omega | (simp; omega))))) ?_
      rintro _ w7 ⟨A_4_14, c_4_14, rfl, hs12'⟩
      have hs12 : SH w w7 [] [.blk b1 25 [.slice Axs xs.length cxs, .int .i64 ni, .bool eb], .blk b2 25 [.slice none 0 0, .int .i64 0, .bool false], .own A_4_4 ((xs.drop (min m.toNat xs.length)).length) c_4_4 3 1 ((xs.drop (min m.toNat xs.length)).map I), .own A_4_14 ((xs.take (min m.toNat xs.length)).length) c_4_14 3 1 ((xs.take (min m.toNat xs.length)).map I)] := hs11.call0 hs12'
      clear hs12'
      refine nl (kq ⟨_, hs12, memi 0 rfl, trivial⟩ ?_)
      refine a1 (i := 15) (by kernel_rfl) ?_
      refine one_ rfl ?_
      refine stg (vs := [.slice A_4_4 ((xs.drop (min m.toNat xs.length)).length) c_4_4, .int .i64 ni, .bool eb]) hs12 1 rfl rfl rfl rfl rfl rfl rfl ag25 trivial (fun w8 (hs13 : SH w w8 [] [.blk b1 25 [.slice Axs xs.length cxs, .int .i64 ni, .bool eb], .own A_4_4 ((xs.drop (min m.toNat xs.length)).length) c_4_4 3 1 ((xs.drop (min m.toNat xs.length)).map I), .own A_4_14 ((xs.take (min m.toNat xs.length)).length) c_4_14 3 1 ((xs.take (min m.toNat xs.length)).map I), .blk b2 25 [.slice A_4_4 ((xs.drop (min m.toNat xs.length)).length) c_4_4, .int .i64 ni, .bool eb]]) => ?_)
      refine nl (kq ⟨_, hs13, memi 0 rfl, trivial⟩ ?_)
      refine tk (fuel := 0) (is := [16, 17]) (.cons rfl (.cons rfl (.nil))) (by kernel_rfl) (by kernel_rfl) ⟨_, hs13, memi 0 rfl, trivial⟩ ?_
      refine .op trivial rfl rfl (fun wq _ => asg (v := .slice A_4_14 ((xs.take (min m.toNat xs.length)).length) c_4_14) rfl) ?_
      refine .op trivial rfl rfl (fun wq _ => asg (v := .bool true) rfl) ?_
      refine .nil ?_
      refine ad (by kernel_rfl) ?_
      refine nN ?_
      refine rt ?_
      refine fret (v := .tuple #[.agg #[.slice A_4_4 ((xs.drop (min m.toNat xs.length)).length) c_4_4, .int .i64 ni, .bool eb], .slice A_4_14 ((xs.take (min m.toNat xs.length)).length) c_4_14, .bool true]) (resC hs13 3 rfl rfl ag25 rfl (.tmp (.tmp .nil))) rfl ?_
      have e18 : pipeGet xs ni eb m = ((xs.drop (min m.toNat xs.length)), ni, eb, (xs.take (min m.toNat xs.length)), true) := by simp [pipeGet, h3, h4]
      have e19 : (xs.drop (min m.toNat xs.length)) = (pipeGet xs ni eb m).1 := by rw [e18]
      have e20 : (xs.drop (min m.toNat xs.length)).length = ((pipeGet xs ni eb m).1).length := by exact congrArg List.length e19
      have e21 : ni = (pipeGet xs ni eb m).2.1 := by rw [e18]
      have e22 : eb = (pipeGet xs ni eb m).2.2.1 := by rw [e18]
      have e23 : (xs.take (min m.toNat xs.length)) = (pipeGet xs ni eb m).2.2.2.1 := by rw [e18]
      have e24 : (xs.take (min m.toNat xs.length)).length = ((pipeGet xs ni eb m).2.2.2.1).length := by exact congrArg List.length e23
      have e25 : true = (pipeGet xs ni eb m).2.2.2.2 := by rw [e18]
      exact ⟨A_4_4, c_4_4, A_4_14, c_4_14, (tup3 (aggv (lc (slv rfl e20 rfl) (lc (congrArg (Value.int .i64) e21) (lc (congrArg (Value.bool) e22) rfl)))) (slv rfl e24 rfl) (congrArg (Value.bool) e25)), ((hs13.pick [1, 2] rfl (by decide)).cast (lc (own_eq (g := I) rfl e20 rfl e19) (lc (own_eq (g := I) rfl e24 rfl e23) rfl)))⟩

theorem sPipeGet {Axs : Option Addr} {cxs : Nat} (xs : List Int) (ni : Int) (eb : Bool) (m : Int) (w : World) (hxs : Sl w [] 1 Axs xs.length cxs (xs.map I)) : Does Try.prog 24 [.agg #[.slice Axs xs.length cxs, .int .i64 ni, .bool eb], .int .i64 m] w (fun v w' => ∃ Ar : Option Addr, ∃ cr : Nat, ∃ Agr : Option Addr, ∃ cgr : Nat, v = .tuple #[.agg #[.slice Ar ((pipeGet xs ni eb m).1).length cr, .int .i64 ((pipeGet xs ni eb m).2.1), .bool ((pipeGet xs ni eb m).2.2.1)], .slice Agr ((pipeGet xs ni eb m).2.2.2.1).length cgr, .bool ((pipeGet xs ni eb m).2.2.2.2)] ∧ SH w w' [] [.own Ar (((pipeGet xs ni eb m).1).length) cr 3 1 (((pipeGet xs ni eb m).1).map I), .own Agr (((pipeGet xs ni eb m).2.2.2.1).length) cgr 3 1 (((pipeGet xs ni eb m).2.2.2.1).map I)]) := by
  refine fn_enter (N := 39) Try.func24 rfl (by kernel_rfl) rfl rfl rfl ?_
  have hs0 : SH w w [] [] := SH.refl w []
  have hxs_m : xs.length ≤ 9223372036854775807 := Nat.le_trans hxs.cap hxs.capMax
  refine sq ?_
  refine rg ?_
  refine bx (v := .agg #[.slice Axs xs.length cxs, .int .i64 ni, .bool eb]) (cs := [.slice Axs xs.length cxs, .int .i64 ni, .bool eb]) hs0 rfl rfl trivial rfl (fun b1 w1 (hs1 : SH w w1 [] [.blk b1 25 [.slice Axs xs.length cxs, .int .i64 ni, .bool eb]]) => ?_)
  refine al (v := .agg #[.slice none 0 0, .int .i64 0, .bool false]) (cs := [.slice none 0 0, .int .i64 0, .bool false]) hs1 tz25 rfl trivial rfl (fun b2 w2 (hs2 : SH w w2 [] [.blk b1 25 [.slice Axs xs.length cxs, .int .i64 ni, .bool eb], .blk b2 25 [.slice none 0 0, .int .i64 0, .bool false]]) => ?_)
  refine q trivial rfl rfl (asg (v := .slice none 0 0) rfl) ?_
  refine q trivial rfl rfl (asg (v := .bool false) rfl) ?_
  refine nl ?_
  refine nN ?_
  refine sq ?_
  refine sq ?_
  refine rg ?_
  refine q trivial rfl rfl (ldg (vs := [.slice Axs xs.length cxs, .int .i64 ni, .bool eb]) hs2 0 rfl rfl rfl rfl ag25) ?_
  refine cl trivial rfl (sPipeValid (Axs := Axs) (cxs := cxs) (xs := xs) (ni := ni) (eb := eb) (w := _) (hxs := (hxs.up0 hs2))) ?_
  rintro _ w3 ⟨rfl, hs3'⟩
  have hs3 : SH w w3 [] [.blk b1 25 [.slice Axs xs.length cxs, .int .i64 ni, .bool eb], .blk b2 25 [.slice none 0 0, .int .i64 0, .bool false]] := hs2.call0 hs3'
  clear hs3'
  refine q trivial rfl rfl (nt (b := pipeOk xs ni) rfl) ?_
  refine q trivial rfl rfl (mv (v := .bool (!(pipeOk xs ni))) rfl) ?_
  refine spl (b := !(pipeOk xs ni)) 11 rfl (fun h1 => ?_) (fun h1 => ?_)
  · have h2 : (pipeOk xs ni) = false := by simpa using h1
    refine gk true rfl rfl rfl rfl rfl ?_
    refine gk true rfl rfl rfl rfl rfl ?_
    refine q trivial rfl rfl (pt (v := .bool true) rfl rfl) ?_
    refine nl ?_
    refine nN ?_
    refine cdt rfl ?_
    refine sq ?_
    refine rg ?_
    refine q trivial rfl rfl (bdv (v := .agg #[.slice none 0 0, .int .i64 0, .bool false]) [] rfl (fun _ => by kernel_rfl)) ?_
    refine Go.PF.bs hs3 sl23 [] rfl (cs := []) (by kernel_rfl) rfl (by decide) (by decide) trivial rfl (fun b3 w4 (hs4 : SH w w4 [] [.blk b1 25 [.slice Axs xs.length cxs, .int .i64 ni, .bool eb], .blk b2 25 [.slice none 0 0, .int .i64 0, .bool false], .own (some ⟨b3, 0, none⟩) (([] : List Int).length) 0 3 1 (([] : List Int).map I)]) => ?_)
    refine stg (vs := [.slice none 0 0, .int .i64 0, .bool false]) hs4 1 rfl rfl rfl rfl rfl rfl rfl ag25 trivial (fun w5 (hs5 : SH w w5 [] [.blk b1 25 [.slice Axs xs.length cxs, .int .i64 ni, .bool eb], .own (some ⟨b3, 0, none⟩) (([] : List Int).length) 0 3 1 (([] : List Int).map I), .blk b2 25 [.slice none 0 0, .int .i64 0, .bool false]]) => ?_)
    refine q trivial rfl rfl (asg (v := .slice (some ⟨b3, 0, none⟩) (([] : List Int).length) 0) rfl) ?_
    refine q trivial rfl rfl (asg (v := .bool false) rfl) ?_
    refine nl ?_
    refine nN ?_
    refine rt (tR ?_)
    refine fret (v := .tuple #[.agg #[.slice none 0 0, .int .i64 0, .bool false], .slice (some ⟨b3, 0, none⟩) (([] : List Int).length) 0, .bool false]) (resC hs5 2 rfl rfl ag25 rfl (.tmp (.tmp .nil))) rfl ?_
    have hs6 : SH w w5 [] [.blk b1 25 [.slice Axs xs.length cxs, .int .i64 ni, .bool eb], .own (some ⟨b3, 0, none⟩) (([] : List Int).length) 0 3 1 (([] : List Int).map I), .blk b2 25 [.slice none 0 0, .int .i64 0, .bool false], .own none (([] : List Int).length) 0 3 1 (([] : List Int).map I)] := SH.nils (by intro i hi; simp at hi; subst hi; exact nilItem) hs5
    have e1 : pipeGet xs ni eb m = (([] : List Int), 0, false, ([] : List Int), false) := by simp [pipeGet, h2]
    have e2 : ([] : List Int) = (pipeGet xs ni eb m).1 := by rw [e1]
    have e3 : ([] : List Int).length = ((pipeGet xs ni eb m).1).length := by exact congrArg List.length e2
    have e4 : 0 = (pipeGet xs ni eb m).2.1 := by rw [e1]
    have e5 : false = (pipeGet xs ni eb m).2.2.1 := by rw [e1]
    have e6 : ([] : List Int) = (pipeGet xs ni eb m).2.2.2.1 := by rw [e1]
    have e7 : ([] : List Int).length = ((pipeGet xs ni eb m).2.2.2.1).length := by exact congrArg List.length e6
    have e8 : false = (pipeGet xs ni eb m).2.2.2.2 := by rw [e1]
    exact ⟨none, 0, (some ⟨b3, 0, none⟩), 0, (tup3 (aggv (lc (slv rfl e3 rfl) (lc (congrArg (Value.int .i64) e4) (lc (congrArg (Value.bool) e5) rfl)))) (slv rfl e7 rfl) (congrArg (Value.bool) e8)), ((hs6.pick [3, 1] rfl (by decide)).cast (lc (own_eq (g := I) rfl e3 rfl e2) (lc (own_eq (g := I) rfl e7 rfl e6) rfl)))⟩
  · have h3 : (pipeOk xs ni) = true := by simpa using h1
    refine q ⟨_, rfl, rfl⟩ rfl rfl (mv (v := .int .i64 m) rfl) ?_
    refine q ⟨_, rfl, rfl⟩ rfl rfl (lss (k := .i64) (a := m) (b := 0) rfl rfl) ?_
    refine q trivial rfl rfl (pf (v := .bool (decide (m < 0))) rfl rfl) ?_
    refine nl ?_
    refine nN ?_
    refine cdd (p := m < 0) rfl (fun h4 => ?_) (fun h4 => ?_)
    · refine sq ?_
      refine rg ?_
      refine q trivial rfl rfl (bdv (v := .agg #[.slice none 0 0, .int .i64 0, .bool false]) [] rfl (fun _ => by kernel_rfl)) ?_
      refine Go.PF.bs hs3 sl23 [] rfl (cs := []) (by kernel_rfl) rfl (by decide) (by decide) trivial rfl (fun b4 w6 (hs7 : SH w w6 [] [.blk b1 25 [.slice Axs xs.length cxs, .int .i64 ni, .bool eb], .blk b2 25 [.slice none 0 0, .int .i64 0, .bool false], .own (some ⟨b4, 0, none⟩) (([] : List Int).length) 0 3 1 (([] : List Int).map I)]) => ?_)
      refine stg (vs := [.slice none 0 0, .int .i64 0, .bool false]) hs7 1 rfl rfl rfl rfl rfl rfl rfl ag25 trivial (fun w7 (hs8 : SH w w7 [] [.blk b1 25 [.slice Axs xs.length cxs, .int .i64 ni, .bool eb], .own (some ⟨b4, 0, none⟩) (([] : List Int).length) 0 3 1 (([] : List Int).map I), .blk b2 25 [.slice none 0 0, .int .i64 0, .bool false]]) => ?_)
      refine q trivial rfl rfl (asg (v := .slice (some ⟨b4, 0, none⟩) (([] : List Int).length) 0) rfl) ?_
      refine q trivial rfl rfl (asg (v := .bool false) rfl) ?_
      refine nl ?_
      refine nN ?_
      refine rt (tR ?_)
      refine fret (v := .tuple #[.agg #[.slice none 0 0, .int .i64 0, .bool false], .slice (some ⟨b4, 0, none⟩) (([] : List Int).length) 0, .bool false]) (resC hs8 2 rfl rfl ag25 rfl (.tmp (.tmp .nil))) rfl ?_
      have hs9 : SH w w7 [] [.blk b1 25 [.slice Axs xs.length cxs, .int .i64 ni, .bool eb], .own (some ⟨b4, 0, none⟩) (([] : List Int).length) 0 3 1 (([] : List Int).map I), .blk b2 25 [.slice none 0 0, .int .i64 0, .bool false], .own none (([] : List Int).length) 0 3 1 (([] : List Int).map I)] := SH.nils (by intro i hi; simp at hi; subst hi; exact nilItem) hs8
      have e9 : pipeGet xs ni eb m = (([] : List Int), 0, false, ([] : List Int), false) := by simp [pipeGet, h3, h4]
      have e10 : ([] : List Int) = (pipeGet xs ni eb m).1 := by rw [e9]
      have e11 : ([] : List Int).length = ((pipeGet xs ni eb m).1).length := by exact congrArg List.length e10
      have e12 : 0 = (pipeGet xs ni eb m).2.1 := by rw [e9]
      have e13 : false = (pipeGet xs ni eb m).2.2.1 := by rw [e9]
      have e14 : ([] : List Int) = (pipeGet xs ni eb m).2.2.2.1 := by rw [e9]
      have e15 : ([] : List Int).length = ((pipeGet xs ni eb m).2.2.2.1).length := by exact congrArg List.length e14
      have e16 : false = (pipeGet xs ni eb m).2.2.2.2 := by rw [e9]
      exact ⟨none, 0, (some ⟨b4, 0, none⟩), 0, (tup3 (aggv (lc (slv rfl e11 rfl) (lc (congrArg (Value.int .i64) e12) (lc (congrArg (Value.bool) e13) rfl)))) (slv rfl e15 rfl) (congrArg (Value.bool) e16)), ((hs9.pick [3, 1] rfl (by decide)).cast (lc (own_eq (g := I) rfl e11 rfl e10) (lc (own_eq (g := I) rfl e15 rfl e14) rfl)))⟩
    · refine sk ?_
      refine nN ?_
      refine sq ?_
      refine rg ?_
      refine q trivial rfl rfl (mv (v := .int .i64 m) rfl) ?_
      refine q trivial rfl rfl (fa 0 fo25_0 rfl) ?_
      refine q trivial rfl rfl (ld (v := .slice Axs xs.length cxs) hs3 0 rfl rfl rfl one23) ?_
      refine q trivial rfl rfl (lnA (n := xs.length) sl23 rfl) ?_
      refine q trivial rfl rfl (mnI (a := m) (b := ((xs.length : Nat) : Int)) rfl rfl) ?_
      refine q trivial rfl rfl (asg (v := .int .i64 (min m ((xs.length : Nat) : Int))) rfl) ?_
      have e17 : min m ((xs.length : Nat) : Int) = ((min m.toNat xs.length : Nat) : Int) := by omega
      refine re 7 (v := .int .i64 ((min m.toNat xs.length : Nat) : Int)) (congrArg (Value.int .i64) e17) ?_
      refine nl ?_
      refine nN ?_
      refine sq ?_
      refine raJ (fun w' => ∃ L, SH w w' [] L ∧ (.blk b1 25 [.slice Axs xs.length cxs, .int .i64 ni, .bool eb]) ∈ L ∧ True) (fun f w' => ∃ A_4_5 : Option Addr, ∃ c_4_5 : Nat, ∃ A_4_16 : Option Addr, ∃ c_4_16 : Nat, Has f [(4, .pointer (some ⟨b2, 0, none⟩)), (5, .slice A_4_16 ((xs.take (min m.toNat xs.length)).length) c_4_16), (6, .bool true)] ∧ SH w w' [] [.blk b1 25 [.slice Axs xs.length cxs, .int .i64 ni, .bool eb], .own A_4_5 ((xs.drop (min m.toNat xs.length)).length) c_4_5 3 1 ((xs.drop (min m.toNat xs.length)).map I), .own A_4_16 ((xs.take (min m.toNat xs.length)).length) c_4_16 3 1 ((xs.take (min m.toNat xs.length)).map I), .blk b2 25 [.slice A_4_5 ((xs.drop (min m.toNat xs.length)).length) c_4_5, .int .i64 ni, .bool eb]]) mixed ?_ ?_
      · have hs10 := hs3.drew
        refine tk (fuel := 8) (is := [1, 2, 3, 4, 6, 7, 8, 9, 12, 13, 14, 15]) (.cons rfl (.cons rfl (.cons rfl (.cons rfl (.cons rfl (.cons rfl (.cons rfl (.cons rfl (.cons rfl (.cons rfl (.cons rfl (.cons rfl (.nil))))))))))))) (by kernel_rfl) (by kernel_rfl) ⟨_, hs10, memi 0 rfl, trivial⟩ ?_
        refine .op trivial rfl rfl (fun wq _ => fa 0 fo25_0 rfl) ?_
        refine .op trivial rfl rfl (fun wq ⟨Lq, hsq, mh0, _⟩ => ldm (v := .slice Axs xs.length cxs) hsq mh0 rfl rfl one23) ?_
        refine .op trivial rfl rfl (fun wq _ => mv (v := .int .i64 ((min m.toNat xs.length : Nat) : Int)) rfl) ?_
        refine .op trivial rfl rfl (fun wq _ => culm (zs := xs) (min m.toNat xs.length) sl23 rfl rfl (by first | (first | omega | (simp; omega)) | (have hpb := pipeOk_len (by assumption); first | omega | (simp; omega)))) ?_
        refine .op trivial rfl rfl (fun wq _ => fa 1 fo25_1 rfl) ?_
        refine .op trivial rfl rfl (fun wq ⟨Lq, hsq, mh0, _⟩ => ldm (v := .int .i64 ni) hsq mh0 rfl rfl one3) ?_
        refine .op trivial rfl rfl (fun wq _ => fa 2 fo25_2 rfl) ?_
        refine .op trivial rfl rfl (fun wq ⟨Lq, hsq, mh0, _⟩ => ldm (v := .bool eb) hsq mh0 rfl rfl one4) ?_
        refine .op trivial rfl rfl (fun wq _ => fa 0 fo25_0 rfl) ?_
        refine .op trivial rfl rfl (fun wq ⟨Lq, hsq, mh0, _⟩ => ldm (v := .slice Axs xs.length cxs) hsq mh0 rfl rfl one23) ?_
        refine .op trivial rfl rfl (fun wq _ => mv (v := .int .i64 ((min m.toNat xs.length : Nat) : Int)) rfl) ?_
        refine .op trivial rfl rfl (fun wq _ => cuhm_ (zs := xs) (min m.toNat xs.length) sl23 rfl rfl (by first | (first | omega | (simp; omega)) | (have hpb := pipeOk_len (by assumption); first | omega | (simp; omega))) hxs.cap) ?_
        refine .nil ?_
        refine a2 (i := 0) (j := 11) (by kernel_rfl) ?_ ?_
        · refine one_ rfl ?_
          refine Go.PF.bs hs10 sl23 [] rfl (cs := []) (by kernel_rfl) rfl (by decide) (by decide) trivial rfl (fun b_4_0 w8 (hs11 : SH w w8 [] [.blk b1 25 [.slice Axs xs.length cxs, .int .i64 ni, .bool eb], .blk b2 25 [.slice none 0 0, .int .i64 0, .bool false], .own (some ⟨b_4_0, 0, none⟩) (([] : List Int).length) 0 3 1 (([] : List Int).map I)]) => ?_)
          refine nl (kq ⟨_, hs11, memi 0 rfl, trivial⟩ ?_)
          refine a2 (i := 5) (j := 11) (by kernel_rfl) ?_ ?_
          · refine one_ rfl ?_
            refine apm (g := I) (ys := ([] : List Int)) (zs := xs.drop (min m.toNat xs.length)) hs11 2 rfl sl23 rfl rfl rfl (Sl.cutlm (hxs.up0 hs11) (by first | (first | omega | (simp; omega)) | (have hpb := pipeOk_len (by assumption); first | omega | (simp; omega)))) (fun _ => rfl) (by unfold maxLen; first | (first | omega | (simp; omega)) | (have hpb := pipeOk_len (by assumption); first | omega | (simp; omega))) (by first | (first | omega | (simp; omega)) | (have hpb := pipeOk_len (by assumption); first | omega | (simp; omega))) trivial rfl (fun A_4_5 c_4_5 w9 (hs12 : SH w w9 [] [.blk b1 25 [.slice Axs xs.length cxs, .int .i64 ni, .bool eb], .blk b2 25 [.slice none 0 0, .int .i64 0, .bool false], .own A_4_5 ((xs.drop (min m.toNat xs.length)).length) c_4_5 3 1 ((xs.drop (min m.toNat xs.length)).map I)]) => ?_)
            refine nl (kq ⟨_, hs12, memi 0 rfl, trivial⟩ ?_)
            refine tk (fuel := 5) (is := [10]) (.cons rfl (.nil)) (by kernel_rfl) (by kernel_rfl) ⟨_, hs12, memi 0 rfl, trivial⟩ ?_
            refine .op trivial rfl rfl (fun wq _ => bdv (v := .agg #[.slice A_4_5 ((xs.drop (min m.toNat xs.length)).length) c_4_5, .int .i64 ni, .bool eb]) [(0, .slice A_4_5 ((xs.drop (min m.toNat xs.length)).length) c_4_5), (1, .int .i64 ni), (2, .bool eb)] rfl (fun _ => by kernel_rfl)) ?_
            refine .nil ?_
            refine a1 (i := 11) (by kernel_rfl) ?_
            refine one_ rfl ?_
            refine Go.PF.bs hs12 sl23 [] rfl (cs := []) (by kernel_rfl) rfl (by decide) (by decide) trivial rfl (fun b_4_11 w10 (hs13 : SH w w10 [] [.blk b1 25 [.slice Axs xs.length cxs, .int .i64 ni, .bool eb], .blk b2 25 [.slice none 0 0, .int .i64 0, .bool false], .own A_4_5 ((xs.drop (min m.toNat xs.length)).length) c_4_5 3 1 ((xs.drop (min m.toNat xs.length)).map I), .own (some ⟨b_4_11, 0, none⟩) (([] : List Int).length) 0 3 1 (([] : List Int).map I)]) => ?_)
            refine nl (kq ⟨_, hs13, memi 0 rfl, trivial⟩ ?_)
            refine a1 (i := 16) (by kernel_rfl) ?_
            refine one_ rfl ?_
            refine apm (g := I) (ys := ([] : List Int)) (zs := xs.take (min m.toNat xs.length)) hs13 3 rfl sl23 rfl rfl rfl (Sl.cuthm (hxs.up0 hs13) (by first | (first | omega | (simp; omega)) | (have hpb := pipeOk_len (by assumption); first | omega | (simp; omega)))) (fun _ => rfl) (by unfold maxLen; first | (first | omega | (simp; omega)) | (have hpb := pipeOk_len (by assumption); first | omega | (simp; omega))) (by first | (first | omega | (simp; omega)) | (have hpb := pipeOk_len (by assumption); first | omega | (simp; omega))) trivial rfl (fun A_4_16 c_4_16 w11 (hs14 : SH w w11 [] [.blk b1 25 [.slice Axs xs.length cxs, .int .i64 ni, .bool eb], .blk b2 25 [.slice none 0 0, .int .i64 0, .bool false], .own A_4_5 ((xs.drop (min m.toNat xs.length)).length) c_4_5 3 1 ((xs.drop (min m.toNat xs.length)).map I), .own A_4_16 ((xs.take (min m.toNat xs.length)).length) c_4_16 3 1 ((xs.take (min m.toNat xs.length)).map I)]) => ?_)
            refine nl (kq ⟨_, hs14, memi 0 rfl, trivial⟩ ?_)
            refine a1 (i := 17) (by kernel_rfl) ?_
            refine one_ rfl ?_
            refine stg (vs := [.slice A_4_5 ((xs.drop (min m.toNat xs.length)).length) c_4_5, .int .i64 ni, .bool eb]) hs14 1 rfl rfl rfl rfl rfl rfl rfl ag25 trivial (fun w12 (hs15 : SH w w12 [] [.blk b1 25 [.slice Axs xs.length cxs, .int .i64 ni, .bool eb], .own A_4_5 ((xs.drop (min m.toNat xs.length)).length) c_4_5 3 1 ((xs.drop (min m.toNat xs.length)).map I), .own A_4_16 ((xs.take (min m.toNat xs.length)).length) c_4_16 3 1 ((xs.take (min m.toNat xs.length)).map I), .blk b2 25 [.slice A_4_5 ((xs.drop (min m.toNat xs.length)).length) c_4_5, .int .i64 ni, .bool eb]]) => ?_)
            refine nl (kq ⟨_, hs15, memi 0 rfl, trivial⟩ ?_)
            refine tk (fuel := 0) (is := [18, 19]) (.cons rfl (.cons rfl (.nil))) (by kernel_rfl) (by kernel_rfl) ⟨_, hs15, memi 0 rfl, trivial⟩ ?_
            refine .op trivial rfl rfl (fun wq _ => asg (v := .slice A_4_16 ((xs.take (min m.toNat xs.length)).length) c_4_16) rfl) ?_
            refine .op trivial rfl rfl (fun wq _ => asg (v := .bool true) rfl) ?_
            refine .nil ?_
            refine ad (by kernel_rfl) ?_
            exact ⟨A_4_5, c_4_5, A_4_16, c_4_16, ⟨rfl, rfl, rfl, trivial⟩, hs15⟩
          · refine one_ rfl ?_
            refine Go.PF.bs hs11 sl23 [] rfl (cs := []) (by kernel_rfl) rfl (by decide) (by decide) trivial rfl (fun b_4_11 w13 (hs16 : SH w w13 [] [.blk b1 25 [.slice Axs xs.length cxs, .int .i64 ni, .bool eb], .blk b2 25 [.slice none 0 0, .int .i64 0, .bool false], .own (some ⟨b_4_0, 0, none⟩) (([] : List Int).length) 0 3 1 (([] : List Int).map I), .own (some ⟨b_4_11, 0, none⟩) (([] : List Int).length) 0 3 1 (([] : List Int).map I)]) => ?_)
            refine nl (kq ⟨_, hs16, memi 0 rfl, trivial⟩ ?_)
            refine a1 (i := 5) (by kernel_rfl) ?_
            refine one_ rfl ?_
            refine apm (g := I) (ys := ([] : List Int)) (zs := xs.drop (min m.toNat xs.length)) hs16 2 rfl sl23 rfl rfl rfl (Sl.cutlm (hxs.up0 hs16) (by first | (first | omega | (simp; omega)) | (have hpb := pipeOk_len (by assumption); first | omega | (simp; omega)))) (fun _ => rfl) (by unfold maxLen; first | (first | omega | (simp; omega)) | (have hpb := pipeOk_len (by assumption); first | omega | (simp; omega))) (by first | (first | omega | (simp; omega)) | (have hpb := pipeOk_len (by assumption); first | omega | (simp; omega))) trivial rfl (fun A_4_5 c_4_5 w14 (hs17 : SH w w14 [] [.blk b1 25 [.slice Axs xs.length cxs, .int .i64 ni, .bool eb], .blk b2 25 [.slice none 0 0, .int .i64 0, .bool false], .own (some ⟨b_4_11, 0, none⟩) (([] : List Int).length) 0 3 1 (([] : List Int).map I), .own A_4_5 ((xs.drop (min m.toNat xs.length)).length) c_4_5 3 1 ((xs.drop (min m.toNat xs.length)).map I)]) => ?_)
            refine nl (kq ⟨_, hs17, memi 0 rfl, trivial⟩ ?_)
            refine tk (fuel := 4) (is := [10]) (.cons rfl (.nil)) (by kernel_rfl) (by kernel_rfl) ⟨_, hs17, memi 0 rfl, trivial⟩ ?_
            refine .op trivial rfl rfl (fun wq _ => bdv (v := .agg #[.slice A_4_5 ((xs.drop (min m.toNat xs.length)).length) c_4_5, .int .i64 ni, .bool eb]) [(0, .slice A_4_5 ((xs.drop (min m.toNat xs.length)).length) c_4_5), (1, .int .i64 ni), (2, .bool eb)] rfl (fun _ => by kernel_rfl)) ?_
            refine .nil ?_
            refine a1 (i := 16) (by kernel_rfl) ?_
            refine one_ rfl ?_
            refine apm (g := I) (ys := ([] : List Int)) (zs := xs.take (min m.toNat xs.length)) hs17 2 rfl sl23 rfl rfl rfl (Sl.cuthm (hxs.up0 hs17) (by first | (first | omega | (simp; omega)) | (have hpb := pipeOk_len (by assumption); first | omega | (simp; omega)))) (fun _ => rfl) (by unfold maxLen; first | (first | omega | (simp; omega)) | (have hpb := pipeOk_len (by assumption); first | omega | (simp; omega))) (by first | (first | omega | (simp; omega)) | (have hpb := pipeOk_len (by assumption); first | omega | (simp; omega))) trivial rfl (fun A_4_16 c_4_16 w15 (hs18 : SH w w15 [] [.blk b1 25 [.slice Axs xs.length cxs, .int .i64 ni, .bool eb], .blk b2 25 [.slice none 0 0, .int .i64 0, .bool false], .own A_4_5 ((xs.drop (min m.toNat xs.length)).length) c_4_5 3 1 ((xs.drop (min m.toNat xs.length)).map I), .own A_4_16 ((xs.take (min m.toNat xs.length)).length) c_4_16 3 1 ((xs.take (min m.toNat xs.length)).map I)]) => ?_)
            refine nl (kq ⟨_, hs18, memi 0 rfl, trivial⟩ ?_)
            refine a1 (i := 17) (by kernel_rfl) ?_
            refine one_ rfl ?_
            refine stg (vs := [.slice A_4_5 ((xs.drop (min m.toNat xs.length)).length) c_4_5, .int .i64 ni, .bool eb]) hs18 1 rfl rfl rfl rfl rfl rfl rfl ag25 trivial (fun w16 (hs19 : SH w w16 [] [.blk b1 25 [.slice Axs xs.length cxs, .int .i64 ni, .bool eb], .own A_4_5 ((xs.drop (min m.toNat xs.length)).length) c_4_5 3 1 ((xs.drop (min m.toNat xs.length)).map I), .own A_4_16 ((xs.take (min m.toNat xs.length)).length) c_4_16 3 1 ((xs.take (min m.toNat xs.length)).map I), .blk b2 25 [.slice A_4_5 ((xs.drop (min m.toNat xs.length)).length) c_4_5, .int .i64 ni, .bool eb]]) => ?_)
            refine nl (kq ⟨_, hs19, memi 0 rfl, trivial⟩ ?_)
            refine tk (fuel := 0) (is := [18, 19]) (.cons rfl (.cons rfl (.nil))) (by kernel_rfl) (by kernel_rfl) ⟨_, hs19, memi 0 rfl, trivial⟩ ?_
            refine .op trivial rfl rfl (fun wq _ => asg (v := .slice A_4_16 ((xs.take (min m.toNat xs.length)).length) c_4_16) rfl) ?_
            refine .op trivial rfl rfl (fun wq _ => asg (v := .bool true) rfl) ?_
            refine .nil ?_
            refine ad (by kernel_rfl) ?_
            exact ⟨A_4_5, c_4_5, A_4_16, c_4_16, ⟨rfl, rfl, rfl, trivial⟩, hs19⟩
        · refine one_ rfl ?_
          refine Go.PF.bs hs10 sl23 [] rfl (cs := []) (by kernel_rfl) rfl (by decide) (by decide) trivial rfl (fun b_4_11 w17 (hs20 : SH w w17 [] [.blk b1 25 [.slice Axs xs.length cxs, .int .i64 ni, .bool eb], .blk b2 25 [.slice none 0 0, .int .i64 0, .bool false], .own (some ⟨b_4_11, 0, none⟩) (([] : List Int).length) 0 3 1 (([] : List Int).map I)]) => ?_)
          refine nl (kq ⟨_, hs20, memi 0 rfl, trivial⟩ ?_)
          refine a1 (i := 0) (by kernel_rfl) ?_
          refine one_ rfl ?_
          refine Go.PF.bs hs20 sl23 [] rfl (cs := []) (by kernel_rfl) rfl (by decide) (by decide) trivial rfl (fun b_4_0 w18 (hs21 : SH w w18 [] [.blk b1 25 [.slice Axs xs.length cxs, .int .i64 ni, .bool eb], .blk b2 25 [.slice none 0 0, .int .i64 0, .bool false], .own (some ⟨b_4_11, 0, none⟩) (([] : List Int).length) 0 3 1 (([] : List Int).map I), .own (some ⟨b_4_0, 0, none⟩) (([] : List Int).length) 0 3 1 (([] : List Int).map I)]) => ?_)
          refine nl (kq ⟨_, hs21, memi 0 rfl, trivial⟩ ?_)
          refine a1 (i := 5) (by kernel_rfl) ?_
          refine one_ rfl ?_
          refine apm (g := I) (ys := ([] : List Int)) (zs := xs.drop (min m.toNat xs.length)) hs21 3 rfl sl23 rfl rfl rfl (Sl.cutlm (hxs.up0 hs21) (by first | (first | omega | (simp; omega)) | (have hpb := pipeOk_len (by assumption); first | omega | (simp; omega)))) (fun _ => rfl) (by unfold maxLen; first | (first | omega | (simp; omega)) | (have hpb := pipeOk_len (by assumption); first | omega | (simp; omega))) (by first | (first | omega | (simp; omega)) | (have hpb := pipeOk_len (by assumption); first | omega | (simp; omega))) trivial rfl (fun A_4_5 c_4_5 w19 (hs22 : SH w w19 [] [.blk b1 25 [.slice Axs xs.length cxs, .int .i64 ni, .bool eb], .blk b2 25 [.slice none 0 0, .int .i64 0, .bool false], .own (some ⟨b_4_11, 0, none⟩) (([] : List Int).length) 0 3 1 (([] : List Int).map I), .own A_4_5 ((xs.drop (min m.toNat xs.length)).length) c_4_5 3 1 ((xs.drop (min m.toNat xs.length)).map I)]) => ?_)
          refine nl (kq ⟨_, hs22, memi 0 rfl, trivial⟩ ?_)
          refine tk (fuel := 4) (is := [10]) (.cons rfl (.nil)) (by kernel_rfl) (by kernel_rfl) ⟨_, hs22, memi 0 rfl, trivial⟩ ?_
          refine .op trivial rfl rfl (fun wq _ => bdv (v := .agg #[.slice A_4_5 ((xs.drop (min m.toNat xs.length)).length) c_4_5, .int .i64 ni, .bool eb]) [(0, .slice A_4_5 ((xs.drop (min m.toNat xs.length)).length) c_4_5), (1, .int .i64 ni), (2, .bool eb)] rfl (fun _ => by kernel_rfl)) ?_
          refine .nil ?_
          refine a1 (i := 16) (by kernel_rfl) ?_
          refine one_ rfl ?_
          refine apm (g := I) (ys := ([] : List Int)) (zs := xs.take (min m.toNat xs.length)) hs22 2 rfl sl23 rfl rfl rfl (Sl.cuthm (hxs.up0 hs22) (by first | (first | omega | (simp; omega)) | (have hpb := pipeOk_len (by assumption); first | omega | (simp; omega)))) (fun _ => rfl) (by unfold maxLen; first | (first | omega | (simp; omega)) | (have hpb := pipeOk_len (by assumption); first | omega | (simp; omega))) (by first | (first | omega | (simp; omega)) | (have hpb := pipeOk_len (by assumption); first | omega | (simp; omega))) trivial rfl (fun A_4_16 c_4_16 w20 (hs23 : SH w w20 [] [.blk b1 25 [.slice Axs xs.length cxs, .int .i64 ni, .bool eb], .blk b2 25 [.slice none 0 0, .int .i64 0, .bool false], .own A_4_5 ((xs.drop (min m.toNat xs.length)).length) c_4_5 3 1 ((xs.drop (min m.toNat xs.length)).map I), .own A_4_16 ((xs.take (min m.toNat xs.length)).length) c_4_16 3 1 ((xs.take (min m.toNat xs.length)).map I)]) => ?_)
          refine nl (kq ⟨_, hs23, memi 0 rfl, trivial⟩ ?_)
          refine a1 (i := 17) (by kernel_rfl) ?_
          refine one_ rfl ?_
          refine stg (vs := [.slice A_4_5 ((xs.drop (min m.toNat xs.length)).length) c_4_5, .int .i64 ni, .bool eb]) hs23 1 rfl rfl rfl rfl rfl rfl rfl ag25 trivial (fun w21 (hs24 : SH w w21 [] [.blk b1 25 [.slice Axs xs.length cxs, .int .i64 ni, .bool eb], .own A_4_5 ((xs.drop (min m.toNat xs.length)).length) c_4_5 3 1 ((xs.drop (min m.toNat xs.length)).map I), .own A_4_16 ((xs.take (min m.toNat xs.length)).length) c_4_16 3 1 ((xs.take (min m.toNat xs.length)).map I), .blk b2 25 [.slice A_4_5 ((xs.drop (min m.toNat xs.length)).length) c_4_5, .int .i64 ni, .bool eb]]) => ?_)
          refine nl (kq ⟨_, hs24, memi 0 rfl, trivial⟩ ?_)
          refine tk (fuel := 0) (is := [18, 19]) (.cons rfl (.cons rfl (.nil))) (by kernel_rfl) (by kernel_rfl) ⟨_, hs24, memi 0 rfl, trivial⟩ ?_
          refine .op trivial rfl rfl (fun wq _ => asg (v := .slice A_4_16 ((xs.take (min m.toNat xs.length)).length) c_4_16) rfl) ?_
          refine .op trivial rfl rfl (fun wq _ => asg (v := .bool true) rfl) ?_
          refine .nil ?_
          refine ad (by kernel_rfl) ?_
          exact ⟨A_4_5, c_4_5, A_4_16, c_4_16, ⟨rfl, rfl, rfl, trivial⟩, hs24⟩
      rintro f w22 ⟨A_4_5, c_4_5, A_4_16, c_4_16, hf, hs25⟩
      obtain ⟨g1, rfl⟩ := has_upd hf
      clear hf
      refine nN ?_
      refine rt ?_
      refine fret (v := .tuple #[.agg #[.slice A_4_5 ((xs.drop (min m.toNat xs.length)).length) c_4_5, .int .i64 ni, .bool eb], .slice A_4_16 ((xs.take (min m.toNat xs.length)).length) c_4_16, .bool true]) (resC hs25 3 rfl rfl ag25 rfl (.tmp (.tmp .nil))) rfl ?_
      have e18 : pipeGet xs ni eb m = (xs.drop (min m.toNat xs.length), ni, eb, xs.take (min m.toNat xs.length), true) := by simp [pipeGet, h3, h4]
      have e19 : xs.drop (min m.toNat xs.length) = (pipeGet xs ni eb m).1 := by rw [e18]
      have e20 : (xs.drop (min m.toNat xs.length)).length = ((pipeGet xs ni eb m).1).length := by exact congrArg List.length e19
      have e21 : ni = (pipeGet xs ni eb m).2.1 := by rw [e18]
      have e22 : eb = (pipeGet xs ni eb m).2.2.1 := by rw [e18]
      have e23 : xs.take (min m.toNat xs.length) = (pipeGet xs ni eb m).2.2.2.1 := by rw [e18]
      have e24 : (xs.take (min m.toNat xs.length)).length = ((pipeGet xs ni eb m).2.2.2.1).length := by exact congrArg List.length e23
      have e25 : true = (pipeGet xs ni eb m).2.2.2.2 := by rw [e18]
      exact ⟨A_4_5, c_4_5, A_4_16, c_4_16, (tup3 (aggv (lc (slv rfl e20 rfl) (lc (congrArg (Value.int .i64) e21) (lc (congrArg (Value.bool) e22) rfl)))) (slv rfl e24 rfl) (congrArg (Value.bool) e25)), ((hs25.pick [1, 2] rfl (by decide)).cast (lc (own_eq (g := I) rfl e20 rfl e19) (lc (own_eq (g := I) rfl e24 rfl e23) rfl)))⟩

theorem iPipeEnd {Axs : Option Addr} {cxs : Nat} (xs : List Int) (ni : Int) (eb : Bool) (w : World) (hxs : Sl w [] 1 Axs xs.length cxs (xs.map I)) : Does Try.prog 28 [.agg #[.slice Axs xs.length cxs, .int .i64 ni, .bool eb]] w (fun v w' => ∃ Ar : Option Addr, ∃ cr : Nat, v = .tuple #[.agg #[.slice Ar ((pipeEnd xs ni).1).length cr, .int .i64 ((pipeEnd xs ni).2), .bool (pipeOk xs ni)], .bool (pipeOk xs ni)] ∧ SH w w' [] [.own Ar (((pipeEnd xs ni).1).length) cr 3 1 (((pipeEnd xs ni).1).map I)]) := by
  refine fn_enter (N := 14) Try.func28 rfl (by kernel_rfl) rfl rfl rfl ?_
  have hs0 : SH w w [] [] := SH.refl w []
  have hxs_m : xs.length ≤ 9223372036854775807 := Nat.le_trans hxs.cap hxs.capMax
  refine sq ?_
  refine rg ?_
  refine bx (v := .agg #[.slice Axs xs.length cxs, .int .i64 ni, .bool eb]) (cs := [.slice Axs xs.length cxs, .int .i64 ni, .bool eb]) hs0 rfl rfl trivial rfl (fun b1 w1 (hs1 : SH w w1 [] [.blk b1 25 [.slice Axs xs.length cxs, .int .i64 ni, .bool eb]]) => ?_)
  refine al (v := .agg #[.slice none 0 0, .int .i64 0, .bool false]) (cs := [.slice none 0 0, .int .i64 0, .bool false]) hs1 tz25 rfl trivial rfl (fun b2 w2 (hs2 : SH w w2 [] [.blk b1 25 [.slice Axs xs.length cxs, .int .i64 ni, .bool eb], .blk b2 25 [.slice none 0 0, .int .i64 0, .bool false]]) => ?_)
  refine q trivial rfl rfl (asg (v := .bool false) rfl) ?_
  refine nl ?_
  refine nN ?_
  refine sq ?_
  refine sq ?_
  refine rg ?_
  refine q trivial rfl rfl (ldg (vs := [.slice Axs xs.length cxs, .int .i64 ni, .bool eb]) hs2 0 rfl rfl rfl rfl ag25) ?_
  refine cl trivial rfl (iPipeValid (Axs := Axs) (cxs := cxs) (xs := xs) (ni := ni) (eb := eb) (w := _) (hxs := (hxs.up0 hs2))) ?_
  rintro _ w3 ⟨rfl, hs3'⟩
  have hs3 : SH w w3 [] [.blk b1 25 [.slice Axs xs.length cxs, .int .i64 ni, .bool eb], .blk b2 25 [.slice none 0 0, .int .i64 0, .bool false]] := hs2.call0 hs3'
  clear hs3'
  refine q trivial rfl rfl (nt (b := pipeOk xs ni) rfl) ?_
  refine nl ?_
  refine nN ?_
  refine cd (b := !(pipeOk xs ni)) rfl (fun h1 => ?_) (fun h1 => ?_)
  · have h2 : (pipeOk xs ni) = false := by simpa using h1
    refine sq ?_
    refine rg ?_
    refine q trivial rfl rfl (bdv (v := .agg #[.slice none 0 0, .int .i64 0, .bool false]) [] rfl (fun _ => by kernel_rfl)) ?_
    refine stg (vs := [.slice none 0 0, .int .i64 0, .bool false]) hs3 1 rfl rfl rfl rfl rfl rfl rfl ag25 trivial (fun w4 (hs4 : SH w w4 [] [.blk b1 25 [.slice Axs xs.length cxs, .int .i64 ni, .bool eb], .blk b2 25 [.slice none 0 0, .int .i64 0, .bool false]]) => ?_)
    refine q trivial rfl rfl (asg (v := .bool false) rfl) ?_
    refine nl ?_
    refine nN ?_
    refine rt (tR ?_)
    refine fret (v := .tuple #[.agg #[.slice none 0 0, .int .i64 0, .bool false], .bool false]) (resC hs4 1 rfl rfl ag25 rfl (.tmp .nil)) rfl ?_
    have hs5 : SH w w4 [] [.blk b1 25 [.slice Axs xs.length cxs, .int .i64 ni, .bool eb], .blk b2 25 [.slice none 0 0, .int .i64 0, .bool false], .own none (([] : List Int).length) 0 3 1 (([] : List Int).map I)] := SH.nils (by intro i hi; simp at hi; subst hi; exact nilItem) hs4
    have e1 : pipeEnd xs ni = (([] : List Int), 0) := by simp [pipeEnd, h2]
    have e2 : ([] : List Int) = (pipeEnd xs ni).1 := by rw [e1]
    have e3 : ([] : List Int).length = ((pipeEnd xs ni).1).length := by exact congrArg List.length e2
    have e4 : 0 = (pipeEnd xs ni).2 := by rw [e1]
    have e5 : false = pipeOk xs ni := by first | rfl | (simp [h2]; done)
    have e6 : false = pipeOk xs ni := by first | rfl | (simp [h2]; done)
    exact ⟨none, 0, (tup2 (aggv (lc (slv rfl e3 rfl) (lc (congrArg (Value.int .i64) e4) (lc (congrArg (Value.bool) e5) rfl)))) (congrArg (Value.bool) e6)), ((hs5.pick [2] rfl (by decide)).cast (lc (own_eq (g := I) rfl e3 rfl e2) rfl))⟩
  · have h3 : (pipeOk xs ni) = true := by simpa using h1
    refine sk ?_
    refine nN ?_
    refine sq ?_
    refine ra (fun w' => ∃ L, SH w w' [] L ∧ (.blk b1 25 [.slice Axs xs.length cxs, .int .i64 ni, .bool eb]) ∈ L ∧ True) mixed ?_
    have hs6 := hs3.drew
    refine tk (fuel := 4) (is := [0, 1, 3, 4]) (.cons rfl (.cons rfl (.cons rfl (.cons rfl (.nil))))) (by kernel_rfl) (by kernel_rfl) ⟨_, hs6, memi 0 rfl, trivial⟩ ?_
    refine .op trivial rfl rfl (fun wq _ => fa 0 fo25_0 rfl) ?_
    refine .op trivial rfl rfl (fun wq ⟨Lq, hsq, mh0, _⟩ => ldm (v := .slice Axs xs.length cxs) hsq mh0 rfl rfl one23) ?_
    refine .op trivial rfl rfl (fun wq _ => fa 1 fo25_1 rfl) ?_
    refine .op trivial rfl rfl (fun wq ⟨Lq, hsq, mh0, _⟩ => ldm (v := .int .i64 ni) hsq mh0 rfl rfl one3) ?_
    refine .nil ?_
    refine a1 (i := 2) (by kernel_rfl) ?_
    refine one_ rfl ?_
    refine cl trivial rfl (slClone (Axs := Axs) (cxs := cxs) (xs := xs) (w := _) (hxs := (hxs.up0 hs6)) (hxs_n := (by first | (first | omega | (simp; omega)) | (have hpb := pipeOk_len (by assumption); first | omega | (simp; omega))))) ?_
    rintro _ w5 ⟨A_3_2, c_3_2, rfl, hs7'⟩
    have hs7 : SH w w5 [] [.blk b1 25 [.slice Axs xs.length cxs, .int .i64 ni, .bool eb], .blk b2 25 [.slice none 0 0, .int .i64 0, .bool false], .own A_3_2 xs.length c_3_2 3 1 (xs.map I)] := hs6.call0 hs7'
    clear hs7'
    refine nl (kq ⟨_, hs7, memi 0 rfl, trivial⟩ ?_)
    refine tk (fuel := 2) (is := [5]) (.cons rfl (.nil)) (by kernel_rfl) (by kernel_rfl) ⟨_, hs7, memi 0 rfl, trivial⟩ ?_
    refine .op trivial rfl rfl (fun wq _ => bdv (v := .agg #[.slice A_3_2 xs.length c_3_2, .int .i64 ni, .bool true]) [(0, .slice A_3_2 xs.length c_3_2), (1, .int .i64 ni), (2, .bool true)] rfl (fun _ => by kernel_rfl)) ?_
    refine .nil ?_
    refine a1 (i := 6) (by kernel_rfl) ?_
    refine one_ rfl ?_
    refine stg (vs := [.slice A_3_2 xs.length c_3_2, .int .i64 ni, .bool true]) hs7 1 rfl rfl rfl rfl rfl rfl rfl ag25 trivial (fun w6 (hs8 : SH w w6 [] [.blk b1 25 [.slice Axs xs.length cxs, .int .i64 ni, .bool eb], .own A_3_2 xs.length c_3_2 3 1 (xs.map I), .blk b2 25 [.slice A_3_2 xs.length c_3_2, .int .i64 ni, .bool true]]) => ?_)
    refine nl (kq ⟨_, hs8, memi 0 rfl, trivial⟩ ?_)
    refine tk (fuel := 0) (is := [7]) (.cons rfl (.nil)) (by kernel_rfl) (by kernel_rfl) ⟨_, hs8, memi 0 rfl, trivial⟩ ?_
    refine .op trivial rfl rfl (fun wq _ => asg (v := .bool true) rfl) ?_
    refine .nil ?_
    refine ad (by kernel_rfl) ?_
    refine nN ?_
    refine rt ?_
    refine fret (v := .tuple #[.agg #[.slice A_3_2 xs.length c_3_2, .int .i64 ni, .bool true], .bool true]) (resC hs8 2 rfl rfl ag25 rfl (.tmp .nil)) rfl ?_
    have e7 : pipeEnd xs ni = (xs, ni) := by simp [pipeEnd, h3]
    have e8 : xs = (pipeEnd xs ni).1 := by rw [e7]
    have e9 : xs.length = ((pipeEnd xs ni).1).length := by exact congrArg List.length e8
    have e10 : ni = (pipeEnd xs ni).2 := by rw [e7]
    have e11 : true = pipeOk xs ni := by first | rfl | (simp [h3]; done)
    have e12 : true = pipeOk xs ni := by first | rfl | (simp [h3]; done)
    exact ⟨A_3_2, c_3_2, (tup2 (aggv (lc (slv rfl e9 rfl) (lc (congrArg (Value.int .i64) e10) (lc (congrArg (Value.bool) e11) rfl)))) (congrArg (Value.bool) e12)), ((hs8.pick [1] rfl (by decide)).cast (lc (own_eq (g := I) rfl e9 rfl e8) rfl))⟩

theorem sPipeEnd {Axs : Option Addr} {cxs : Nat} (xs : List Int) (ni : Int) (eb : Bool) (w : World) (hxs : Sl w [] 1 Axs xs.length cxs (xs.map I)) : Does Try.prog 27 [.agg #[.slice Axs xs.length cxs, .int .i64 ni, .bool eb]] w (fun v w' => ∃ Ar : Option Addr, ∃ cr : Nat, v = .tuple #[.agg #[.slice Ar ((pipeEnd xs ni).1).length cr, .int .i64 ((pipeEnd xs ni).2), .bool (pipeOk xs ni)], .bool (pipeOk xs ni)] ∧ SH w w' [] [.own Ar (((pipeEnd xs ni).1).length) cr 3 1 (((pipeEnd xs ni).1).map I)]) := by
  refine fn_enter (N := 15) Try.func27 rfl (by kernel_rfl) rfl rfl rfl ?_
  have hs0 : SH w w [] [] := SH.refl w []
  have hxs_m : xs.length ≤ 9223372036854775807 := Nat.le_trans hxs.cap hxs.capMax
  refine sq ?_
  refine rg ?_
  refine bx (v := .agg #[.slice Axs xs.length cxs, .int .i64 ni, .bool eb]) (cs := [.slice Axs xs.length cxs, .int .i64 ni, .bool eb]) hs0 rfl rfl trivial rfl (fun b1 w1 (hs1 : SH w w1 [] [.blk b1 25 [.slice Axs xs.length cxs, .int .i64 ni, .bool eb]]) => ?_)
  refine al (v := .agg #[.slice none 0 0, .int .i64 0, .bool false]) (cs := [.slice none 0 0, .int .i64 0, .bool false]) hs1 tz25 rfl trivial rfl (fun b2 w2 (hs2 : SH w w2 [] [.blk b1 25 [.slice Axs xs.length cxs, .int .i64 ni, .bool eb], .blk b2 25 [.slice none 0 0, .int .i64 0, .bool false]]) => ?_)
  refine q trivial rfl rfl (asg (v := .bool false) rfl) ?_
  refine nl ?_
  refine nN ?_
  refine sq ?_
  refine sq ?_
  refine rg ?_
  refine q trivial rfl rfl (ldg (vs := [.slice Axs xs.length cxs, .int .i64 ni, .bool eb]) hs2 0 rfl rfl rfl rfl ag25) ?_
  refine cl trivial rfl (sPipeValid (Axs := Axs) (cxs := cxs) (xs := xs) (ni := ni) (eb := eb) (w := _) (hxs := (hxs.up0 hs2))) ?_
  rintro _ w3 ⟨rfl, hs3'⟩
  have hs3 : SH w w3 [] [.blk b1 25 [.slice Axs xs.length cxs, .int .i64 ni, .bool eb], .blk b2 25 [.slice none 0 0, .int .i64 0, .bool false]] := hs2.call0 hs3'
  clear hs3'
  refine q trivial rfl rfl (nt (b := pipeOk xs ni) rfl) ?_
  refine nl ?_
  refine nN ?_
  refine cd (b := !(pipeOk xs ni)) rfl (fun h1 => ?_) (fun h1 => ?_)
  · have h2 : (pipeOk xs ni) = false := by simpa using h1
    refine sq ?_
    refine rg ?_
    refine q trivial rfl rfl (bdv (v := .agg #[.slice none 0 0, .int .i64 0, .bool false]) [] rfl (fun _ => by kernel_rfl)) ?_
    refine stg (vs := [.slice none 0 0, .int .i64 0, .bool false]) hs3 1 rfl rfl rfl rfl rfl rfl rfl ag25 trivial (fun w4 (hs4 : SH w w4 [] [.blk b1 25 [.slice Axs xs.length cxs, .int .i64 ni, .bool eb], .blk b2 25 [.slice none 0 0, .int .i64 0, .bool false]]) => ?_)
    refine q trivial rfl rfl (asg (v := .bool false) rfl) ?_
    refine nl ?_
    refine nN ?_
    refine rt (tR ?_)
    refine fret (v := .tuple #[.agg #[.slice none 0 0, .int .i64 0, .bool false], .bool false]) (resC hs4 1 rfl rfl ag25 rfl (.tmp .nil)) rfl ?_
    have hs5 : SH w w4 [] [.blk b1 25 [.slice Axs xs.length cxs, .int .i64 ni, .bool eb], .blk b2 25 [.slice none 0 0, .int .i64 0, .bool false], .own none (([] : List Int).length) 0 3 1 (([] : List Int).map I)] := SH.nils (by intro i hi; simp at hi; subst hi; exact nilItem) hs4
    have e1 : pipeEnd xs ni = (([] : List Int), 0) := by simp [pipeEnd, h2]
    have e2 : ([] : List Int) = (pipeEnd xs ni).1 := by rw [e1]
    have e3 : ([] : List Int).length = ((pipeEnd xs ni).1).length := by exact congrArg List.length e2
    have e4 : 0 = (pipeEnd xs ni).2 := by rw [e1]
    have e5 : false = pipeOk xs ni := by first | rfl | (simp [h2]; done)
    have e6 : false = pipeOk xs ni := by first | rfl | (simp [h2]; done)
    exact ⟨none, 0, (tup2 (aggv (lc (slv rfl e3 rfl) (lc (congrArg (Value.int .i64) e4) (lc (congrArg (Value.bool) e5) rfl)))) (congrArg (Value.bool) e6)), ((hs5.pick [2] rfl (by decide)).cast (lc (own_eq (g := I) rfl e3 rfl e2) rfl))⟩
  · have h3 : (pipeOk xs ni) = true := by simpa using h1
    refine sk ?_
    refine nN ?_
    refine sq ?_
    refine ra (fun w' => ∃ L, SH w w' [] L ∧ (.blk b1 25 [.slice Axs xs.length cxs, .int .i64 ni, .bool eb]) ∈ L ∧ True) mixed ?_
    have hs6 := hs3.drew
    refine tk (fuel := 5) (is := [1, 2, 4, 5]) (.cons rfl (.cons rfl (.cons rfl (.cons rfl (.nil))))) (by kernel_rfl) (by kernel_rfl) ⟨_, hs6, memi 0 rfl, trivial⟩ ?_
    refine .op trivial rfl rfl (fun wq _ => fa 0 fo25_0 rfl) ?_
    refine .op trivial rfl rfl (fun wq ⟨Lq, hsq, mh0, _⟩ => ldm (v := .slice Axs xs.length cxs) hsq mh0 rfl rfl one23) ?_
    refine .op trivial rfl rfl (fun wq _ => fa 1 fo25_1 rfl) ?_
    refine .op trivial rfl rfl (fun wq ⟨Lq, hsq, mh0, _⟩ => ldm (v := .int .i64 ni) hsq mh0 rfl rfl one3) ?_
    refine .nil ?_
    refine a1 (i := 0) (by kernel_rfl) ?_
    refine one_ rfl ?_
    refine Go.PF.bs hs6 sl23 [] rfl (cs := []) (by kernel_rfl) rfl (by decide) (by decide) trivial rfl (fun b_3_0 w5 (hs7 : SH w w5 [] [.blk b1 25 [.slice Axs xs.length cxs, .int .i64 ni, .bool eb], .blk b2 25 [.slice none 0 0, .int .i64 0, .bool false], .own (some ⟨b_3_0, 0, none⟩) (([] : List Int).length) 0 3 1 (([] : List Int).map I)]) => ?_)
    refine nl (kq ⟨_, hs7, memi 0 rfl, trivial⟩ ?_)
    refine a1 (i := 3) (by kernel_rfl) ?_
    refine one_ rfl ?_
    refine apm (g := I) (ys := ([] : List Int)) (zs := xs) hs7 2 rfl sl23 rfl rfl rfl (hxs.up0 hs7) (fun _ => rfl) (by unfold maxLen; first | (first | omega | (simp; omega)) | (have hpb := pipeOk_len (by assumption); first | omega | (simp; omega))) (by first | (first | omega | (simp; omega)) | (have hpb := pipeOk_len (by assumption); first | omega | (simp; omega))) trivial rfl (fun A_3_3 c_3_3 w6 (hs8 : SH w w6 [] [.blk b1 25 [.slice Axs xs.length cxs, .int .i64 ni, .bool eb], .blk b2 25 [.slice none 0 0, .int .i64 0, .bool false], .own A_3_3 xs.length c_3_3 3 1 (xs.map I)]) => ?_)
    refine nl (kq ⟨_, hs8, memi 0 rfl, trivial⟩ ?_)
    refine tk (fuel := 2) (is := [6]) (.cons rfl (.nil)) (by kernel_rfl) (by kernel_rfl) ⟨_, hs8, memi 0 rfl, trivial⟩ ?_
    refine .op trivial rfl rfl (fun wq _ => bdv (v := .agg #[.slice A_3_3 xs.length c_3_3, .int .i64 ni, .bool true]) [(0, .slice A_3_3 xs.length c_3_3), (1, .int .i64 ni), (2, .bool true)] rfl (fun _ => by kernel_rfl)) ?_
    refine .nil ?_
    refine a1 (i := 7) (by kernel_rfl) ?_
    refine one_ rfl ?_
    refine stg (vs := [.slice A_3_3 xs.length c_3_3, .int .i64 ni, .bool true]) hs8 1 rfl rfl rfl rfl rfl rfl rfl ag25 trivial (fun w7 (hs9 : SH w w7 [] [.blk b1 25 [.slice Axs xs.length cxs, .int .i64 ni, .bool eb], .own A_3_3 xs.length c_3_3 3 1 (xs.map I), .blk b2 25 [.slice A_3_3 xs.length c_3_3, .int .i64 ni, .bool true]]) => ?_)
    refine nl (kq ⟨_, hs9, memi 0 rfl, trivial⟩ ?_)
    refine tk (fuel := 0) (is := [8]) (.cons rfl (.nil)) (by kernel_rfl) (by kernel_rfl) ⟨_, hs9, memi 0 rfl, trivial⟩ ?_
    refine .op trivial rfl rfl (fun wq _ => asg (v := .bool true) rfl) ?_
    refine .nil ?_
    refine ad (by kernel_rfl) ?_
    refine nN ?_
    refine rt ?_
    refine fret (v := .tuple #[.agg #[.slice A_3_3 xs.length c_3_3, .int .i64 ni, .bool true], .bool true]) (resC hs9 2 rfl rfl ag25 rfl (.tmp .nil)) rfl ?_
    have e7 : pipeEnd xs ni = (xs, ni) := by simp [pipeEnd, h3]
    have e8 : xs = (pipeEnd xs ni).1 := by rw [e7]
    have e9 : xs.length = ((pipeEnd xs ni).1).length := by exact congrArg List.length e8
    have e10 : ni = (pipeEnd xs ni).2 := by rw [e7]
    have e11 : true = pipeOk xs ni := by first | rfl | (simp [h3]; done)
    have e12 : true = pipeOk xs ni := by first | rfl | (simp [h3]; done)
    exact ⟨A_3_3, c_3_3, (tup2 (aggv (lc (slv rfl e9 rfl) (lc (congrArg (Value.int .i64) e10) (lc (congrArg (Value.bool) e11) rfl)))) (congrArg (Value.bool) e12)), ((hs9.pick [1] rfl (by decide)).cast (lc (own_eq (g := I) rfl e9 rfl e8) rfl))⟩

theorem isBegin {Axs : Option Addr} {cxs : Nat} (xs : List Int) {Abs : Option Addr} {cbs : Nat} (bs : List Int) (w : World) (hxs : Sl w [] 1 Axs xs.length cxs (xs.map I)) (hbs : Sl w [] 1 Abs bs.length cbs (bs.map I)) : Does Try.prog 37 [.slice Axs xs.length cxs, .slice Abs bs.length cbs] w (fun v w' => v = .bool (decide (bs.length ≤ xs.length ∧ xs.take bs.length = bs)) ∧ SH w w' [] []) := by
  refine fn_enter (N := 18) Try.func37 rfl (by kernel_rfl) rfl rfl rfl ?_
  have hs0 : SH w w [] [] := SH.refl w []
  have hxs_m : xs.length ≤ 9223372036854775807 := Nat.le_trans hxs.cap hxs.capMax
  have hbs_m : bs.length ≤ 9223372036854775807 := Nat.le_trans hbs.cap hbs.capMax
  refine sq ?_
  refine rg ?_
  refine q trivial rfl rfl (asg (v := .bool false) rfl) ?_
  refine nl ?_
  refine nN ?_
  refine sq ?_
  refine rg ?_
  refine q trivial rfl rfl (mv (v := .slice Axs xs.length cxs) rfl) ?_
  refine q trivial rfl rfl (lnA (n := xs.length) sl23 rfl) ?_
  refine q trivial rfl rfl (mv (v := .slice Abs bs.length cbs) rfl) ?_
  refine q trivial rfl rfl (lnA (n := bs.length) sl23 rfl) ?_
  refine q trivial rfl rfl (geq (k := .i64) (a := ((xs.length : Nat) : Int)) (b := ((bs.length : Nat) : Int)) rfl rfl) ?_
  refine q trivial rfl rfl (mv (v := .bool (decide (((bs.length : Nat) : Int) ≤ ((xs.length : Nat) : Int)))) rfl) ?_
  refine spd (p := ((bs.length : Nat) : Int) ≤ ((xs.length : Nat) : Int)) 10 rfl (fun h1 => ?_) (fun h1 => ?_)
  · refine q ⟨_, rfl, rfl⟩ rfl rfl (mv (v := .slice Axs xs.length cxs) rfl) ?_
    refine q ⟨_, rfl, rfl⟩ rfl rfl (mv (v := .slice Abs bs.length cbs) rfl) ?_
    refine q ⟨_, rfl, rfl⟩ rfl rfl (lnA (n := bs.length) sl23 rfl) ?_
    refine q ⟨_, rfl, rfl⟩ rfl rfl (cuhm_ (zs := xs) bs.length sl23 rfl rfl (by first | omega | (simp; omega)) hxs.cap) ?_
    refine q ⟨_, rfl, rfl⟩ rfl rfl (mv (v := .slice Abs bs.length cbs) rfl) ?_
    refine cl ⟨_, rfl, rfl⟩ rfl (sameBytes (Axs := Axs) (cxs := cxs) (xs := xs.take bs.length) (Abs := Abs) (cbs := cbs) (bs := bs) (w := _) (hxs := (Sl.cuthm (hxs.up0 hs0) (by first | omega | (simp; omega)))) (hbs := (hbs.up0 hs0))) ?_
    rintro _ w1 ⟨rfl, hs1'⟩
    have hs1 : SH w w1 [] [] := hs0.call0 hs1'
    clear hs1'
    refine q trivial rfl rfl (pt (v := .bool (decide ((xs.take bs.length) = bs))) rfl rfl) ?_
    refine q trivial rfl rfl (asg (v := .bool (decide ((xs.take bs.length) = bs))) rfl) ?_
    refine nl ?_
    refine nN ?_
    refine rt ?_
    refine fret (v := .bool (decide ((xs.take bs.length) = bs))) (.tmp .nil) rfl ?_
    have e1 : (decide ((xs.take bs.length) = bs)) = decide (bs.length ≤ xs.length ∧ xs.take bs.length = bs) := by simp [h1] <;> omega
    exact ⟨(congrArg (Value.bool) e1), hs1⟩
  · refine gk false rfl rfl rfl rfl rfl ?_
    refine gk false rfl rfl rfl rfl rfl ?_
    refine gk false rfl rfl rfl rfl rfl ?_
    refine gk false rfl rfl rfl rfl rfl ?_
    refine gk false rfl rfl rfl rfl rfl ?_
    refine gk false rfl rfl rfl rfl rfl ?_
    refine q trivial rfl rfl (pf (v := .bool false) rfl rfl) ?_
    refine q trivial rfl rfl (asg (v := .bool false) rfl) ?_
    refine nl ?_
    refine nN ?_
    refine rt ?_
    refine fret (v := .bool false) (.tmp .nil) rfl ?_
    have e2 : false = decide (bs.length ≤ xs.length ∧ xs.take bs.length = bs) := by simp [h1] <;> omega
    exact ⟨(congrArg (Value.bool) e2), hs0⟩

theorem eqPipe {Axs : Option Addr} {cxs : Nat} (xs : List Int) (n1 : Int) (e1 : Bool) {Ays : Option Addr} {cys : Nat} (ys : List Int) (n2 : Int) (e2 : Bool) (w : World) (hxs : Sl w [] 1 Axs xs.length cxs (xs.map I)) (hys : Sl w [] 1 Ays ys.length cys (ys.map I)) : Does Try.prog 21 [.agg #[.slice Axs xs.length cxs, .int .i64 n1, .bool e1], .agg #[.slice Ays ys.length cys, .int .i64 n2, .bool e2]] w (fun v w' => v = .bool (decide (xs = ys ∧ n1 = n2 ∧ e1 = e2)) ∧ SH w w' [] []) := by
  refine fn_enter (N := 21) Try.func21 rfl (by kernel_rfl) rfl rfl rfl ?_
  have hs0 : SH w w [] [] := SH.refl w []
  have hxs_m : xs.length ≤ 9223372036854775807 := Nat.le_trans hxs.cap hxs.capMax
  have hys_m : ys.length ≤ 9223372036854775807 := Nat.le_trans hys.cap hys.capMax
  refine sq ?_
  refine rg ?_
  refine bx (v := .agg #[.slice Axs xs.length cxs, .int .i64 n1, .bool e1]) (cs := [.slice Axs xs.length cxs, .int .i64 n1, .bool e1]) hs0 rfl rfl trivial rfl (fun b1 w1 (hs1 : SH w w1 [] [.blk b1 25 [.slice Axs xs.length cxs, .int .i64 n1, .bool e1]]) => ?_)
  refine bx (v := .agg #[.slice Ays ys.length cys, .int .i64 n2, .bool e2]) (cs := [.slice Ays ys.length cys, .int .i64 n2, .bool e2]) hs1 rfl rfl trivial rfl (fun b2 w2 (hs2 : SH w w2 [] [.blk b1 25 [.slice Axs xs.length cxs, .int .i64 n1, .bool e1], .blk b2 25 [.slice Ays ys.length cys, .int .i64 n2, .bool e2]]) => ?_)
  refine q trivial rfl rfl (asg (v := .bool false) rfl) ?_
  refine nl ?_
  refine nN ?_
  refine sq ?_
  refine sq ?_
  refine rg ?_
  refine q trivial rfl rfl (fa 0 fo25_0 rfl) ?_
  refine q trivial rfl rfl (ld (v := .slice Axs xs.length cxs) hs2 0 rfl rfl rfl one23) ?_
  refine q trivial rfl rfl (fa 0 fo25_0 rfl) ?_
  refine q trivial rfl rfl (ld (v := .slice Ays ys.length cys) hs2 1 rfl rfl rfl one23) ?_
  refine cl trivial rfl (eqIntS (Axs := Axs) (cxs := cxs) (xs := xs) (Abs := Ays) (cbs := cys) (bs := ys) (w := _) (hxs := (hxs.up0 hs2)) (hbs := (hys.up0 hs2))) ?_
  rintro _ w3 ⟨rfl, hs3'⟩
  have hs3 : SH w w3 [] [.blk b1 25 [.slice Axs xs.length cxs, .int .i64 n1, .bool e1], .blk b2 25 [.slice Ays ys.length cys, .int .i64 n2, .bool e2]] := hs2.call0 hs3'
  clear hs3'
  refine q trivial rfl rfl (nd (p := xs = ys) rfl) ?_
  refine nl ?_
  refine nN ?_
  refine cdd (p := ¬ (xs = ys)) rfl (fun h1 => ?_) (fun h1 => ?_)
  · refine sq ?_
    refine rg ?_
    refine q trivial rfl rfl (asg (v := .bool false) rfl) ?_
    refine nl ?_
    refine nN ?_
    refine rt (tR ?_)
    refine fret (v := .bool false) (.tmp .nil) rfl ?_
    have e1 : false = (decide (xs = ys ∧ n1 = n2 ∧ e1 = e2)) := by simp [h1] <;> simp_all
    exact ⟨(congrArg (Value.bool) e1), (hs3.pick [] rfl (by decide))⟩
  · refine sk ?_
    refine nN ?_
    refine sq ?_
    refine sq ?_
    refine rg ?_
    refine q trivial rfl rfl (fa 1 fo25_1 rfl) ?_
    refine q trivial rfl rfl (ld (v := .int .i64 n1) hs3 0 rfl rfl rfl one3) ?_
    refine q trivial rfl rfl (fa 1 fo25_1 rfl) ?_
    refine q trivial rfl rfl (ld (v := .int .i64 n2) hs3 1 rfl rfl rfl one3) ?_
    refine q trivial rfl rfl (nei (k := .i64) (a := n1) (b := n2) rfl rfl) ?_
    refine nl ?_
    refine nN ?_
    refine cdd (p := n1 ≠ n2) rfl (fun h2 => ?_) (fun h2 => ?_)
    · refine sq ?_
      refine rg ?_
      refine q trivial rfl rfl (asg (v := .bool false) rfl) ?_
      refine nl ?_
      refine nN ?_
      refine rt (tR ?_)
      refine fret (v := .bool false) (.tmp .nil) rfl ?_
      have e2 : false = (decide (xs = ys ∧ n1 = n2 ∧ e1 = e2)) := by simp [h1, h2] <;> simp_all
      exact ⟨(congrArg (Value.bool) e2), (hs3.pick [] rfl (by decide))⟩
    · refine sk ?_
      refine nN ?_
      refine sq ?_
      refine sq ?_
      refine rg ?_
      refine q trivial rfl rfl (fa 2 fo25_2 rfl) ?_
      refine q trivial rfl rfl (ld (v := .bool e1) hs3 0 rfl rfl rfl one4) ?_
      refine q trivial rfl rfl (fa 2 fo25_2 rfl) ?_
      refine q trivial rfl rfl (ld (v := .bool e2) hs3 1 rfl rfl rfl one4) ?_
      refine q trivial rfl rfl (neb (a := e1) (b := e2) tb4 rfl rfl) ?_
      refine nl ?_
      refine nN ?_
      refine cdd (p := e1 ≠ e2) rfl (fun h3 => ?_) (fun h3 => ?_)
      · refine sq ?_
        refine rg ?_
        refine q trivial rfl rfl (asg (v := .bool false) rfl) ?_
        refine nl ?_
        refine nN ?_
        refine rt (tR ?_)
        refine fret (v := .bool false) (.tmp .nil) rfl ?_
        have e3 : false = (decide (xs = ys ∧ n1 = n2 ∧ e1 = e2)) := by simp [h1, h2, h3] <;> simp_all
        exact ⟨(congrArg (Value.bool) e3), (hs3.pick [] rfl (by decide))⟩
      · refine sk ?_
        refine nN ?_
        refine sq ?_
        refine rg ?_
        refine q trivial rfl rfl (asg (v := .bool true) rfl) ?_
        refine nl ?_
        refine nN ?_
        refine rt ?_
        refine fret (v := .bool true) (.tmp .nil) rfl ?_
        have e4 : true = (decide (xs = ys ∧ n1 = n2 ∧ e1 = e2)) := by simp [h1, h2, h3] <;> simp_all
        exact ⟨(congrArg (Value.bool) e4), (hs3.pick [] rfl (by decide))⟩


end Go.Proofs.Ytgefaejgkcbkpaa
