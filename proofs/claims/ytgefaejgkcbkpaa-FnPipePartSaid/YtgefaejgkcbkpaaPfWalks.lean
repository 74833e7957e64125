/-
  Part of the proofs over this seat: what each function of the program computes, function by function (the text is written by a program of this hand-in's own).
  Conditions: each theorem states its own.
-/
import Derived.Test.YtgefaejgkcbkpaaProg
import Derived.KernelRfl
import Derived.Test.YtgefaejgkcbkpaaPfBase
namespace Go.Proofs.Ytgefaejgkcbkpaa
open Go.PF
set_option maxRecDepth 100000
set_option linter.unusedSimpArgs false
set_option linter.unusedVariables false
theorem ag25 : aggOk Try.prog 25 3 = true := by kernel_rfl
theorem fo25_0 : fieldOk Try.prog 25 0 0 = true := by kernel_rfl
theorem fo25_1 : fieldOk Try.prog 25 1 1 = true := by kernel_rfl
theorem fo60_0 : fieldOk Try.prog 60 0 0 = true := by kernel_rfl
theorem fo60_1 : fieldOk Try.prog 60 1 1 = true := by kernel_rfl
theorem mixed : Try.prog.follows .mixedOrders = true := by kernel_rfl
theorem one22 : oneOk Try.prog 22 = true := by kernel_rfl
theorem one23 : oneOk Try.prog 23 = true := by kernel_rfl
theorem one3 : oneOk Try.prog 3 = true := by kernel_rfl
theorem one5 : oneOk Try.prog 5 = true := by kernel_rfl
theorem sl22 : SlT Try.prog 22 5 1 1 (.int .u8 0) := SlT.mk' (by kernel_rfl) (by kernel_rfl)
theorem sl23 : SlT Try.prog 23 3 1 8 (.int .i64 0) := SlT.mk' (by kernel_rfl) (by kernel_rfl)
theorem tb4 : Try.prog.underlying 4 = some .bool := by kernel_rfl
theorem ti3 : Try.prog.underlying 3 = some (.int .i64) := by kernel_rfl
theorem ti5 : Try.prog.underlying 5 = some (.int .u8) := by kernel_rfl
theorem tz25 : (Try.prog.info? 25).bind (·.zero) = some (.agg #[.slice none 0 0, .int .i64 0, .bool false]) := by kernel_rfl
theorem sIn (x : Int) (lo : Int) (hi : Int) (w : World)  : Does Try.prog 45 [.int .i64 x, .int .i64 lo, .int .i64 hi] w (fun v w' => v = .bool (decide (lo ≤ x ∧ x ≤ hi)) ∧ SH w w' [] []) := by
  refine fn_enter (N := 15) Try.func45 rfl (by kernel_rfl) rfl rfl rfl ?_
  have hs0 : SH w w [] [] := SH.refl w []
  refine sq ?_
  refine rg ?_
  refine q trivial rfl rfl (asg (v := .bool false) rfl) ?_
  refine nl ?_
  refine nN ?_
  refine sq ?_
  refine rg ?_
  refine q trivial rfl rfl (mv (v := .int .i64 x) rfl) ?_
  refine q trivial rfl rfl (mv (v := .int .i64 lo) rfl) ?_
  refine q trivial rfl rfl (geq (k := .i64) (a := x) (b := lo) rfl rfl) ?_
  refine q trivial rfl rfl (mv (v := .bool (decide (lo ≤ x))) rfl) ?_
  refine spd (p := lo ≤ x) 10 rfl (fun h1 => ?_) (fun h1 => ?_)
  · refine q ⟨_, rfl, rfl⟩ rfl rfl (mv (v := .int .i64 x) rfl) ?_
    refine q ⟨_, rfl, rfl⟩ rfl rfl (mv (v := .int .i64 hi) rfl) ?_
    refine q ⟨_, rfl, rfl⟩ rfl rfl (leq (k := .i64) (a := x) (b := hi) rfl rfl) ?_
    refine q trivial rfl rfl (pt (v := .bool (decide (x ≤ hi))) rfl rfl) ?_
    refine q trivial rfl rfl (asg (v := .bool (decide (x ≤ hi))) rfl) ?_
    refine nl ?_
    refine nN ?_
    refine rt ?_
    refine fret (v := .bool (decide (x ≤ hi))) (.tmp .nil) rfl ?_
    have e1 : (decide (x ≤ hi)) = (decide (lo ≤ x ∧ x ≤ hi)) := by simp [*]
    exact ⟨(congrArg (Value.bool) e1), hs0⟩
  · refine gk false rfl rfl rfl rfl rfl ?_
    refine gk false rfl rfl rfl rfl rfl ?_
    refine gk false rfl rfl rfl rfl rfl ?_
    refine q trivial rfl rfl (pf (v := .bool false) rfl rfl) ?_
    refine q trivial rfl rfl (asg (v := .bool false) rfl) ?_
    refine nl ?_
    refine nN ?_
    refine rt ?_
    refine fret (v := .bool false) (.tmp .nil) rfl ?_
    have e2 : false = (decide (lo ≤ x ∧ x ≤ hi)) := by simp [*]
    exact ⟨(congrArg (Value.bool) e2), hs0⟩

theorem iWithin (x : Int) (lo : Int) (hi : Int) (w : World)  : Does Try.prog 43 [.int .i64 x, .int .i64 lo, .int .i64 hi] w (fun v w' => v = .bool (decide (lo ≤ x ∧ x ≤ hi)) ∧ SH w w' [] []) := by
  refine fn_enter (N := 15) Try.func43 rfl (by kernel_rfl) rfl rfl rfl ?_
  have hs0 : SH w w [] [] := SH.refl w []
  refine sq ?_
  refine rg ?_
  refine q trivial rfl rfl (asg (v := .bool false) rfl) ?_
  refine nl ?_
  refine nN ?_
  refine sq ?_
  refine rg ?_
  refine q trivial rfl rfl (mv (v := .int .i64 x) rfl) ?_
  refine q trivial rfl rfl (mv (v := .int .i64 lo) rfl) ?_
  refine q trivial rfl rfl (geq (k := .i64) (a := x) (b := lo) rfl rfl) ?_
  refine q trivial rfl rfl (mv (v := .bool (decide (lo ≤ x))) rfl) ?_
  refine spd (p := lo ≤ x) 10 rfl (fun h1 => ?_) (fun h1 => ?_)
  · refine q ⟨_, rfl, rfl⟩ rfl rfl (mv (v := .int .i64 x) rfl) ?_
    refine q ⟨_, rfl, rfl⟩ rfl rfl (mv (v := .int .i64 hi) rfl) ?_
    refine q ⟨_, rfl, rfl⟩ rfl rfl (leq (k := .i64) (a := x) (b := hi) rfl rfl) ?_
    refine q trivial rfl rfl (pt (v := .bool (decide (x ≤ hi))) rfl rfl) ?_
    refine q trivial rfl rfl (asg (v := .bool (decide (x ≤ hi))) rfl) ?_
    refine nl ?_
    refine nN ?_
    refine rt ?_
    refine fret (v := .bool (decide (x ≤ hi))) (.tmp .nil) rfl ?_
    have e1 : (decide (x ≤ hi)) = (decide (lo ≤ x ∧ x ≤ hi)) := by simp [*]
    exact ⟨(congrArg (Value.bool) e1), hs0⟩
  · refine gk false rfl rfl rfl rfl rfl ?_
    refine gk false rfl rfl rfl rfl rfl ?_
    refine gk false rfl rfl rfl rfl rfl ?_
    refine q trivial rfl rfl (pf (v := .bool false) rfl rfl) ?_
    refine q trivial rfl rfl (asg (v := .bool false) rfl) ?_
    refine nl ?_
    refine nN ?_
    refine rt ?_
    refine fret (v := .bool false) (.tmp .nil) rfl ?_
    have e2 : false = (decide (lo ≤ x ∧ x ≤ hi)) := by simp [*]
    exact ⟨(congrArg (Value.bool) e2), hs0⟩

theorem iBV1 (x : Int) (w : World)  : Does Try.prog 52 [.int .i64 x] w (fun v w' => v = .bool (decide (¬ (0 ≤ x ∧ x ≤ 255))) ∧ SH w w' [] []) := by
  refine fn_enter (N := 6) Try.func52 rfl (by kernel_rfl) rfl rfl rfl ?_
  have hs0 : SH w w [] [] := SH.refl w []
  refine sq ?_
  refine rg ?_
  refine q trivial rfl rfl (asg (v := .bool false) rfl) ?_
  refine nl ?_
  refine nN ?_
  refine sq ?_
  refine rg ?_
  refine q trivial rfl rfl (mv (v := .int .i64 x) rfl) ?_
  refine cl trivial rfl (iWithin (x := x) (lo := 0) (hi := 255) (w := _)) ?_
  rintro _ w1 ⟨rfl, hs1'⟩
  have hs1 : SH w w1 [] [] := hs0.call0 hs1'
  clear hs1'
  refine q trivial rfl rfl (nd (p := 0 ≤ x ∧ x ≤ 255) rfl) ?_
  refine q trivial rfl rfl (asg (v := .bool (decide (¬ (0 ≤ x ∧ x ≤ 255)))) rfl) ?_
  refine nl ?_
  refine nN ?_
  refine rt ?_
  refine fret (v := .bool (decide (¬ (0 ≤ x ∧ x ≤ 255)))) (.tmp .nil) rfl ?_
  exact ⟨rfl, hs1⟩

theorem sBytesValid {Azs : Option Addr} {czs : Nat} (zs : List Int) (w : World) (hzs : Sl w [] 1 Azs zs.length czs (zs.map I)) : Does Try.prog 44 [.slice Azs zs.length czs] w (fun v w' => v = .bool (isBytes zs) ∧ SH w w' [] []) := by
  refine fn_enter (N := 19) Try.func44 rfl (by kernel_rfl) rfl rfl rfl ?_
  have hs0 : SH w w [] [] := SH.refl w []
  have hzs_m : zs.length ≤ 9223372036854775807 := Nat.le_trans hzs.cap hzs.capMax
  refine sq ?_
  refine rg ?_
  refine q trivial rfl rfl (asg (v := .bool false) rfl) ?_
  refine nl ?_
  refine nN ?_
  refine sq ?_
  refine sq ?_
  refine rg ?_
  refine q trivial rfl rfl (asg (v := .int .i64 0) rfl) ?_
  refine nl ?_
  refine nN ?_
  refine bl ?_
  refine lp (σ := Nat) (fun (k : Nat) f w' => Has f [(0, .slice Azs zs.length czs), (3, .int .i64 ((k : Nat) : Int))] ∧ (k ≤ zs.length) ∧ (allB (zs.take k) = true) ∧ SH w w' [] []) (fun k => zs.length - k) 0 ⟨⟨rfl, rfl, trivial⟩, (by simp), (by simp [allB]), hs0⟩ ?_
  rintro k f w1 ⟨hf, hk, ha, hs1⟩
  obtain ⟨g1, rfl⟩ := has_upd hf
  clear hf
  refine sq ?_
  refine sq ?_
  refine rg ?_
  refine q trivial rfl rfl (mv (v := .int .i64 ((k : Nat) : Int)) rfl) ?_
  refine q trivial rfl rfl (mv (v := .slice Azs zs.length czs) rfl) ?_
  refine q trivial rfl rfl (lnA (n := zs.length) sl23 rfl) ?_
  refine q trivial rfl rfl (lss (k := .i64) (a := ((k : Nat) : Int)) (b := ((zs.length : Nat) : Int)) rfl rfl) ?_
  refine nl ?_
  refine nN ?_
  refine cdd (p := ((k : Nat) : Int) < ((zs.length : Nat) : Int)) rfl (fun h1 => ?_) (fun h1 => ?_)
  · refine sk ?_
    refine nN ?_
    refine sq ?_
    refine bl ?_
    refine sq ?_
    refine rg ?_
    refine q trivial rfl rfl (mv (v := .slice Azs zs.length czs) rfl) ?_
    refine q trivial rfl rfl (mv (v := .int .i64 ((k : Nat) : Int)) rfl) ?_
    refine ixw1 k sl23 rfl rfl hzs (by first | omega | (simp; omega)) (getm I 0 (by first | omega | (simp; omega))) trivial rfl (fun a1 ha1 => ?_)
    refine q trivial rfl rfl (lda (v := .int .i64 (zs.getD k 0)) hs1 ha1 (fun _ h => h) rfl rfl one3) ?_
    refine cl trivial rfl (sIn (x := zs.getD k 0) (lo := 0) (hi := 255) (w := _)) ?_
    rintro _ w2 ⟨rfl, hs2'⟩
    have hs2 : SH w w2 [] [] := hs1.call0 hs2'
    clear hs2'
    refine q trivial rfl rfl (nd (p := 0 ≤ (zs.getD k 0) ∧ (zs.getD k 0) ≤ 255) rfl) ?_
    refine nl ?_
    refine nN ?_
    refine cdd (p := ¬ (0 ≤ (zs.getD k 0) ∧ (zs.getD k 0) ≤ 255)) rfl (fun h2 => ?_) (fun h2 => ?_)
    · refine sq ?_
      refine rg ?_
      refine q trivial rfl rfl (asg (v := .bool false) rfl) ?_
      refine nl ?_
      refine nN ?_
      refine rt (bR (tR (tR (bR (tR ?_)))))
      refine fret (v := .bool false) (.tmp .nil) rfl ?_
      have e1 : false = isBytes zs := by exact bytes_no1 (k := k) (by omega) (by simpa using h2)
      exact ⟨(congrArg (Value.bool) e1), hs2⟩
    · refine sk ?_
      refine bN ?_
      refine nN ?_
      refine rg ?_
      refine q trivial rfl rfl (mv (v := .int .i64 ((k : Nat) : Int)) rfl) ?_
      refine q trivial rfl rfl (add (a := ((k : Nat) : Int)) (b := 1) rfl rfl (by exact ⟨by omega, by omega⟩)) ?_
      refine q trivial rfl rfl (asg (v := .int .i64 (((k : Nat) : Int) + 1)) rfl) ?_
      refine nl ?_
      refine nN ?_
      refine ⟨(k + 1), ⟨⟨rfl, rfl, trivial⟩, (by omega), (allB_step (by omega) ha (by simpa using h2)), hs2⟩, ?_⟩
      omega
  · refine ex (tE (tE (bE ?_)))
    refine nN ?_
    refine sq ?_
    refine rg ?_
    refine q trivial rfl rfl (mv (v := .slice Azs zs.length czs) rfl) ?_
    refine q trivial rfl rfl (lnA (n := zs.length) sl23 rfl) ?_
    refine q trivial rfl rfl (leq (k := .i64) (a := ((zs.length : Nat) : Int)) (b := 120) rfl rfl) ?_
    refine q trivial rfl rfl (asg (v := .bool (decide (((zs.length : Nat) : Int) ≤ 120))) rfl) ?_
    refine nl ?_
    refine nN ?_
    refine rt ?_
    refine fret (v := .bool (decide (((zs.length : Nat) : Int) ≤ 120))) (.tmp .nil) rfl ?_
    have e2 : (decide (((zs.length : Nat) : Int) ≤ 120)) = isBytes zs := by exact bytes_yes (k := k) (by omega) ha
    exact ⟨(congrArg (Value.bool) e2), hs1⟩

theorem slIndexFunc (p : Int → Bool) {Azs : Option Addr} {czs : Nat} (zs : List Int) (kf : FuncId) (w : World) (hzs : Sl w [] 1 Azs zs.length czs (zs.map I)) (hf : ∀ (x : Int) (w : World), Does Try.prog kf [.int .i64 x] w (fun v w' => v = .bool (p x) ∧ SH w w' [] [])) : Does Try.prog 54 [.slice Azs zs.length czs, .func (.func kf) #[] #[]] w (fun v w' => v = .int .i64 (idxF p zs) ∧ SH w w' [] []) := by
  refine fn_enter (N := 19) Try.func54 rfl (by kernel_rfl) rfl rfl rfl ?_
  have hs0 : SH w w [] [] := SH.refl w []
  have hzs_m : zs.length ≤ 9223372036854775807 := Nat.le_trans hzs.cap hzs.capMax
  refine sq ?_
  refine rg ?_
  refine q trivial rfl rfl (asg (v := .int .i64 0) rfl) ?_
  refine nl ?_
  refine nN ?_
  refine sq ?_
  refine sq ?_
  refine rg ?_
  refine q trivial rfl rfl (mv (v := .slice Azs zs.length czs) rfl) ?_
  refine q trivial rfl rfl (lnA (n := zs.length) sl23 rfl) ?_
  refine q trivial rfl rfl (mv (v := .int .i64 0) rfl) ?_
  refine nl ?_
  refine nN ?_
  refine bl ?_
  refine lp (σ := Nat) (fun (k : Nat) f w' => Has f [(0, .slice Azs zs.length czs), (1, .func (.func kf) #[] #[]), (7, .int .i64 ((zs.length : Nat) : Int)), (8, .int .i64 ((k : Nat) : Int))] ∧ (k ≤ zs.length) ∧ (∀ j, j < k → p (zs.getD j 0) = false) ∧ SH w w' [] []) (fun k => zs.length - k) 0 ⟨⟨rfl, rfl, rfl, rfl, trivial⟩, (by simp), (by intro j hj; omega), hs0⟩ ?_
  rintro k f w1 ⟨hf, hk, hn, hs1⟩
  obtain ⟨g1, rfl⟩ := has_upd hf
  clear hf
  refine sq ?_
  refine rg ?_
  refine q trivial rfl rfl (lss (k := .i64) (a := ((k : Nat) : Int)) (b := ((zs.length : Nat) : Int)) rfl rfl) ?_
  refine nl ?_
  refine nN ?_
  refine sq ?_
  refine cdd (p := ((k : Nat) : Int) < ((zs.length : Nat) : Int)) rfl (fun h1 => ?_) (fun h1 => ?_)
  · refine sk ?_
    refine nN ?_
    refine sq ?_
    refine bl ?_
    refine sq ?_
    refine rg ?_
    refine q trivial rfl rfl (mv (v := .int .i64 ((k : Nat) : Int)) rfl) ?_
    refine q trivial rfl rfl (asg (v := .int .i64 ((k : Nat) : Int)) rfl) ?_
    refine nl ?_
    refine nN ?_
    refine sq ?_
    refine rg ?_
    refine q trivial rfl rfl (mv (v := .func (.func kf) #[] #[]) rfl) ?_
    refine q trivial rfl rfl (mv (v := .slice Azs zs.length czs) rfl) ?_
    refine q trivial rfl rfl (mv (v := .int .i64 ((k : Nat) : Int)) rfl) ?_
    refine ixw1 k sl23 rfl rfl hzs (by first | omega | (simp; omega)) (getm I 0 (by first | omega | (simp; omega))) trivial rfl (fun a1 ha1 => ?_)
    refine q trivial rfl rfl (lda (v := .int .i64 (zs.getD k 0)) hs1 ha1 (fun _ h => h) rfl rfl one3) ?_
    refine clv (k := kf) trivial rfl rfl (hf (zs.getD k 0) _) ?_
    rintro _ w2 ⟨rfl, hs2'⟩
    have hs2 : SH w w2 [] [] := hs1.call0 hs2'
    clear hs2'
    refine nl ?_
    refine nN ?_
    refine cd (b := p (zs.getD k 0)) rfl (fun h2 => ?_) (fun h2 => ?_)
    · refine sq ?_
      refine rg ?_
      refine q trivial rfl rfl (mv (v := .int .i64 ((k : Nat) : Int)) rfl) ?_
      refine q trivial rfl rfl (asg (v := .int .i64 ((k : Nat) : Int)) rfl) ?_
      refine nl ?_
      refine nN ?_
      refine rt (bR (tR (tR (bR (tR ?_)))))
      refine fret (v := .int .i64 ((k : Nat) : Int)) (.tmp .nil) rfl ?_
      have e1 : ((k : Nat) : Int) = idxF p zs := by exact idxF_eq (by omega) hn h2
      exact ⟨(congrArg (Value.int .i64) e1), hs2⟩
    · refine sk ?_
      refine bN ?_
      refine nN ?_
      refine rg ?_
      refine q trivial rfl rfl (add (a := ((k : Nat) : Int)) (b := 1) rfl rfl (by exact ⟨by omega, by omega⟩)) ?_
      refine q trivial rfl rfl (mv (v := .int .i64 (((k : Nat) : Int) + 1)) rfl) ?_
      refine nl ?_
      refine nN ?_
      refine ⟨(k + 1), ⟨⟨rfl, rfl, rfl, rfl, trivial⟩, (by omega), (by intro j hj; rcases Nat.lt_succ_iff_lt_or_eq.1 hj with h | h; exact hn j h; subst h; exact h2), hs2⟩, ?_⟩
      omega
  · refine ex (tE (tE (bE ?_)))
    refine nN ?_
    refine sq ?_
    refine rg ?_
    refine q trivial rfl rfl (asg (v := .int .i64 (-1)) rfl) ?_
    refine nl ?_
    refine nN ?_
    refine rt ?_
    refine fret (v := .int .i64 (-1)) (.tmp .nil) rfl ?_
    have e2 : (-1) = idxF p zs := by exact idxF_none (fun j hj => hn j (by omega))
    exact ⟨(congrArg (Value.int .i64) e2), hs1⟩

theorem slContainsFunc (p : Int → Bool) {Azs : Option Addr} {czs : Nat} (zs : List Int) (kf : FuncId) (w : World) (hzs : Sl w [] 1 Azs zs.length czs (zs.map I)) (hf : ∀ (x : Int) (w : World), Does Try.prog kf [.int .i64 x] w (fun v w' => v = .bool (p x) ∧ SH w w' [] [])) : Does Try.prog 51 [.slice Azs zs.length czs, .func (.func kf) #[] #[]] w (fun v w' => v = .bool (zs.any p) ∧ SH w w' [] []) := by
  refine fn_enter (N := 9) Try.func51 rfl (by kernel_rfl) rfl rfl rfl ?_
  have hs0 : SH w w [] [] := SH.refl w []
  have hzs_m : zs.length ≤ 9223372036854775807 := Nat.le_trans hzs.cap hzs.capMax
  refine sq ?_
  refine rg ?_
  refine q trivial rfl rfl (asg (v := .bool false) rfl) ?_
  refine nl ?_
  refine nN ?_
  refine sq ?_
  refine rg ?_
  refine q trivial rfl rfl (mv (v := .slice Azs zs.length czs) rfl) ?_
  refine q trivial rfl rfl (mv (v := .func (.func kf) #[] #[]) rfl) ?_
  refine cl trivial rfl (slIndexFunc (p := p) (Azs := Azs) (czs := czs) (zs := zs) (kf := kf) (w := _) (hzs := (hzs.up0 hs0)) (hf := hf)) ?_
  rintro _ w1 ⟨rfl, hs1'⟩
  have hs1 : SH w w1 [] [] := hs0.call0 hs1'
  clear hs1'
  refine q trivial rfl rfl (geq (k := .i64) (a := idxF p zs) (b := 0) rfl rfl) ?_
  refine q trivial rfl rfl (asg (v := .bool (decide ((0 : Int) ≤ (idxF p zs)))) rfl) ?_
  refine nl ?_
  refine nN ?_
  refine rt ?_
  refine fret (v := .bool (decide ((0 : Int) ≤ (idxF p zs)))) (.tmp .nil) rfl ?_
  have e1 : (decide ((0 : Int) ≤ (idxF p zs))) = zs.any p := by exact idxF_any p zs
  exact ⟨(congrArg (Value.bool) e1), hs1⟩

theorem iBytesValid {Azs : Option Addr} {czs : Nat} (zs : List Int) (w : World) (hzs : Sl w [] 1 Azs zs.length czs (zs.map I)) : Does Try.prog 42 [.slice Azs zs.length czs] w (fun v w' => v = .bool (isBytes zs) ∧ SH w w' [] []) := by
  refine fn_enter (N := 11) Try.func42 rfl (by kernel_rfl) rfl rfl rfl ?_
  have hs0 : SH w w [] [] := SH.refl w []
  have hzs_m : zs.length ≤ 9223372036854775807 := Nat.le_trans hzs.cap hzs.capMax
  refine sq ?_
  refine rg ?_
  refine q trivial rfl rfl (asg (v := .bool false) rfl) ?_
  refine nl ?_
  refine nN ?_
  refine sq ?_
  refine rg ?_
  refine q trivial rfl rfl (mv (v := .slice Azs zs.length czs) rfl) ?_
  refine q trivial rfl rfl (lnA (n := zs.length) sl23 rfl) ?_
  refine q trivial rfl rfl (leq (k := .i64) (a := ((zs.length : Nat) : Int)) (b := 120) rfl rfl) ?_
  refine q trivial rfl rfl (mv (v := .bool (decide (((zs.length : Nat) : Int) ≤ 120))) rfl) ?_
  refine spd (p := ((zs.length : Nat) : Int) ≤ 120) 6 rfl (fun h1 => ?_) (fun h1 => ?_)
  · refine q ⟨_, rfl, rfl⟩ rfl rfl (mv (v := .slice Azs zs.length czs) rfl) ?_
    refine cl ⟨_, rfl, rfl⟩ rfl (slContainsFunc (p := (fun x => (decide (¬ (0 ≤ x ∧ x ≤ 255))))) (Azs := Azs) (czs := czs) (zs := zs) (kf := 52) (w := _) (hzs := (hzs.up0 hs0)) (hf := (fun x w => iBV1 x w))) ?_
    rintro _ w1 ⟨rfl, hs1'⟩
    have hs1 : SH w w1 [] [] := hs0.call0 hs1'
    clear hs1'
    refine q ⟨_, rfl, rfl⟩ rfl rfl (nt (b := zs.any (fun x => (decide (¬ (0 ≤ x ∧ x ≤ 255))))) rfl) ?_
    refine q trivial rfl rfl (pt (v := .bool (!(zs.any (fun x => (decide (¬ (0 ≤ x ∧ x ≤ 255))))))) rfl rfl) ?_
    refine q trivial rfl rfl (asg (v := .bool (!(zs.any (fun x => (decide (¬ (0 ≤ x ∧ x ≤ 255))))))) rfl) ?_
    refine nl ?_
    refine nN ?_
    refine rt ?_
    refine fret (v := .bool (!(zs.any (fun x => (decide (¬ (0 ≤ x ∧ x ≤ 255))))))) (.tmp .nil) rfl ?_
    have e1 : (!(zs.any (fun x => (decide (¬ (0 ≤ x ∧ x ≤ 255)))))) = isBytes zs := by rw [← isBytes_not]; simp [*]
    exact ⟨(congrArg (Value.bool) e1), hs1⟩
  · refine gk false rfl rfl rfl rfl rfl ?_
    refine gk false rfl rfl rfl rfl rfl ?_
    refine gk false rfl rfl rfl rfl rfl ?_
    refine q trivial rfl rfl (pf (v := .bool false) rfl rfl) ?_
    refine q trivial rfl rfl (asg (v := .bool false) rfl) ?_
    refine nl ?_
    refine nN ?_
    refine rt ?_
    refine fret (v := .bool false) (.tmp .nil) rfl ?_
    have e2 : false = isBytes zs := by rw [← isBytes_not]; simp [*]
    exact ⟨(congrArg (Value.bool) e2), hs0⟩

theorem pick {rb : Nat} {Ab : Option Addr} {cb : Nat} {bs : List UInt8} {p : Nat} (n : Int) (w : World) (hr : w.heap[rb]? = some (.cells [.slice Ab bs.length cb, .int .i64 ((p : Nat) : Int)].toArray 60 (0, 0))) (hb : Sl w [rb] 1 Ab bs.length cb (bs.map U)) (hbn : bs.length ≤ 2000) (hp : p ≤ 1099511627776) : Does Try.prog 47 [.pointer (some ⟨rb, 0, none⟩), .int .i64 n] w (fun v w' => ∃ r : Int, ∃ q : Nat, v = .int .i64 r ∧ (0 ≤ r ∧ (r < n ∨ r = 0)) ∧ (q ≤ p + 1) ∧ SH w w' [rb] [.blk rb 60 [.slice Ab bs.length cb, .int .i64 ((q : Nat) : Int)]]) := by
  refine fn_enter (N := 99) Try.func47 rfl (by kernel_rfl) rfl rfl rfl ?_
  have hs0 : SH w w [rb] [.blk rb 60 [.slice Ab bs.length cb, .int .i64 ((p : Nat) : Int)]] := SH.entry1 hr
  refine sq ?_
  refine rg ?_
  refine q trivial rfl rfl (asg (v := .int .i64 0) rfl) ?_
  refine nl ?_
  refine nN ?_
  refine sq ?_
  refine rg ?_
  refine q trivial rfl rfl (mv (v := .pointer (some ⟨rb, 0, none⟩)) rfl) ?_
  refine q trivial rfl rfl (mv (v := .pointer (some ⟨rb, 0, none⟩)) rfl) ?_
  refine q trivial rfl rfl (nc rfl) ?_
  refine q trivial rfl rfl (fa 1 fo60_1 rfl) ?_
  refine q trivial rfl rfl (ld (v := .int .i64 ((p : Nat) : Int)) hs0 0 rfl rfl rfl one3) ?_
  refine q trivial rfl rfl (add (a := ((p : Nat) : Int)) (b := 1) rfl rfl (by have h1_ := u8_bd (bs.getD ((p + 1 - 1) % bs.length) 0); have h2_ := u8_bd (bs.getD (((p + 1 - 1) * 7 + 3) % bs.length) 0); have h3_ := div_bd (p + 1 - 1) bs.length; exact ⟨by omega, by omega⟩)) ?_
  refine q trivial rfl rfl (nc rfl) ?_
  refine q trivial rfl rfl (fa 1 fo60_1 rfl) ?_
  refine st (v := .int .i64 (((p : Nat) : Int) + 1)) hs0 0 rfl rfl rfl rfl rfl one3 trivial (fun w1 (hs1 : SH w w1 [rb] [.blk rb 60 [.slice Ab bs.length cb, .int .i64 (((p : Nat) : Int) + 1)]]) => ?_)
  refine nl ?_
  refine nN ?_
  refine sq ?_
  refine sq ?_
  refine rg ?_
  refine q trivial rfl rfl (mv (v := .int .i64 n) rfl) ?_
  refine q trivial rfl rfl (lss (k := .i64) (a := n) (b := 1) rfl rfl) ?_
  refine q trivial rfl rfl (mv (v := .bool (decide (n < 1))) rfl) ?_
  refine spd (p := n < 1) 17 rfl (fun h1 => ?_) (fun h1 => ?_)
  · refine gk true rfl rfl rfl rfl rfl ?_
    refine gk true rfl rfl rfl rfl rfl ?_
    refine gk true rfl rfl rfl rfl rfl ?_
    refine gk true rfl rfl rfl rfl rfl ?_
    refine gk true rfl rfl rfl rfl rfl ?_
    refine gk true rfl rfl rfl rfl rfl ?_
    refine q trivial rfl rfl (pt (v := .bool true) rfl rfl) ?_
    refine nl ?_
    refine nN ?_
    refine cdt rfl ?_
    refine sq ?_
    refine rg ?_
    refine q trivial rfl rfl (asg (v := .int .i64 0) rfl) ?_
    refine nl ?_
    refine nN ?_
    refine rt (tR ?_)
    refine fret (v := .int .i64 0) (.tmp .nil) rfl ?_
    exact ⟨0, p + 1, rfl, (by simp), (by omega), hs1⟩
  · refine q ⟨_, rfl, rfl⟩ rfl rfl (mv (v := .pointer (some ⟨rb, 0, none⟩)) rfl) ?_
    refine q ⟨_, rfl, rfl⟩ rfl rfl (nc rfl) ?_
    refine q ⟨_, rfl, rfl⟩ rfl rfl (fa 0 fo60_0 rfl) ?_
    refine q ⟨_, rfl, rfl⟩ rfl rfl (ld (v := .slice Ab bs.length cb) hs1 0 rfl rfl rfl one22) ?_
    refine q ⟨_, rfl, rfl⟩ rfl rfl (lnA (n := bs.length) sl22 rfl) ?_
    refine q ⟨_, rfl, rfl⟩ rfl rfl (eqi (k := .i64) (a := ((bs.length : Nat) : Int)) (b := 0) rfl rfl) ?_
    refine q trivial rfl rfl (pf (v := .bool (decide (((bs.length : Nat) : Int) = 0))) rfl rfl) ?_
    refine nl ?_
    refine nN ?_
    refine cdd (p := ((bs.length : Nat) : Int) = 0) rfl (fun h2 => ?_) (fun h2 => ?_)
    · refine sq ?_
      refine rg ?_
      refine q trivial rfl rfl (asg (v := .int .i64 0) rfl) ?_
      refine nl ?_
      refine nN ?_
      refine rt (tR ?_)
      refine fret (v := .int .i64 0) (.tmp .nil) rfl ?_
      exact ⟨0, p + 1, rfl, (by simp), (by omega), hs1⟩
    · refine sk ?_
      refine nN ?_
      refine sq ?_
      refine rg ?_
      refine q trivial rfl rfl (mv (v := .pointer (some ⟨rb, 0, none⟩)) rfl) ?_
      refine q trivial rfl rfl (nc rfl) ?_
      refine q trivial rfl rfl (fa 1 fo60_1 rfl) ?_
      refine q trivial rfl rfl (ld (v := .int .i64 (((p : Nat) : Int) + 1)) hs1 0 rfl rfl rfl one3) ?_
      refine q trivial rfl rfl (subN (a := p + 1) (b := 1) rfl rfl (by omega) (by omega)) ?_
      refine q trivial rfl rfl (asg (v := .int .i64 (((p + 1) - 1 : Nat) : Int)) rfl) ?_
      refine nl ?_
      refine nN ?_
      refine sq ?_
      refine sq ?_
      refine rg ?_
      refine q trivial rfl rfl (mv (v := .int .i64 (((p + 1) - 1 : Nat) : Int)) rfl) ?_
      refine q trivial rfl rfl (mv (v := .pointer (some ⟨rb, 0, none⟩)) rfl) ?_
      refine q trivial rfl rfl (nc rfl) ?_
      refine q trivial rfl rfl (fa 0 fo60_0 rfl) ?_
      refine q trivial rfl rfl (ld (v := .slice Ab bs.length cb) hs1 0 rfl rfl rfl one22) ?_
      refine q trivial rfl rfl (lnA (n := bs.length) sl22 rfl) ?_
      refine q trivial rfl rfl (lss (k := .i64) (a := (((p + 1) - 1 : Nat) : Int)) (b := ((bs.length : Nat) : Int)) rfl rfl) ?_
      refine nl ?_
      refine nN ?_
      refine cdd (p := (((p + 1) - 1 : Nat) : Int) < ((bs.length : Nat) : Int)) rfl (fun h3 => ?_) (fun h3 => ?_)
      · refine sq ?_
        refine rg ?_
        refine q trivial rfl rfl (mv (v := .pointer (some ⟨rb, 0, none⟩)) rfl) ?_
        refine q trivial rfl rfl (nc rfl) ?_
        refine q trivial rfl rfl (fa 0 fo60_0 rfl) ?_
        refine q trivial rfl rfl (ld (v := .slice Ab bs.length cb) hs1 0 rfl rfl rfl one22) ?_
        refine q trivial rfl rfl (mv (v := .int .i64 (((p + 1) - 1 : Nat) : Int)) rfl) ?_
        refine ixw1 ((p + 1) - 1) sl22 rfl rfl hb (by first | omega | exact Nat.mod_lt _ (by omega)) (getm U 0 (by first | omega | exact Nat.mod_lt _ (by omega))) trivial rfl (fun a1 ha1 => ?_)
        refine q trivial rfl rfl (lda (v := .int .u8 (((bs.getD ((p + 1) - 1) 0).toNat : Nat) : Int)) hs1 ha1 (fun _ h => h) rfl rfl one5) ?_
        refine q trivial rfl rfl (cvI (a := (((bs.getD ((p + 1) - 1) 0).toNat : Nat) : Int)) (s := .u8) ti5 ti3 rfl (by have := u8_bd ((bs.getD ((p + 1) - 1) 0)); exact ⟨by omega, by omega⟩)) ?_
        refine q trivial rfl rfl (mv (v := .int .i64 n) rfl) ?_
        refine q trivial rfl rfl (rem (a := (((bs.getD ((p + 1) - 1) 0).toNat : Nat) : Int)) (b := n) rfl rfl (by have h1_ := u8_bd (bs.getD ((p + 1 - 1) % bs.length) 0); have h2_ := u8_bd (bs.getD (((p + 1 - 1) * 7 + 3) % bs.length) 0); have h3_ := div_bd (p + 1 - 1) bs.length; omega) (by omega)) ?_
        refine q trivial rfl rfl (asg (v := .int .i64 ((((bs.getD ((p + 1) - 1) 0).toNat : Nat) : Int) % n)) rfl) ?_
        refine nl ?_
        refine nN ?_
        refine rt (tR ?_)
        refine fret (v := .int .i64 ((((bs.getD ((p + 1) - 1) 0).toNat : Nat) : Int) % n)) (.tmp .nil) rfl ?_
        exact ⟨(((bs.getD ((p + 1) - 1) 0).toNat : Nat) : Int) % n, p + 1, rfl, (mod_pos (by omega)), (by omega), hs1⟩
      · refine sk ?_
        refine nN ?_
        refine sq ?_
        refine rq (fun w' => SH w w' [rb] [.blk rb 60 [.slice Ab bs.length cb, .int .i64 (((p : Nat) : Int) + 1)]]) mixed (by kernel_rfl) hs1.drew ?_
        refine qq trivial rfl rfl (fun wq hsq => mv (v := .pointer (some ⟨rb, 0, none⟩)) rfl) ?_
        refine qq trivial rfl rfl (fun wq hsq => nc rfl) ?_
        refine qq trivial rfl rfl (fun wq hsq => fa 0 fo60_0 rfl) ?_
        refine qq trivial rfl rfl (fun wq hsq => ld (v := .slice Ab bs.length cb) hsq 0 rfl rfl rfl one22) ?_
        refine qq trivial rfl rfl (fun wq hsq => mv (v := .int .i64 (((p + 1) - 1 : Nat) : Int)) rfl) ?_
        refine qq trivial rfl rfl (fun wq hsq => mv (v := .pointer (some ⟨rb, 0, none⟩)) rfl) ?_
        refine qq trivial rfl rfl (fun wq hsq => nc rfl) ?_
        refine qq trivial rfl rfl (fun wq hsq => fa 0 fo60_0 rfl) ?_
        refine qq trivial rfl rfl (fun wq hsq => ld (v := .slice Ab bs.length cb) hsq 0 rfl rfl rfl one22) ?_
        refine qq trivial rfl rfl (fun wq hsq => lnA (n := bs.length) sl22 rfl) ?_
        refine qq trivial rfl rfl (fun wq hsq => rem (a := (((p + 1) - 1 : Nat) : Int)) (b := ((bs.length : Nat) : Int)) rfl rfl (by have h1_ := u8_bd (bs.getD ((p + 1 - 1) % bs.length) 0); have h2_ := u8_bd (bs.getD (((p + 1 - 1) * 7 + 3) % bs.length) 0); have h3_ := div_bd (p + 1 - 1) bs.length; omega) (by omega)) ?_
        refine ixq1 (((p + 1) - 1) % bs.length) sl22 rfl rfl hb (by first | omega | exact Nat.mod_lt _ (by omega)) (getm U 0 (by first | omega | exact Nat.mod_lt _ (by omega))) trivial rfl (fun a2 ha2 => ?_)
        refine qq trivial rfl rfl (fun wq hsq => lda (v := .int .u8 (((bs.getD (((p + 1) - 1) % bs.length) 0).toNat : Nat) : Int)) hsq ha2 (fun _ h => h) rfl rfl one5) ?_
        refine qq trivial rfl rfl (fun wq hsq => cvI (a := (((bs.getD (((p + 1) - 1) % bs.length) 0).toNat : Nat) : Int)) (s := .u8) ti5 ti3 rfl (by have := u8_bd ((bs.getD (((p + 1) - 1) % bs.length) 0)); exact ⟨by omega, by omega⟩)) ?_
        refine qq trivial rfl rfl (fun wq hsq => mul (a := (((bs.getD (((p + 1) - 1) % bs.length) 0).toNat : Nat) : Int)) (b := 131) rfl rfl (by have h1_ := u8_bd (bs.getD ((p + 1 - 1) % bs.length) 0); have h2_ := u8_bd (bs.getD (((p + 1 - 1) * 7 + 3) % bs.length) 0); have h3_ := div_bd (p + 1 - 1) bs.length; exact ⟨by omega, by omega⟩)) ?_
        refine qq trivial rfl rfl (fun wq hsq => mv (v := .pointer (some ⟨rb, 0, none⟩)) rfl) ?_
        refine qq trivial rfl rfl (fun wq hsq => nc rfl) ?_
        refine qq trivial rfl rfl (fun wq hsq => fa 0 fo60_0 rfl) ?_
        refine qq trivial rfl rfl (fun wq hsq => ld (v := .slice Ab bs.length cb) hsq 0 rfl rfl rfl one22) ?_
        refine qq trivial rfl rfl (fun wq hsq => mv (v := .int .i64 (((p + 1) - 1 : Nat) : Int)) rfl) ?_
        refine qq trivial rfl rfl (fun wq hsq => mul (a := (((p + 1) - 1 : Nat) : Int)) (b := 7) rfl rfl (by have h1_ := u8_bd (bs.getD ((p + 1 - 1) % bs.length) 0); have h2_ := u8_bd (bs.getD (((p + 1 - 1) * 7 + 3) % bs.length) 0); have h3_ := div_bd (p + 1 - 1) bs.length; exact ⟨by omega, by omega⟩)) ?_
        refine qq trivial rfl rfl (fun wq hsq => add (a := (((p + 1) - 1 : Nat) : Int) * 7) (b := 3) rfl rfl (by have h1_ := u8_bd (bs.getD ((p + 1 - 1) % bs.length) 0); have h2_ := u8_bd (bs.getD (((p + 1 - 1) * 7 + 3) % bs.length) 0); have h3_ := div_bd (p + 1 - 1) bs.length; exact ⟨by omega, by omega⟩)) ?_
        refine qq trivial rfl rfl (fun wq hsq => mv (v := .pointer (some ⟨rb, 0, none⟩)) rfl) ?_
        refine qq trivial rfl rfl (fun wq hsq => nc rfl) ?_
        refine qq trivial rfl rfl (fun wq hsq => fa 0 fo60_0 rfl) ?_
        refine qq trivial rfl rfl (fun wq hsq => ld (v := .slice Ab bs.length cb) hsq 0 rfl rfl rfl one22) ?_
        refine qq trivial rfl rfl (fun wq hsq => lnA (n := bs.length) sl22 rfl) ?_
        refine qq trivial rfl rfl (fun wq hsq => rem (a := ((((p + 1) - 1 : Nat) : Int) * 7) + 3) (b := ((bs.length : Nat) : Int)) rfl rfl (by have h1_ := u8_bd (bs.getD ((p + 1 - 1) % bs.length) 0); have h2_ := u8_bd (bs.getD (((p + 1 - 1) * 7 + 3) % bs.length) 0); have h3_ := div_bd (p + 1 - 1) bs.length; omega) (by omega)) ?_
        refine ixq1 (((((p + 1) - 1) * 7) + 3) % bs.length) sl22 rfl rfl hb (by first | omega | exact Nat.mod_lt _ (by omega)) (getm U 0 (by first | omega | exact Nat.mod_lt _ (by omega))) trivial rfl (fun a3 ha3 => ?_)
        refine qq trivial rfl rfl (fun wq hsq => lda (v := .int .u8 (((bs.getD (((((p + 1) - 1) * 7) + 3) % bs.length) 0).toNat : Nat) : Int)) hsq ha3 (fun _ h => h) rfl rfl one5) ?_
        refine qq trivial rfl rfl (fun wq hsq => cvI (a := (((bs.getD (((((p + 1) - 1) * 7) + 3) % bs.length) 0).toNat : Nat) : Int)) (s := .u8) ti5 ti3 rfl (by have := u8_bd ((bs.getD (((((p + 1) - 1) * 7) + 3) % bs.length) 0)); exact ⟨by omega, by omega⟩)) ?_
        refine qq trivial rfl rfl (fun wq hsq => mul (a := (((bs.getD (((((p + 1) - 1) * 7) + 3) % bs.length) 0).toNat : Nat) : Int)) (b := 1117) rfl rfl (by have h1_ := u8_bd (bs.getD ((p + 1 - 1) % bs.length) 0); have h2_ := u8_bd (bs.getD (((p + 1 - 1) * 7 + 3) % bs.length) 0); have h3_ := div_bd (p + 1 - 1) bs.length; exact ⟨by omega, by omega⟩)) ?_
        refine qq trivial rfl rfl (fun wq hsq => add (a := (((bs.getD (((p + 1) - 1) % bs.length) 0).toNat : Nat) : Int) * 131) (b := (((bs.getD (((((p + 1) - 1) * 7) + 3) % bs.length) 0).toNat : Nat) : Int) * 1117) rfl rfl (by have h1_ := u8_bd (bs.getD ((p + 1 - 1) % bs.length) 0); have h2_ := u8_bd (bs.getD (((p + 1 - 1) * 7 + 3) % bs.length) 0); have h3_ := div_bd (p + 1 - 1) bs.length; exact ⟨by omega, by omega⟩)) ?_
        refine qq trivial rfl rfl (fun wq hsq => mv (v := .int .i64 (((p + 1) - 1 : Nat) : Int)) rfl) ?_
        refine qq trivial rfl rfl (fun wq hsq => mul (a := (((p + 1) - 1 : Nat) : Int)) (b := 29) rfl rfl (by have h1_ := u8_bd (bs.getD ((p + 1 - 1) % bs.length) 0); have h2_ := u8_bd (bs.getD (((p + 1 - 1) * 7 + 3) % bs.length) 0); have h3_ := div_bd (p + 1 - 1) bs.length; exact ⟨by omega, by omega⟩)) ?_
        refine qq trivial rfl rfl (fun wq hsq => add (a := ((((bs.getD (((p + 1) - 1) % bs.length) 0).toNat : Nat) : Int) * 131) + ((((bs.getD (((((p + 1) - 1) * 7) + 3) % bs.length) 0).toNat : Nat) : Int) * 1117)) (b := (((p + 1) - 1 : Nat) : Int) * 29) rfl rfl (by have h1_ := u8_bd (bs.getD ((p + 1 - 1) % bs.length) 0); have h2_ := u8_bd (bs.getD (((p + 1 - 1) * 7 + 3) % bs.length) 0); have h3_ := div_bd (p + 1 - 1) bs.length; exact ⟨by omega, by omega⟩)) ?_
        refine qq trivial rfl rfl (fun wq hsq => mv (v := .int .i64 (((p + 1) - 1 : Nat) : Int)) rfl) ?_
        refine qq trivial rfl rfl (fun wq hsq => mv (v := .pointer (some ⟨rb, 0, none⟩)) rfl) ?_
        refine qq trivial rfl rfl (fun wq hsq => nc rfl) ?_
        refine qq trivial rfl rfl (fun wq hsq => fa 0 fo60_0 rfl) ?_
        refine qq trivial rfl rfl (fun wq hsq => ld (v := .slice Ab bs.length cb) hsq 0 rfl rfl rfl one22) ?_
        refine qq trivial rfl rfl (fun wq hsq => lnA (n := bs.length) sl22 rfl) ?_
        refine qq trivial rfl rfl (fun wq hsq => quo (a := (((p + 1) - 1 : Nat) : Int)) (b := ((bs.length : Nat) : Int)) rfl rfl (by have h1_ := u8_bd (bs.getD ((p + 1 - 1) % bs.length) 0); have h2_ := u8_bd (bs.getD (((p + 1 - 1) * 7 + 3) % bs.length) 0); have h3_ := div_bd (p + 1 - 1) bs.length; omega) (by have h1_ := u8_bd (bs.getD ((p + 1 - 1) % bs.length) 0); have h2_ := u8_bd (bs.getD (((p + 1 - 1) * 7 + 3) % bs.length) 0); have h3_ := div_bd (p + 1 - 1) bs.length; omega) (by have h1_ := u8_bd (bs.getD ((p + 1 - 1) % bs.length) 0); have h2_ := u8_bd (bs.getD (((p + 1 - 1) * 7 + 3) % bs.length) 0); have h3_ := div_bd (p + 1 - 1) bs.length; omega)) ?_
        refine qq trivial rfl rfl (fun wq hsq => mul (a := (((p + 1) - 1 : Nat) : Int) / ((bs.length : Nat) : Int)) (b := 53) rfl rfl (by have h1_ := u8_bd (bs.getD ((p + 1 - 1) % bs.length) 0); have h2_ := u8_bd (bs.getD (((p + 1 - 1) * 7 + 3) % bs.length) 0); have h3_ := div_bd (p + 1 - 1) bs.length; exact ⟨by omega, by omega⟩)) ?_
        refine qq trivial rfl rfl (fun wq hsq => add (a := (((((bs.getD (((p + 1) - 1) % bs.length) 0).toNat : Nat) : Int) * 131) + ((((bs.getD (((((p + 1) - 1) * 7) + 3) % bs.length) 0).toNat : Nat) : Int) * 1117)) + ((((p + 1) - 1 : Nat) : Int) * 29)) (b := ((((p + 1) - 1 : Nat) : Int) / ((bs.length : Nat) : Int)) * 53) rfl rfl (by have h1_ := u8_bd (bs.getD ((p + 1 - 1) % bs.length) 0); have h2_ := u8_bd (bs.getD (((p + 1 - 1) * 7 + 3) % bs.length) 0); have h3_ := div_bd (p + 1 - 1) bs.length; exact ⟨by omega, by omega⟩)) ?_
        refine qq trivial rfl rfl (fun wq hsq => asg (v := .int .i64 (((((((bs.getD (((p + 1) - 1) % bs.length) 0).toNat : Nat) : Int) * 131) + ((((bs.getD (((((p + 1) - 1) * 7) + 3) % bs.length) 0).toNat : Nat) : Int) * 1117)) + ((((p + 1) - 1 : Nat) : Int) * 29)) + (((((p + 1) - 1 : Nat) : Int) / ((bs.length : Nat) : Int)) * 53))) rfl) ?_
        refine qn (fun w2 hs2 => ?_)
        refine nN ?_
        refine sq ?_
        refine rg ?_
        refine q trivial rfl rfl (mv (v := .int .i64 (((((((bs.getD (((p + 1) - 1) % bs.length) 0).toNat : Nat) : Int) * 131) + ((((bs.getD (((((p + 1) - 1) * 7) + 3) % bs.length) 0).toNat : Nat) : Int) * 1117)) + ((((p + 1) - 1 : Nat) : Int) * 29)) + (((((p + 1) - 1 : Nat) : Int) / ((bs.length : Nat) : Int)) * 53))) rfl) ?_
        refine q trivial rfl rfl (mv (v := .int .i64 (((((((bs.getD (((p + 1) - 1) % bs.length) 0).toNat : Nat) : Int) * 131) + ((((bs.getD (((((p + 1) - 1) * 7) + 3) % bs.length) 0).toNat : Nat) : Int) * 1117)) + ((((p + 1) - 1 : Nat) : Int) * 29)) + (((((p + 1) - 1 : Nat) : Int) / ((bs.length : Nat) : Int)) * 53))) rfl) ?_
        refine q trivial rfl rfl (quo (a := ((((((bs.getD (((p + 1) - 1) % bs.length) 0).toNat : Nat) : Int) * 131) + ((((bs.getD (((((p + 1) - 1) * 7) + 3) % bs.length) 0).toNat : Nat) : Int) * 1117)) + ((((p + 1) - 1 : Nat) : Int) * 29)) + (((((p + 1) - 1 : Nat) : Int) / ((bs.length : Nat) : Int)) * 53)) (b := 64) rfl rfl (by have h1_ := u8_bd (bs.getD ((p + 1 - 1) % bs.length) 0); have h2_ := u8_bd (bs.getD (((p + 1 - 1) * 7 + 3) % bs.length) 0); have h3_ := div_bd (p + 1 - 1) bs.length; omega) (by have h1_ := u8_bd (bs.getD ((p + 1 - 1) % bs.length) 0); have h2_ := u8_bd (bs.getD (((p + 1 - 1) * 7 + 3) % bs.length) 0); have h3_ := div_bd (p + 1 - 1) bs.length; omega) (by have h1_ := u8_bd (bs.getD ((p + 1 - 1) % bs.length) 0); have h2_ := u8_bd (bs.getD (((p + 1 - 1) * 7 + 3) % bs.length) 0); have h3_ := div_bd (p + 1 - 1) bs.length; omega)) ?_
        refine q trivial rfl rfl (xr (a := (((((bs.getD (((p + 1) - 1) % bs.length) 0).toNat) * 131) + (((bs.getD (((((p + 1) - 1) * 7) + 3) % bs.length) 0).toNat) * 1117)) + (((p + 1) - 1) * 29)) + ((((p + 1) - 1) / bs.length) * 53)) (b := ((((((bs.getD (((p + 1) - 1) % bs.length) 0).toNat) * 131) + (((bs.getD (((((p + 1) - 1) * 7) + 3) % bs.length) 0).toNat) * 1117)) + (((p + 1) - 1) * 29)) + ((((p + 1) - 1) / bs.length) * 53)) / 64) rfl rfl (by have h1_ := u8_bd (bs.getD ((p + 1 - 1) % bs.length) 0); have h2_ := u8_bd (bs.getD (((p + 1 - 1) * 7 + 3) % bs.length) 0); have h3_ := div_bd (p + 1 - 1) bs.length; omega) (by have h1_ := u8_bd (bs.getD ((p + 1 - 1) % bs.length) 0); have h2_ := u8_bd (bs.getD (((p + 1 - 1) * 7 + 3) % bs.length) 0); have h3_ := div_bd (p + 1 - 1) bs.length; omega)) ?_
        refine q trivial rfl rfl (asg (v := .int .i64 ((((((((bs.getD (((p + 1) - 1) % bs.length) 0).toNat) * 131) + (((bs.getD (((((p + 1) - 1) * 7) + 3) % bs.length) 0).toNat) * 1117)) + (((p + 1) - 1) * 29)) + ((((p + 1) - 1) / bs.length) * 53)) ^^^ (((((((bs.getD (((p + 1) - 1) % bs.length) 0).toNat) * 131) + (((bs.getD (((((p + 1) - 1) * 7) + 3) % bs.length) 0).toNat) * 1117)) + (((p + 1) - 1) * 29)) + ((((p + 1) - 1) / bs.length) * 53)) / 64) : Nat) : Int)) rfl) ?_
        refine nl ?_
        refine nN ?_
        refine sq ?_
        refine rg ?_
        refine q trivial rfl rfl (mv (v := .int .i64 ((((((((bs.getD (((p + 1) - 1) % bs.length) 0).toNat) * 131) + (((bs.getD (((((p + 1) - 1) * 7) + 3) % bs.length) 0).toNat) * 1117)) + (((p + 1) - 1) * 29)) + ((((p + 1) - 1) / bs.length) * 53)) ^^^ (((((((bs.getD (((p + 1) - 1) % bs.length) 0).toNat) * 131) + (((bs.getD (((((p + 1) - 1) * 7) + 3) % bs.length) 0).toNat) * 1117)) + (((p + 1) - 1) * 29)) + ((((p + 1) - 1) / bs.length) * 53)) / 64) : Nat) : Int)) rfl) ?_
        refine q trivial rfl rfl (mv (v := .int .i64 n) rfl) ?_
        refine q trivial rfl rfl (rem (a := ((((((((bs.getD (((p + 1) - 1) % bs.length) 0).toNat) * 131) + (((bs.getD (((((p + 1) - 1) * 7) + 3) % bs.length) 0).toNat) * 1117)) + (((p + 1) - 1) * 29)) + ((((p + 1) - 1) / bs.length) * 53)) ^^^ (((((((bs.getD (((p + 1) - 1) % bs.length) 0).toNat) * 131) + (((bs.getD (((((p + 1) - 1) * 7) + 3) % bs.length) 0).toNat) * 1117)) + (((p + 1) - 1) * 29)) + ((((p + 1) - 1) / bs.length) * 53)) / 64) : Nat) : Int)) (b := n) rfl rfl (by have h1_ := u8_bd (bs.getD ((p + 1 - 1) % bs.length) 0); have h2_ := u8_bd (bs.getD (((p + 1 - 1) * 7 + 3) % bs.length) 0); have h3_ := div_bd (p + 1 - 1) bs.length; omega) (by omega)) ?_
        refine q trivial rfl rfl (asg (v := .int .i64 (((((((((bs.getD (((p + 1) - 1) % bs.length) 0).toNat) * 131) + (((bs.getD (((((p + 1) - 1) * 7) + 3) % bs.length) 0).toNat) * 1117)) + (((p + 1) - 1) * 29)) + ((((p + 1) - 1) / bs.length) * 53)) ^^^ (((((((bs.getD (((p + 1) - 1) % bs.length) 0).toNat) * 131) + (((bs.getD (((((p + 1) - 1) * 7) + 3) % bs.length) 0).toNat) * 1117)) + (((p + 1) - 1) * 29)) + ((((p + 1) - 1) / bs.length) * 53)) / 64) : Nat) : Int) % n)) rfl) ?_
        refine nl ?_
        refine nN ?_
        refine rt ?_
        refine fret (v := .int .i64 (((((((((bs.getD (((p + 1) - 1) % bs.length) 0).toNat) * 131) + (((bs.getD (((((p + 1) - 1) * 7) + 3) % bs.length) 0).toNat) * 1117)) + (((p + 1) - 1) * 29)) + ((((p + 1) - 1) / bs.length) * 53)) ^^^ (((((((bs.getD (((p + 1) - 1) % bs.length) 0).toNat) * 131) + (((bs.getD (((((p + 1) - 1) * 7) + 3) % bs.length) 0).toNat) * 1117)) + (((p + 1) - 1) * 29)) + ((((p + 1) - 1) / bs.length) * 53)) / 64) : Nat) : Int) % n)) (.tmp .nil) rfl ?_
        exact ⟨((((((((bs.getD (((p + 1) - 1) % bs.length) 0).toNat) * 131) + (((bs.getD (((((p + 1) - 1) * 7) + 3) % bs.length) 0).toNat) * 1117)) + (((p + 1) - 1) * 29)) + ((((p + 1) - 1) / bs.length) * 53)) ^^^ (((((((bs.getD (((p + 1) - 1) % bs.length) 0).toNat) * 131) + (((bs.getD (((((p + 1) - 1) * 7) + 3) % bs.length) 0).toNat) * 1117)) + (((p + 1) - 1) * 29)) + ((((p + 1) - 1) / bs.length) * 53)) / 64) : Nat) : Int) % n, p + 1, rfl, (mod_pos (by omega)), (by omega), hs2⟩

theorem l6Open {Acs : Option Addr} {ccs : Nat} (cs : List UInt8) (w : World) (hcs : Sl w [] 1 Acs cs.length ccs (cs.map U)) : Does Try.prog 41 [.slice Acs cs.length ccs] w (fun v w' => ∃ gr : Nat, v = .pointer (some ⟨gr, 0, none⟩) ∧ SH w w' [] [.blk gr 60 [.slice Acs ((cs.take 2000).length) ccs, .int .i64 0]]) := by
  refine fn_enter (N := 11) Try.func41 rfl (by kernel_rfl) rfl rfl rfl ?_
  have hs0 : SH w w [] [] := SH.refl w []
  have hcs_m : cs.length ≤ 9223372036854775807 := Nat.le_trans hcs.cap hcs.capMax
  refine sq ?_
  refine rg ?_
  refine q trivial rfl rfl (asg (v := .pointer none) rfl) ?_
  refine nl ?_
  refine nN ?_
  refine sq ?_
  refine sq ?_
  refine rg ?_
  refine q trivial rfl rfl (mv (v := .slice Acs cs.length ccs) rfl) ?_
  refine q trivial rfl rfl (lnA (n := cs.length) sl22 rfl) ?_
  refine q trivial rfl rfl (gtr (k := .i64) (a := ((cs.length : Nat) : Int)) (b := 2000) rfl rfl) ?_
  refine nl ?_
  refine nN ?_
  refine cdd (p := (2000 : Int) < ((cs.length : Nat) : Int)) rfl (fun h1 => ?_) (fun h1 => ?_)
  · refine rg ?_
    refine q trivial rfl rfl (mv (v := .slice Acs cs.length ccs) rfl) ?_
    refine q trivial rfl rfl (cuhm_ (zs := cs) 2000 sl22 rfl rfl (by first | omega | (simp; omega)) hcs.cap) ?_
    refine q trivial rfl rfl (asg (v := .slice Acs ((cs.take 2000).length) ccs) rfl) ?_
    refine nl ?_
    refine nN ?_
    refine sq ?_
    refine rg ?_
    refine q trivial rfl rfl (mv (v := .slice Acs ((cs.take 2000).length) ccs) rfl) ?_
    refine q trivial rfl rfl (bdv (v := .agg #[.slice Acs ((cs.take 2000).length) ccs, .int .i64 0]) [(0, .slice Acs ((cs.take 2000).length) ccs)] rfl (fun _ => by kernel_rfl)) ?_
    refine bx (v := .agg #[.slice Acs ((cs.take 2000).length) ccs, .int .i64 0]) (cs := [.slice Acs ((cs.take 2000).length) ccs, .int .i64 0]) hs0 rfl rfl trivial rfl (fun b1 w1 (hs1 : SH w w1 [] [.blk b1 60 [.slice Acs ((cs.take 2000).length) ccs, .int .i64 0]]) => ?_)
    refine q trivial rfl rfl (asg (v := .pointer (some ⟨b1, 0, none⟩)) rfl) ?_
    refine nl ?_
    refine nN ?_
    refine rt ?_
    refine fret (v := .pointer (some ⟨b1, 0, none⟩)) (.tmp .nil) rfl ?_
    exact ⟨b1, rfl, hs1⟩
  · refine sk ?_
    refine nN ?_
    refine sq ?_
    refine rg ?_
    refine q trivial rfl rfl (mv (v := .slice Acs cs.length ccs) rfl) ?_
    refine q trivial rfl rfl (bdv (v := .agg #[.slice Acs cs.length ccs, .int .i64 0]) [(0, .slice Acs cs.length ccs)] rfl (fun _ => by kernel_rfl)) ?_
    refine bx (v := .agg #[.slice Acs cs.length ccs, .int .i64 0]) (cs := [.slice Acs cs.length ccs, .int .i64 0]) hs0 rfl rfl trivial rfl (fun b2 w2 (hs2 : SH w w2 [] [.blk b2 60 [.slice Acs cs.length ccs, .int .i64 0]]) => ?_)
    refine q trivial rfl rfl (asg (v := .pointer (some ⟨b2, 0, none⟩)) rfl) ?_
    refine nl ?_
    refine nN ?_
    refine rt ?_
    refine fret (v := .pointer (some ⟨b2, 0, none⟩)) (.tmp .nil) rfl ?_
    have e1 : cs.length = (cs.take 2000).length := by rw [List.take_of_length_le (by omega)]
    exact ⟨b2, rfl, (hs2.cast (lc (congrArg (It.blk b2 60) (lc (slv rfl e1 rfl) (lc rfl rfl))) rfl))⟩

theorem l91Bytes {rb : Nat} {Ab : Option Addr} {cb : Nat} {bs : List UInt8} {p : Nat} (n : Int) (w : World) (hr : w.heap[rb]? = some (.cells [.slice Ab bs.length cb, .int .i64 ((p : Nat) : Int)].toArray 60 (0, 0))) (hb : Sl w [rb] 1 Ab bs.length cb (bs.map U)) (hbn : bs.length ≤ 2000) (hp : p ≤ 549755813888) (hn : 0 ≤ n ∧ n ≤ 100000) : Does Try.prog 49 [.pointer (some ⟨rb, 0, none⟩), .int .i64 n] w (fun v w' => ∃ Ar : Option Addr, ∃ cr : Nat, ∃ r : List Int, ∃ q : Nat, v = .slice Ar r.length cr ∧ (((r.length : Nat) : Int) ≤ n) ∧ (q ≤ p + 5 + 4 * n.toNat) ∧ SH w w' [rb] [.blk rb 60 [.slice Ab bs.length cb, .int .i64 ((q : Nat) : Int)], .own Ar r.length cr 3 1 (r.map I)]) := by
  refine fn_enter (N := 48) Try.func49 rfl (by kernel_rfl) rfl rfl rfl ?_
  have hs0 : SH w w [rb] [.blk rb 60 [.slice Ab bs.length cb, .int .i64 ((p : Nat) : Int)]] := SH.entry1 hr
  refine sq ?_
  refine rg ?_
  refine q trivial rfl rfl (asg (v := .slice none 0 0) rfl) ?_
  refine nl ?_
  refine nN ?_
  refine sq ?_
  refine rg ?_
  refine Go.PF.bs hs0 sl23 [] rfl (cs := []) (by kernel_rfl) rfl (by decide) (by decide) trivial rfl (fun b1 w1 (hs1 : SH w w1 [rb] [.blk rb 60 [.slice Ab bs.length cb, .int .i64 ((p : Nat) : Int)], .own (some ⟨b1, 0, none⟩) (([] : List Int).length) 0 3 1 (([] : List Int).map I)]) => ?_)
  refine q trivial rfl rfl (asg (v := .slice (some ⟨b1, 0, none⟩) (([] : List Int).length) 0) rfl) ?_
  refine nl ?_
  refine nN ?_
  refine sq ?_
  refine rg ?_
  refine q trivial rfl rfl (mv (v := .pointer (some ⟨rb, 0, none⟩)) rfl) ?_
  refine q trivial rfl rfl (mv (v := .int .i64 n) rfl) ?_
  refine q trivial rfl rfl (add (a := n) (b := 1) rfl rfl (by exact ⟨by omega, by omega⟩)) ?_
  refine cl trivial rfl (pick (rb := rb) (Ab := Ab) (cb := cb) (bs := bs) (p := p) (n := n + 1) (w := _) (hr := (blk_heap hs1 0 rfl)) (hb := (hb.up hs1 (fun _ h => h) (fun _ h => .inl h))) (hbn := (by first | assumption | (simp; omega))) (hp := (by omega))) ?_
  rintro _ w2 ⟨r1, q1, rfl, p1, p2, hs2'⟩
  have hs2 : SH w w2 [rb] [.own (some ⟨b1, 0, none⟩) (([] : List Int).length) 0 3 1 (([] : List Int).map I), .blk rb 60 [.slice Ab bs.length cb, .int .i64 ((q1 : Nat) : Int)]] := hs1.callM 0 rfl hs2' (by intro k hk; simp at hk; exact hk.symm)
  clear hs2'
  refine q trivial rfl rfl (asg (v := .int .i64 r1) rfl) ?_
  refine nl ?_
  refine nN ?_
  refine sq ?_
  refine sq ?_
  refine rg ?_
  refine q trivial rfl rfl (asg (v := .int .i64 0) rfl) ?_
  refine nl ?_
  refine nN ?_
  refine bl ?_
  refine lp (σ := (Option Addr) × Nat × Nat × Nat × (List Int)) (fun ⟨Ag5, cg5, q0, k, zs⟩ f w' => Has f [(0, .pointer (some ⟨rb, 0, none⟩)), (5, .slice Ag5 zs.length cg5), (6, .int .i64 r1), (7, .int .i64 ((k : Nat) : Int))] ∧ (((k : Nat) : Int) ≤ r1) ∧ (zs.length = k) ∧ (q0 ≤ p + 1 + 3 * k) ∧ SH w w' [rb] [.own Ag5 zs.length cg5 3 1 (zs.map I), .blk rb 60 [.slice Ab bs.length cb, .int .i64 ((q0 : Nat) : Int)]]) (fun ⟨Ag5, cg5, q0, k, zs⟩ => (r1 - k).toNat) ((some ⟨b1, 0, none⟩), 0, q1, 0, ([] : List Int)) ⟨⟨rfl, rfl, rfl, rfl, trivial⟩, (by omega), (rfl), (by omega), hs2⟩ ?_
  rintro ⟨Ag5, cg5, q0, k, zs⟩ f w3 ⟨hf, hk, hz, hq, hs3⟩
  obtain ⟨g1, rfl⟩ := has_upd hf
  clear hf
  refine sq ?_
  refine sq ?_
  refine rg ?_
  refine q trivial rfl rfl (mv (v := .int .i64 ((k : Nat) : Int)) rfl) ?_
  refine q trivial rfl rfl (mv (v := .int .i64 r1) rfl) ?_
  refine q trivial rfl rfl (lss (k := .i64) (a := ((k : Nat) : Int)) (b := r1) rfl rfl) ?_
  refine nl ?_
  refine nN ?_
  refine cdd (p := ((k : Nat) : Int) < r1) rfl (fun h1 => ?_) (fun h1 => ?_)
  · refine sk ?_
    refine nN ?_
    refine sq ?_
    refine bl ?_
    refine rg ?_
    refine q trivial rfl rfl (mv (v := .slice Ag5 zs.length cg5) rfl) ?_
    refine q trivial rfl rfl (mv (v := .pointer (some ⟨rb, 0, none⟩)) rfl) ?_
    refine cl trivial rfl (pick (rb := rb) (Ab := Ab) (cb := cb) (bs := bs) (p := q0) (n := 6) (w := _) (hr := (blk_heap hs3 1 rfl)) (hb := (hb.up hs3 (fun _ h => h) (fun _ h => .inl h))) (hbn := (by first | assumption | (simp; omega))) (hp := (by omega))) ?_
    rintro _ w4 ⟨r2, q2, rfl, p3, p4, hs4'⟩
    have hs4 : SH w w4 [rb] [.own Ag5 zs.length cg5 3 1 (zs.map I), .blk rb 60 [.slice Ab bs.length cb, .int .i64 ((q2 : Nat) : Int)]] := hs3.callM 1 rfl hs4' (by intro k hk; simp at hk; exact hk.symm)
    clear hs4'
    refine q trivial rfl rfl (mv (v := .pointer (some ⟨rb, 0, none⟩)) rfl) ?_
    refine cl trivial rfl (pick (rb := rb) (Ab := Ab) (cb := cb) (bs := bs) (p := q2) (n := 256) (w := _) (hr := (blk_heap hs4 1 rfl)) (hb := (hb.up hs4 (fun _ h => h) (fun _ h => .inl h))) (hbn := (by first | assumption | (simp; omega))) (hp := (by omega))) ?_
    rintro _ w5 ⟨r3, q3, rfl, p5, p6, hs5'⟩
    have hs5 : SH w w5 [rb] [.own Ag5 zs.length cg5 3 1 (zs.map I), .blk rb 60 [.slice Ab bs.length cb, .int .i64 ((q3 : Nat) : Int)]] := hs4.callM 1 rfl hs5' (by intro k hk; simp at hk; exact hk.symm)
    clear hs5'
    refine Go.PF.bs hs5 sl23 [(0, .int .i64 r2), (1, .int .i64 r3)] rfl (cs := [.int .i64 r2, .int .i64 r3]) (by kernel_rfl) rfl (by decide) (by decide) trivial rfl (fun b2 w6 (hs6 : SH w w6 [rb] [.own Ag5 zs.length cg5 3 1 (zs.map I), .blk rb 60 [.slice Ab bs.length cb, .int .i64 ((q3 : Nat) : Int)], .own (some ⟨b2, 0, none⟩) (([r2, r3] : List Int).length) 2 3 1 (([r2, r3] : List Int).map I)]) => ?_)
    refine q trivial rfl rfl (mv (v := .pointer (some ⟨rb, 0, none⟩)) rfl) ?_
    refine cl trivial rfl (pick (rb := rb) (Ab := Ab) (cb := cb) (bs := bs) (p := q3) (n := 2) (w := _) (hr := (blk_heap hs6 1 rfl)) (hb := (hb.up hs6 (fun _ h => h) (fun _ h => .inl h))) (hbn := (by first | assumption | (simp; omega))) (hp := (by omega))) ?_
    rintro _ w7 ⟨r4, q4, rfl, p7, p8, hs7'⟩
    have hs7 : SH w w7 [rb] [.own Ag5 zs.length cg5 3 1 (zs.map I), .own (some ⟨b2, 0, none⟩) (([r2, r3] : List Int).length) 2 3 1 (([r2, r3] : List Int).map I), .blk rb 60 [.slice Ab bs.length cb, .int .i64 ((q4 : Nat) : Int)]] := hs6.callM 1 rfl hs7' (by intro k hk; simp at hk; exact hk.symm)
    clear hs7'
    refine q trivial rfl rfl (ixo r4.toNat sl23 rfl (ieq (x := r4) (by omega)) (by first | omega | (simp; omega))) ?_
    refine q trivial rfl rfl (ldo1n (g := I) (ys := ([r2, r3] : List Int)) (o := r4.toNat) 0 hs7 1 rfl rfl (by first | omega | (simp; omega)) one3) ?_
    refine Go.PF.bs hs7 sl23 [(0, .int .i64 (([r2, r3] : List Int).getD r4.toNat 0))] rfl (cs := [.int .i64 (([r2, r3] : List Int).getD r4.toNat 0)]) (by kernel_rfl) rfl (by decide) (by decide) trivial rfl (fun b3 w8 (hs8 : SH w w8 [rb] [.own Ag5 zs.length cg5 3 1 (zs.map I), .own (some ⟨b2, 0, none⟩) (([r2, r3] : List Int).length) 2 3 1 (([r2, r3] : List Int).map I), .blk rb 60 [.slice Ab bs.length cb, .int .i64 ((q4 : Nat) : Int)], .own (some ⟨b3, 0, none⟩) (([([r2, r3] : List Int).getD r4.toNat 0] : List Int).length) 1 3 1 (([([r2, r3] : List Int).getD r4.toNat 0] : List Int).map I)]) => ?_)
    refine apm (g := I) (ys := zs) (zs := ([([r2, r3] : List Int).getD r4.toNat 0] : List Int)) hs8 0 rfl sl23 rfl rfl rfl (hs8.sl0 3 rfl) (fun _ => rfl) (by unfold maxLen; first | omega | (simp; omega)) (by first | omega | (simp; omega)) trivial rfl (fun A1 c1 w9 (hs9 : SH w w9 [rb] [.own (some ⟨b2, 0, none⟩) (([r2, r3] : List Int).length) 2 3 1 (([r2, r3] : List Int).map I), .blk rb 60 [.slice Ab bs.length cb, .int .i64 ((q4 : Nat) : Int)], .own (some ⟨b3, 0, none⟩) (([([r2, r3] : List Int).getD r4.toNat 0] : List Int).length) 1 3 1 (([([r2, r3] : List Int).getD r4.toNat 0] : List Int).map I), .own A1 ((zs ++ ([([r2, r3] : List Int).getD r4.toNat 0] : List Int)).length) c1 3 1 ((zs ++ ([([r2, r3] : List Int).getD r4.toNat 0] : List Int)).map I)]) => ?_)
    refine q trivial rfl rfl (asg (v := .slice A1 ((zs ++ ([([r2, r3] : List Int).getD r4.toNat 0] : List Int)).length) c1) rfl) ?_
    refine nl ?_
    refine bN ?_
    refine nN ?_
    have hs10 : SH w w9 [rb] [.blk rb 60 [.slice Ab bs.length cb, .int .i64 ((q4 : Nat) : Int)], .own A1 ((zs ++ ([([r2, r3] : List Int).getD r4.toNat 0] : List Int)).length) c1 3 1 ((zs ++ ([([r2, r3] : List Int).getD r4.toNat 0] : List Int)).map I)] := hs9.pick [1, 3] rfl (by decide)
    refine rg ?_
    refine q trivial rfl rfl (mv (v := .int .i64 ((k : Nat) : Int)) rfl) ?_
    refine q trivial rfl rfl (add (a := ((k : Nat) : Int)) (b := 1) rfl rfl (by exact ⟨by omega, by omega⟩)) ?_
    refine q trivial rfl rfl (asg (v := .int .i64 (((k : Nat) : Int) + 1)) rfl) ?_
    refine nl ?_
    refine nN ?_
    refine ⟨(A1, c1, q4, k + 1, (zs ++ ([([r2, r3] : List Int).getD r4.toNat 0] : List Int))), ⟨⟨rfl, rfl, rfl, rfl, trivial⟩, (by omega), (by simp; omega), (by omega), (hs10.pick [1, 0] rfl (by decide))⟩, ?_⟩
    show (r1 - (k + 1)).toNat < (r1 - k).toNat
    omega
  · refine ex (tE (tE (bE ?_)))
    refine nN ?_
    refine sq ?_
    refine sq ?_
    refine rg ?_
    refine q trivial rfl rfl (mv (v := .int .i64 r1) rfl) ?_
    refine q trivial rfl rfl (gtr (k := .i64) (a := r1) (b := 0) rfl rfl) ?_
    refine q trivial rfl rfl (mv (v := .bool (decide ((0 : Int) < r1))) rfl) ?_
    refine spd (p := (0 : Int) < r1) 32 rfl (fun h2 => ?_) (fun h2 => ?_)
    · refine q ⟨_, rfl, rfl⟩ rfl rfl (mv (v := .pointer (some ⟨rb, 0, none⟩)) rfl) ?_
      refine cl ⟨_, rfl, rfl⟩ rfl (pick (rb := rb) (Ab := Ab) (cb := cb) (bs := bs) (p := q0) (n := 50) (w := _) (hr := (blk_heap hs3 1 rfl)) (hb := (hb.up hs3 (fun _ h => h) (fun _ h => .inl h))) (hbn := (by first | assumption | (simp; omega))) (hp := (by omega))) ?_
      rintro _ w10 ⟨r5, q5, rfl, p9, p10, hs11'⟩
      have hs11 : SH w w10 [rb] [.own Ag5 zs.length cg5 3 1 (zs.map I), .blk rb 60 [.slice Ab bs.length cb, .int .i64 ((q5 : Nat) : Int)]] := hs3.callM 1 rfl hs11' (by intro k hk; simp at hk; exact hk.symm)
      clear hs11'
      refine q ⟨_, rfl, rfl⟩ rfl rfl (eqi (k := .i64) (a := r5) (b := 0) rfl rfl) ?_
      refine q trivial rfl rfl (pt (v := .bool (decide (r5 = 0))) rfl rfl) ?_
      refine nl ?_
      refine nN ?_
      refine cdd (p := r5 = 0) rfl (fun h3 => ?_) (fun h3 => ?_)
      · refine rg ?_
        refine q trivial rfl rfl (mv (v := .slice Ag5 zs.length cg5) rfl) ?_
        refine q trivial rfl rfl (mv (v := .pointer (some ⟨rb, 0, none⟩)) rfl) ?_
        refine q trivial rfl rfl (mv (v := .int .i64 r1) rfl) ?_
        refine cl trivial rfl (pick (rb := rb) (Ab := Ab) (cb := cb) (bs := bs) (p := q5) (n := r1) (w := _) (hr := (blk_heap hs11 1 rfl)) (hb := (hb.up hs11 (fun _ h => h) (fun _ h => .inl h))) (hbn := (by first | assumption | (simp; omega))) (hp := (by omega))) ?_
        rintro _ w11 ⟨r6, q6, rfl, p11, p12, hs12'⟩
        have hs12 : SH w w11 [rb] [.own Ag5 zs.length cg5 3 1 (zs.map I), .blk rb 60 [.slice Ab bs.length cb, .int .i64 ((q6 : Nat) : Int)]] := hs11.callM 1 rfl hs12' (by intro k hk; simp at hk; exact hk.symm)
        clear hs12'
        refine Go.PF.bs hs12 sl23 [(0, .int .i64 (-1)), (1, .int .i64 256)] rfl (cs := [.int .i64 (-1), .int .i64 256]) (by kernel_rfl) rfl (by decide) (by decide) trivial rfl (fun b4 w12 (hs13 : SH w w12 [rb] [.own Ag5 zs.length cg5 3 1 (zs.map I), .blk rb 60 [.slice Ab bs.length cb, .int .i64 ((q6 : Nat) : Int)], .own (some ⟨b4, 0, none⟩) (([(-1), 256] : List Int).length) 2 3 1 (([(-1), 256] : List Int).map I)]) => ?_)
        refine q trivial rfl rfl (mv (v := .pointer (some ⟨rb, 0, none⟩)) rfl) ?_
        refine cl trivial rfl (pick (rb := rb) (Ab := Ab) (cb := cb) (bs := bs) (p := q6) (n := 2) (w := _) (hr := (blk_heap hs13 1 rfl)) (hb := (hb.up hs13 (fun _ h => h) (fun _ h => .inl h))) (hbn := (by first | assumption | (simp; omega))) (hp := (by omega))) ?_
        rintro _ w13 ⟨r7, q7, rfl, p13, p14, hs14'⟩
        have hs14 : SH w w13 [rb] [.own Ag5 zs.length cg5 3 1 (zs.map I), .own (some ⟨b4, 0, none⟩) (([(-1), 256] : List Int).length) 2 3 1 (([(-1), 256] : List Int).map I), .blk rb 60 [.slice Ab bs.length cb, .int .i64 ((q7 : Nat) : Int)]] := hs13.callM 1 rfl hs14' (by intro k hk; simp at hk; exact hk.symm)
        clear hs14'
        refine q trivial rfl rfl (ixo r7.toNat sl23 rfl (ieq (x := r7) (by omega)) (by first | omega | (simp; omega))) ?_
        refine q trivial rfl rfl (ldo1n (g := I) (ys := ([(-1), 256] : List Int)) (o := r7.toNat) 0 hs14 1 rfl rfl (by first | omega | (simp; omega)) one3) ?_
        obtain ⟨b5, rfl⟩ := own_form hs14 0 rfl (by first | omega | (simp; omega))
        refine q trivial rfl rfl (ixo r6.toNat sl23 rfl (ieq (x := r6) (by omega)) (by first | omega | (simp; omega))) ?_
        refine stomn (g := I) (ys := zs) (o := r6.toNat) (u := ([(-1), 256] : List Int).getD r7.toNat 0) hs14 0 rfl rfl rfl rfl (by omega) rfl one3 trivial (fun w14 (hs15 : SH w w14 [rb] [.own (some ⟨b4, 0, none⟩) (([(-1), 256] : List Int).length) 2 3 1 (([(-1), 256] : List Int).map I), .blk rb 60 [.slice Ab bs.length cb, .int .i64 ((q7 : Nat) : Int)], .own (some ⟨b5, 0, none⟩) zs.length cg5 3 1 ((zs.set r6.toNat (([(-1), 256] : List Int).getD r7.toNat 0)).map I)]) => ?_)
        refine nl ?_
        refine nN ?_
        refine sq ?_
        refine rg ?_
        refine q trivial rfl rfl (mv (v := .slice (some ⟨b5, 0, none⟩) zs.length cg5) rfl) ?_
        refine q trivial rfl rfl (asg (v := .slice (some ⟨b5, 0, none⟩) zs.length cg5) rfl) ?_
        refine nl ?_
        refine nN ?_
        refine rt ?_
        refine fret (v := .slice (some ⟨b5, 0, none⟩) zs.length cg5) (.tmp .nil) rfl ?_
        have e1 : zs.length = (zs.set r6.toNat (([(-1), 256] : List Int).getD r7.toNat 0)).length := by first | rfl | (simp; done) | (simp; omega) | omega
        exact ⟨(some ⟨b5, 0, none⟩), cg5, zs.set r6.toNat (([(-1), 256] : List Int).getD r7.toNat 0), q7, (slv rfl e1 rfl), (by (try simp); omega), (by omega), ((hs15.pick [1, 2] rfl (by decide)).cast (lc rfl (lc (own_eq (g := I) rfl e1 rfl rfl) rfl)))⟩
      · refine sk ?_
        refine nN ?_
        refine sq ?_
        refine rg ?_
        refine q trivial rfl rfl (mv (v := .slice Ag5 zs.length cg5) rfl) ?_
        refine q trivial rfl rfl (asg (v := .slice Ag5 zs.length cg5) rfl) ?_
        refine nl ?_
        refine nN ?_
        refine rt ?_
        refine fret (v := .slice Ag5 zs.length cg5) (.tmp .nil) rfl ?_
        exact ⟨Ag5, cg5, zs, q5, rfl, (by (try simp); omega), (by omega), (hs11.pick [1, 0] rfl (by decide))⟩
    · refine gk false rfl rfl rfl rfl rfl ?_
      refine gk false rfl rfl rfl rfl rfl ?_
      refine gk false rfl rfl rfl rfl rfl ?_
      refine q trivial rfl rfl (pf (v := .bool false) rfl rfl) ?_
      refine nl ?_
      refine nN ?_
      refine cdf rfl ?_
      refine sk ?_
      refine nN ?_
      refine sq ?_
      refine rg ?_
      refine q trivial rfl rfl (mv (v := .slice Ag5 zs.length cg5) rfl) ?_
      refine q trivial rfl rfl (asg (v := .slice Ag5 zs.length cg5) rfl) ?_
      refine nl ?_
      refine nN ?_
      refine rt ?_
      refine fret (v := .slice Ag5 zs.length cg5) (.tmp .nil) rfl ?_
      exact ⟨Ag5, cg5, zs, q0, rfl, (by (try simp); omega), (by omega), (hs3.pick [1, 0] rfl (by decide))⟩

theorem iPipeValid {Axs : Option Addr} {cxs : Nat} (xs : List Int) (ni : Int) (eb : Bool) (w : World) (hxs : Sl w [] 1 Axs xs.length cxs (xs.map I)) : Does Try.prog 17 [.agg #[.slice Axs xs.length cxs, .int .i64 ni, .bool eb]] w (fun v w' => v = .bool (pipeOk xs ni) ∧ SH w w' [] []) := by
  refine fn_enter (N := 20) Try.func17 rfl (by kernel_rfl) rfl rfl rfl ?_
  have hs0 : SH w w [] [] := SH.refl w []
  have hxs_m : xs.length ≤ 9223372036854775807 := Nat.le_trans hxs.cap hxs.capMax
  refine sq ?_
  refine rg ?_
  refine bx (v := .agg #[.slice Axs xs.length cxs, .int .i64 ni, .bool eb]) (cs := [.slice Axs xs.length cxs, .int .i64 ni, .bool eb]) hs0 rfl rfl trivial rfl (fun b1 w1 (hs1 : SH w w1 [] [.blk b1 25 [.slice Axs xs.length cxs, .int .i64 ni, .bool eb]]) => ?_)
  refine q trivial rfl rfl (asg (v := .bool false) rfl) ?_
  refine nl ?_
  refine nN ?_
  refine sq ?_
  refine rg ?_
  refine q trivial rfl rfl (fa 0 fo25_0 rfl) ?_
  refine q trivial rfl rfl (ld (v := .slice Axs xs.length cxs) hs1 0 rfl rfl rfl one23) ?_
  refine q trivial rfl rfl (lnA (n := xs.length) sl23 rfl) ?_
  refine q trivial rfl rfl (leq (k := .i64) (a := ((xs.length : Nat) : Int)) (b := 16) rfl rfl) ?_
  refine q trivial rfl rfl (mv (v := .bool (decide (((xs.length : Nat) : Int) ≤ 16))) rfl) ?_
  refine spd (p := ((xs.length : Nat) : Int) ≤ 16) 7 rfl (fun h1 => ?_) (fun h1 => ?_)
  · refine q ⟨_, rfl, rfl⟩ rfl rfl (fa 0 fo25_0 rfl) ?_
    refine q ⟨_, rfl, rfl⟩ rfl rfl (ld (v := .slice Axs xs.length cxs) hs1 0 rfl rfl rfl one23) ?_
    refine cl ⟨_, rfl, rfl⟩ rfl (iBytesValid (Azs := Axs) (czs := cxs) (zs := xs) (w := _) (hzs := (hxs.up0 hs1))) ?_
    rintro _ w2 ⟨rfl, hs2'⟩
    have hs2 : SH w w2 [] [.blk b1 25 [.slice Axs xs.length cxs, .int .i64 ni, .bool eb]] := hs1.call0 hs2'
    clear hs2'
    refine q trivial rfl rfl (pt (v := .bool (isBytes xs)) rfl rfl) ?_
    refine q trivial rfl rfl (mv (v := .bool (isBytes xs)) rfl) ?_
    refine spl (b := isBytes xs) 12 rfl (fun h2 => ?_) (fun h2 => ?_)
    · refine q ⟨_, rfl, rfl⟩ rfl rfl (fa 1 fo25_1 rfl) ?_
      refine q ⟨_, rfl, rfl⟩ rfl rfl (ld (v := .int .i64 ni) hs2 0 rfl rfl rfl one3) ?_
      refine q ⟨_, rfl, rfl⟩ rfl rfl (fa 0 fo25_0 rfl) ?_
      refine q ⟨_, rfl, rfl⟩ rfl rfl (ld (v := .slice Axs xs.length cxs) hs2 0 rfl rfl rfl one23) ?_
      refine q ⟨_, rfl, rfl⟩ rfl rfl (lnA (n := xs.length) sl23 rfl) ?_
      refine cl ⟨_, rfl, rfl⟩ rfl (iWithin (x := ni) (lo := ((xs.length : Nat) : Int)) (hi := 9999) (w := _)) ?_
      rintro _ w3 ⟨rfl, hs3'⟩
      have hs3 : SH w w3 [] [.blk b1 25 [.slice Axs xs.length cxs, .int .i64 ni, .bool eb]] := hs2.call0 hs3'
      clear hs3'
      refine q trivial rfl rfl (pt (v := .bool (decide (((xs.length : Nat) : Int) ≤ ni ∧ ni ≤ 9999))) rfl rfl) ?_
      refine q trivial rfl rfl (asg (v := .bool (decide (((xs.length : Nat) : Int) ≤ ni ∧ ni ≤ 9999))) rfl) ?_
      refine nl ?_
      refine nN ?_
      refine rt ?_
      refine fret (v := .bool (decide (((xs.length : Nat) : Int) ≤ ni ∧ ni ≤ 9999))) (.tmp .nil) rfl ?_
      have e1 : (decide (((xs.length : Nat) : Int) ≤ ni ∧ ni ≤ 9999)) = pipeOk xs ni := by simp [pipeOk, h1, h2] <;> omega
      exact ⟨(congrArg (Value.bool) e1), (hs3.pick [] rfl (by decide))⟩
    · refine gk false rfl rfl rfl rfl rfl ?_
      refine gk false rfl rfl rfl rfl rfl ?_
      refine gk false rfl rfl rfl rfl rfl ?_
      refine gk false rfl rfl rfl rfl rfl ?_
      refine gk false rfl rfl rfl rfl rfl ?_
      refine gk false rfl rfl rfl rfl rfl ?_
      refine q trivial rfl rfl (pf (v := .bool false) rfl rfl) ?_
      refine q trivial rfl rfl (asg (v := .bool false) rfl) ?_
      refine nl ?_
      refine nN ?_
      refine rt ?_
      refine fret (v := .bool false) (.tmp .nil) rfl ?_
      have e2 : false = pipeOk xs ni := by simp [pipeOk, h1, h2] <;> omega
      exact ⟨(congrArg (Value.bool) e2), (hs2.pick [] rfl (by decide))⟩
  · refine gk false rfl rfl rfl rfl rfl ?_
    refine gk false rfl rfl rfl rfl rfl ?_
    refine gk false rfl rfl rfl rfl rfl ?_
    refine q trivial rfl rfl (pf (v := .bool false) rfl rfl) ?_
    refine q trivial rfl rfl (mv (v := .bool false) rfl) ?_
    refine gk false rfl rfl rfl rfl rfl ?_
    refine gk false rfl rfl rfl rfl rfl ?_
    refine gk false rfl rfl rfl rfl rfl ?_
    refine gk false rfl rfl rfl rfl rfl ?_
    refine gk false rfl rfl rfl rfl rfl ?_
    refine gk false rfl rfl rfl rfl rfl ?_
    refine q trivial rfl rfl (pf (v := .bool false) rfl rfl) ?_
    refine q trivial rfl rfl (asg (v := .bool false) rfl) ?_
    refine nl ?_
    refine nN ?_
    refine rt ?_
    refine fret (v := .bool false) (.tmp .nil) rfl ?_
    have e3 : false = pipeOk xs ni := by simp [pipeOk, h1] <;> omega
    exact ⟨(congrArg (Value.bool) e3), (hs1.pick [] rfl (by decide))⟩

theorem sPipeValid {Axs : Option Addr} {cxs : Nat} (xs : List Int) (ni : Int) (eb : Bool) (w : World) (hxs : Sl w [] 1 Axs xs.length cxs (xs.map I)) : Does Try.prog 18 [.agg #[.slice Axs xs.length cxs, .int .i64 ni, .bool eb]] w (fun v w' => v = .bool (pipeOk xs ni) ∧ SH w w' [] []) := by
  refine fn_enter (N := 20) Try.func18 rfl (by kernel_rfl) rfl rfl rfl ?_
  have hs0 : SH w w [] [] := SH.refl w []
  have hxs_m : xs.length ≤ 9223372036854775807 := Nat.le_trans hxs.cap hxs.capMax
  refine sq ?_
  refine rg ?_
  refine bx (v := .agg #[.slice Axs xs.length cxs, .int .i64 ni, .bool eb]) (cs := [.slice Axs xs.length cxs, .int .i64 ni, .bool eb]) hs0 rfl rfl trivial rfl (fun b1 w1 (hs1 : SH w w1 [] [.blk b1 25 [.slice Axs xs.length cxs, .int .i64 ni, .bool eb]]) => ?_)
  refine q trivial rfl rfl (asg (v := .bool false) rfl) ?_
  refine nl ?_
  refine nN ?_
  refine sq ?_
  refine rg ?_
  refine q trivial rfl rfl (fa 0 fo25_0 rfl) ?_
  refine q trivial rfl rfl (ld (v := .slice Axs xs.length cxs) hs1 0 rfl rfl rfl one23) ?_
  refine cl trivial rfl (sBytesValid (Azs := Axs) (czs := cxs) (zs := xs) (w := _) (hzs := (hxs.up0 hs1))) ?_
  rintro _ w2 ⟨rfl, hs2'⟩
  have hs2 : SH w w2 [] [.blk b1 25 [.slice Axs xs.length cxs, .int .i64 ni, .bool eb]] := hs1.call0 hs2'
  clear hs2'
  refine q trivial rfl rfl (mv (v := .bool (isBytes xs)) rfl) ?_
  refine spl (b := isBytes xs) 6 rfl (fun h1 => ?_) (fun h1 => ?_)
  · refine q ⟨_, rfl, rfl⟩ rfl rfl (fa 0 fo25_0 rfl) ?_
    refine q ⟨_, rfl, rfl⟩ rfl rfl (ld (v := .slice Axs xs.length cxs) hs2 0 rfl rfl rfl one23) ?_
    refine q ⟨_, rfl, rfl⟩ rfl rfl (lnA (n := xs.length) sl23 rfl) ?_
    refine q ⟨_, rfl, rfl⟩ rfl rfl (leq (k := .i64) (a := ((xs.length : Nat) : Int)) (b := 16) rfl rfl) ?_
    refine q trivial rfl rfl (pt (v := .bool (decide (((xs.length : Nat) : Int) ≤ 16))) rfl rfl) ?_
    refine q trivial rfl rfl (mv (v := .bool (decide (((xs.length : Nat) : Int) ≤ 16))) rfl) ?_
    refine spd (p := ((xs.length : Nat) : Int) ≤ 16) 12 rfl (fun h2 => ?_) (fun h2 => ?_)
    · refine q ⟨_, rfl, rfl⟩ rfl rfl (fa 1 fo25_1 rfl) ?_
      refine q ⟨_, rfl, rfl⟩ rfl rfl (ld (v := .int .i64 ni) hs2 0 rfl rfl rfl one3) ?_
      refine q ⟨_, rfl, rfl⟩ rfl rfl (fa 0 fo25_0 rfl) ?_
      refine q ⟨_, rfl, rfl⟩ rfl rfl (ld (v := .slice Axs xs.length cxs) hs2 0 rfl rfl rfl one23) ?_
      refine q ⟨_, rfl, rfl⟩ rfl rfl (lnA (n := xs.length) sl23 rfl) ?_
      refine cl ⟨_, rfl, rfl⟩ rfl (sIn (x := ni) (lo := ((xs.length : Nat) : Int)) (hi := 9999) (w := _)) ?_
      rintro _ w3 ⟨rfl, hs3'⟩
      have hs3 : SH w w3 [] [.blk b1 25 [.slice Axs xs.length cxs, .int .i64 ni, .bool eb]] := hs2.call0 hs3'
      clear hs3'
      refine q trivial rfl rfl (pt (v := .bool (decide (((xs.length : Nat) : Int) ≤ ni ∧ ni ≤ 9999))) rfl rfl) ?_
      refine q trivial rfl rfl (asg (v := .bool (decide (((xs.length : Nat) : Int) ≤ ni ∧ ni ≤ 9999))) rfl) ?_
      refine nl ?_
      refine nN ?_
      refine rt ?_
      refine fret (v := .bool (decide (((xs.length : Nat) : Int) ≤ ni ∧ ni ≤ 9999))) (.tmp .nil) rfl ?_
      have e1 : (decide (((xs.length : Nat) : Int) ≤ ni ∧ ni ≤ 9999)) = pipeOk xs ni := by simp [pipeOk, h1, h2] <;> omega
      exact ⟨(congrArg (Value.bool) e1), (hs3.pick [] rfl (by decide))⟩
    · refine gk false rfl rfl rfl rfl rfl ?_
      refine gk false rfl rfl rfl rfl rfl ?_
      refine gk false rfl rfl rfl rfl rfl ?_
      refine gk false rfl rfl rfl rfl rfl ?_
      refine gk false rfl rfl rfl rfl rfl ?_
      refine gk false rfl rfl rfl rfl rfl ?_
      refine q trivial rfl rfl (pf (v := .bool false) rfl rfl) ?_
      refine q trivial rfl rfl (asg (v := .bool false) rfl) ?_
      refine nl ?_
      refine nN ?_
      refine rt ?_
      refine fret (v := .bool false) (.tmp .nil) rfl ?_
      have e2 : false = pipeOk xs ni := by simp [pipeOk, h1, h2] <;> omega
      exact ⟨(congrArg (Value.bool) e2), (hs2.pick [] rfl (by decide))⟩
  · refine gk false rfl rfl rfl rfl rfl ?_
    refine gk false rfl rfl rfl rfl rfl ?_
    refine gk false rfl rfl rfl rfl rfl ?_
    refine gk false rfl rfl rfl rfl rfl ?_
    refine q trivial rfl rfl (pf (v := .bool false) rfl rfl) ?_
    refine q trivial rfl rfl (mv (v := .bool false) rfl) ?_
    refine gk false rfl rfl rfl rfl rfl ?_
    refine gk false rfl rfl rfl rfl rfl ?_
    refine gk false rfl rfl rfl rfl rfl ?_
    refine gk false rfl rfl rfl rfl rfl ?_
    refine gk false rfl rfl rfl rfl rfl ?_
    refine gk false rfl rfl rfl rfl rfl ?_
    refine q trivial rfl rfl (pf (v := .bool false) rfl rfl) ?_
    refine q trivial rfl rfl (asg (v := .bool false) rfl) ?_
    refine nl ?_
    refine nN ?_
    refine rt ?_
    refine fret (v := .bool false) (.tmp .nil) rfl ?_
    have e3 : false = pipeOk xs ni := by simp [pipeOk, h1] <;> omega
    exact ⟨(congrArg (Value.bool) e3), (hs2.pick [] rfl (by decide))⟩

theorem l92Pipe {rb : Nat} {Ab : Option Addr} {cb : Nat} {bs : List UInt8} {p : Nat} (w : World) (hr : w.heap[rb]? = some (.cells [.slice Ab bs.length cb, .int .i64 ((p : Nat) : Int)].toArray 60 (0, 0))) (hb : Sl w [rb] 1 Ab bs.length cb (bs.map U)) (hbn : bs.length ≤ 2000) (hp : p ≤ 549755813888) : Does Try.prog 40 [.pointer (some ⟨rb, 0, none⟩)] w (fun v w' => ∃ Ar : Option Addr, ∃ cr : Nat, ∃ r : List Int, ∃ ni : Int, ∃ eb : Bool, ∃ q : Nat, v = .agg #[.slice Ar r.length cr, .int .i64 ni, .bool eb] ∧ (r.length ≤ 17) ∧ (q ≤ p + 100) ∧ SH w w' [rb] [.blk rb 60 [.slice Ab bs.length cb, .int .i64 ((q : Nat) : Int)], .own Ar r.length cr 3 1 (r.map I)]) := by
  refine fn_enter (N := 40) Try.func40 rfl (by kernel_rfl) rfl rfl rfl ?_
  have hs0 : SH w w [rb] [.blk rb 60 [.slice Ab bs.length cb, .int .i64 ((p : Nat) : Int)]] := SH.entry1 hr
  refine sq ?_
  refine rg ?_
  refine al (v := .agg #[.slice none 0 0, .int .i64 0, .bool false]) (cs := [.slice none 0 0, .int .i64 0, .bool false]) hs0 tz25 rfl trivial rfl (fun b1 w1 (hs1 : SH w w1 [rb] [.blk rb 60 [.slice Ab bs.length cb, .int .i64 ((p : Nat) : Int)], .blk b1 25 [.slice none 0 0, .int .i64 0, .bool false]]) => ?_)
  refine nl ?_
  refine nN ?_
  refine sq ?_
  refine rg ?_
  refine q trivial rfl rfl (mv (v := .pointer (some ⟨rb, 0, none⟩)) rfl) ?_
  refine cl trivial rfl (l91Bytes (rb := rb) (Ab := Ab) (cb := cb) (bs := bs) (p := p) (n := 12) (w := _) (hr := (blk_heap hs1 0 rfl)) (hb := (hb.up hs1 (fun _ h => h) (fun _ h => .inl h))) (hbn := (by first | assumption | (simp; omega))) (hp := (by omega)) (hn := (by first | omega | assumption | (simp; done) | (simp; omega)))) ?_
  rintro _ w2 ⟨A1, c1, r1, q1, rfl, p1, p2, hs2'⟩
  have hs2 : SH w w2 [rb] [.blk b1 25 [.slice none 0 0, .int .i64 0, .bool false], .blk rb 60 [.slice Ab bs.length cb, .int .i64 ((q1 : Nat) : Int)], .own A1 r1.length c1 3 1 (r1.map I)] := hs1.callM 0 rfl hs2' (by intro k hk; simp at hk; exact hk.symm)
  clear hs2'
  refine q trivial rfl rfl (mv (v := .pointer (some ⟨rb, 0, none⟩)) rfl) ?_
  refine cl trivial rfl (pick (rb := rb) (Ab := Ab) (cb := cb) (bs := bs) (p := q1) (n := 5) (w := _) (hr := (blk_heap hs2 1 rfl)) (hb := (hb.up hs2 (fun _ h => h) (fun _ h => .inl h))) (hbn := (by first | assumption | (simp; omega))) (hp := (by omega))) ?_
  rintro _ w3 ⟨r2, q2, rfl, p3, p4, hs3'⟩
  have hs3 : SH w w3 [rb] [.blk b1 25 [.slice none 0 0, .int .i64 0, .bool false], .own A1 r1.length c1 3 1 (r1.map I), .blk rb 60 [.slice Ab bs.length cb, .int .i64 ((q2 : Nat) : Int)]] := hs2.callM 1 rfl hs3' (by intro k hk; simp at hk; exact hk.symm)
  clear hs3'
  refine q trivial rfl rfl (eqi (k := .i64) (a := r2) (b := 0) rfl rfl) ?_
  refine q trivial rfl rfl (bdv (v := .agg #[.slice A1 r1.length c1, .int .i64 0, .bool (decide (r2 = 0))]) [(0, .slice A1 r1.length c1), (2, .bool (decide (r2 = 0)))] rfl (fun _ => by kernel_rfl)) ?_
  refine al (v := .agg #[.slice none 0 0, .int .i64 0, .bool false]) (cs := [.slice none 0 0, .int .i64 0, .bool false]) hs3 tz25 rfl trivial rfl (fun b2 w4 (hs4 : SH w w4 [rb] [.blk b1 25 [.slice none 0 0, .int .i64 0, .bool false], .own A1 r1.length c1 3 1 (r1.map I), .blk rb 60 [.slice Ab bs.length cb, .int .i64 ((q2 : Nat) : Int)], .blk b2 25 [.slice none 0 0, .int .i64 0, .bool false]]) => ?_)
  refine stg (vs := [.slice A1 r1.length c1, .int .i64 0, .bool (decide (r2 = 0))]) hs4 3 rfl rfl rfl rfl rfl rfl rfl ag25 trivial (fun w5 (hs5 : SH w w5 [rb] [.blk b1 25 [.slice none 0 0, .int .i64 0, .bool false], .own A1 r1.length c1 3 1 (r1.map I), .blk rb 60 [.slice Ab bs.length cb, .int .i64 ((q2 : Nat) : Int)], .blk b2 25 [.slice A1 r1.length c1, .int .i64 0, .bool (decide (r2 = 0))]]) => ?_)
  refine nl ?_
  refine nN ?_
  refine sq ?_
  refine raJ (fun w' => ∃ L, SH w w' [rb] L ∧ (.blk b1 25 [.slice none 0 0, .int .i64 0, .bool false]) ∈ L ∧ True) (fun f w' => ∃ r_2_4 : Int, ∃ q_2_4 : Nat, Has f [(0, .pointer (some ⟨rb, 0, none⟩)), (2, .pointer (some ⟨b1, 0, none⟩)), (3, .pointer (some ⟨b2, 0, none⟩))] ∧ (0 ≤ r_2_4 ∧ (r_2_4 < 20 ∨ r_2_4 = 0)) ∧ (q_2_4 ≤ q2 + 1) ∧ SH w w' [rb] [.blk b1 25 [.slice none 0 0, .int .i64 0, .bool false], .own A1 r1.length c1 3 1 (r1.map I), .blk rb 60 [.slice Ab bs.length cb, .int .i64 ((q_2_4 : Nat) : Int)], .blk b2 25 [.slice A1 r1.length c1, .int .i64 (((r1.length : Nat) : Int) + r_2_4), .bool (decide (r2 = 0))]]) mixed ?_ ?_
  · have hs6 := hs5.drew
    refine tk (fuel := 6) (is := [0, 3]) (.cons rfl (.cons rfl (.nil))) (by kernel_rfl) (by kernel_rfl) ⟨_, hs6, memi 0 rfl, trivial⟩ ?_
    refine .op trivial rfl rfl (fun wq _ => fa 0 fo25_0 rfl) ?_
    refine .op trivial rfl rfl (fun wq _ => mv (v := .pointer (some ⟨rb, 0, none⟩)) rfl) ?_
    refine .nil ?_
    refine a2 (i := 1) (j := 4) (by kernel_rfl) ?_ ?_
    · refine one_ rfl ?_
      refine q trivial rfl rfl (ld (v := .slice A1 r1.length c1) hs6 3 rfl rfl rfl one23) ?_
      refine nl (kq ⟨_, hs6, memi 0 rfl, trivial⟩ ?_)
      refine tk (fuel := 4) (is := [2]) (.cons rfl (.nil)) (by kernel_rfl) (by kernel_rfl) ⟨_, hs6, memi 0 rfl, trivial⟩ ?_
      refine .op trivial rfl rfl (fun wq _ => lnA (n := r1.length) sl23 rfl) ?_
      refine .nil ?_
      refine a1 (i := 4) (by kernel_rfl) ?_
      refine one_ rfl ?_
      refine cl trivial rfl (pick (rb := rb) (Ab := Ab) (cb := cb) (bs := bs) (p := q2) (n := 20) (w := _) (hr := (blk_heap hs6 2 rfl)) (hb := (hb.up hs6 (fun _ h => h) (fun _ h => .inl h))) (hbn := (by first | assumption | (simp; omega))) (hp := (by omega))) ?_
      rintro _ w6 ⟨r_2_4, q_2_4, rfl, p5, p6, hs7'⟩
      have hs7 : SH w w6 [rb] [.blk b1 25 [.slice none 0 0, .int .i64 0, .bool false], .own A1 r1.length c1 3 1 (r1.map I), .blk b2 25 [.slice A1 r1.length c1, .int .i64 0, .bool (decide (r2 = 0))], .blk rb 60 [.slice Ab bs.length cb, .int .i64 ((q_2_4 : Nat) : Int)]] := hs6.callM 2 rfl hs7' (by intro k hk; simp at hk; exact hk.symm)
      clear hs7'
      refine nl (kq ⟨_, hs7, memi 0 rfl, trivial⟩ ?_)
      refine tk (fuel := 1) (is := [5, 6]) (.cons rfl (.cons rfl (.nil))) (by kernel_rfl) (by kernel_rfl) ⟨_, hs7, memi 0 rfl, trivial⟩ ?_
      refine .op trivial rfl rfl (fun wq _ => add (a := ((r1.length : Nat) : Int)) (b := r_2_4) rfl rfl (by exact ⟨by omega, by omega⟩)) ?_
      refine .op trivial rfl rfl (fun wq _ => fa 1 fo25_1 rfl) ?_
      refine .nil ?_
      refine a1 (i := 7) (by kernel_rfl) ?_
      refine one_ rfl ?_
      refine st (v := .int .i64 (((r1.length : Nat) : Int) + r_2_4)) hs7 2 rfl rfl rfl rfl rfl one3 trivial (fun w7 (hs8 : SH w w7 [rb] [.blk b1 25 [.slice none 0 0, .int .i64 0, .bool false], .own A1 r1.length c1 3 1 (r1.map I), .blk rb 60 [.slice Ab bs.length cb, .int .i64 ((q_2_4 : Nat) : Int)], .blk b2 25 [.slice A1 r1.length c1, .int .i64 (((r1.length : Nat) : Int) + r_2_4), .bool (decide (r2 = 0))]]) => ?_)
      refine nl (kq ⟨_, hs8, memi 0 rfl, trivial⟩ ?_)
      refine ad (by kernel_rfl) ?_
      exact ⟨r_2_4, q_2_4, ⟨rfl, rfl, rfl, trivial⟩, p5, p6, hs8⟩
    · refine one_ rfl ?_
      refine cl trivial rfl (pick (rb := rb) (Ab := Ab) (cb := cb) (bs := bs) (p := q2) (n := 20) (w := _) (hr := (blk_heap hs6 2 rfl)) (hb := (hb.up hs6 (fun _ h => h) (fun _ h => .inl h))) (hbn := (by first | assumption | (simp; omega))) (hp := (by omega))) ?_
      rintro _ w8 ⟨r_2_4, q_2_4, rfl, p7, p8, hs9'⟩
      have hs9 : SH w w8 [rb] [.blk b1 25 [.slice none 0 0, .int .i64 0, .bool false], .own A1 r1.length c1 3 1 (r1.map I), .blk b2 25 [.slice A1 r1.length c1, .int .i64 0, .bool (decide (r2 = 0))], .blk rb 60 [.slice Ab bs.length cb, .int .i64 ((q_2_4 : Nat) : Int)]] := hs6.callM 2 rfl hs9' (by intro k hk; simp at hk; exact hk.symm)
      clear hs9'
      refine nl (kq ⟨_, hs9, memi 0 rfl, trivial⟩ ?_)
      refine a1 (i := 1) (by kernel_rfl) ?_
      refine one_ rfl ?_
      refine q trivial rfl rfl (ld (v := .slice A1 r1.length c1) hs9 2 rfl rfl rfl one23) ?_
      refine nl (kq ⟨_, hs9, memi 0 rfl, trivial⟩ ?_)
      refine tk (fuel := 1) (is := [2, 5, 6]) (.cons rfl (.cons rfl (.cons rfl (.nil)))) (by kernel_rfl) (by kernel_rfl) ⟨_, hs9, memi 0 rfl, trivial⟩ ?_
      refine .op trivial rfl rfl (fun wq _ => lnA (n := r1.length) sl23 rfl) ?_
      refine .op trivial rfl rfl (fun wq _ => add (a := ((r1.length : Nat) : Int)) (b := r_2_4) rfl rfl (by exact ⟨by omega, by omega⟩)) ?_
      refine .op trivial rfl rfl (fun wq _ => fa 1 fo25_1 rfl) ?_
      refine .nil ?_
      refine a1 (i := 7) (by kernel_rfl) ?_
      refine one_ rfl ?_
      refine st (v := .int .i64 (((r1.length : Nat) : Int) + r_2_4)) hs9 2 rfl rfl rfl rfl rfl one3 trivial (fun w9 (hs10 : SH w w9 [rb] [.blk b1 25 [.slice none 0 0, .int .i64 0, .bool false], .own A1 r1.length c1 3 1 (r1.map I), .blk rb 60 [.slice Ab bs.length cb, .int .i64 ((q_2_4 : Nat) : Int)], .blk b2 25 [.slice A1 r1.length c1, .int .i64 (((r1.length : Nat) : Int) + r_2_4), .bool (decide (r2 = 0))]]) => ?_)
      refine nl (kq ⟨_, hs10, memi 0 rfl, trivial⟩ ?_)
      refine ad (by kernel_rfl) ?_
      exact ⟨r_2_4, q_2_4, ⟨rfl, rfl, rfl, trivial⟩, p7, p8, hs10⟩
  rintro f w10 ⟨r_2_4, q_2_4, hf, p9, p10, hs11⟩
  obtain ⟨g1, rfl⟩ := has_upd hf
  clear hf
  refine nN ?_
  refine sq ?_
  refine sq ?_
  refine rg ?_
  refine q trivial rfl rfl (mv (v := .pointer (some ⟨rb, 0, none⟩)) rfl) ?_
  refine cl trivial rfl (pick (rb := rb) (Ab := Ab) (cb := cb) (bs := bs) (p := q_2_4) (n := 30) (w := _) (hr := (blk_heap hs11 2 rfl)) (hb := (hb.up hs11 (fun _ h => h) (fun _ h => .inl h))) (hbn := (by first | assumption | (simp; omega))) (hp := (by omega))) ?_
  rintro _ w11 ⟨r3, q3, rfl, p11, p12, hs12'⟩
  have hs12 : SH w w11 [rb] [.blk b1 25 [.slice none 0 0, .int .i64 0, .bool false], .own A1 r1.length c1 3 1 (r1.map I), .blk b2 25 [.slice A1 r1.length c1, .int .i64 (((r1.length : Nat) : Int) + r_2_4), .bool (decide (r2 = 0))], .blk rb 60 [.slice Ab bs.length cb, .int .i64 ((q3 : Nat) : Int)]] := hs11.callM 2 rfl hs12' (by intro k hk; simp at hk; exact hk.symm)
  clear hs12'
  refine nl ?_
  refine nN ?_
  refine bl ?_
  refine sq ?_
  refine rg ?_
  refine q trivial rfl rfl (eqi (k := .i64) (a := r3) (b := 0) rfl rfl) ?_
  refine q trivial rfl rfl (asg (v := .bool (decide (r3 = 0))) rfl) ?_
  refine nl ?_
  refine nN ?_
  refine cdd (p := r3 = 0) rfl (fun h1 => ?_) (fun h1 => ?_)
  · refine raJ (fun w' => ∃ L, SH w w' [rb] L ∧ (.blk b1 25 [.slice none 0 0, .int .i64 0, .bool false]) ∈ L ∧ True) (fun f w' => ∃ b_5_4 : Nat, ∃ r_5_6 : Int, ∃ q_5_6 : Nat, Has f [(2, .pointer (some ⟨b1, 0, none⟩)), (3, .pointer (some ⟨b2, 0, none⟩))] ∧ (0 ≤ r_5_6 ∧ (r_5_6 < 3 ∨ r_5_6 = 0)) ∧ (q_5_6 ≤ q3 + 1) ∧ SH w w' [rb] [.blk b1 25 [.slice none 0 0, .int .i64 0, .bool false], .own A1 r1.length c1 3 1 (r1.map I), .own (some ⟨b_5_4, 0, none⟩) (([((r1.length : Nat) : Int) - 1, 9999, 10000] : List Int).length) 3 3 1 (([((r1.length : Nat) : Int) - 1, 9999, 10000] : List Int).map I), .blk rb 60 [.slice Ab bs.length cb, .int .i64 ((q_5_6 : Nat) : Int)], .blk b2 25 [.slice A1 r1.length c1, .int .i64 (([((r1.length : Nat) : Int) - 1, 9999, 10000] : List Int).getD r_5_6.toNat 0), .bool (decide (r2 = 0))]]) mixed ?_ ?_
    · have hs13 := hs12.drew
      refine tk (fuel := 9) (is := [0, 5]) (.cons rfl (.cons rfl (.nil))) (by kernel_rfl) (by kernel_rfl) ⟨_, hs13, memi 0 rfl, trivial⟩ ?_
      refine .op trivial rfl rfl (fun wq _ => fa 0 fo25_0 rfl) ?_
      refine .op trivial rfl rfl (fun wq _ => mv (v := .pointer (some ⟨rb, 0, none⟩)) rfl) ?_
      refine .nil ?_
      refine a2 (i := 1) (j := 6) (by kernel_rfl) ?_ ?_
      · refine one_ rfl ?_
        refine q trivial rfl rfl (ld (v := .slice A1 r1.length c1) hs13 2 rfl rfl rfl one23) ?_
        refine nl (kq ⟨_, hs13, memi 0 rfl, trivial⟩ ?_)
        refine tk (fuel := 6) (is := [2, 3]) (.cons rfl (.cons rfl (.nil))) (by kernel_rfl) (by kernel_rfl) ⟨_, hs13, memi 0 rfl, trivial⟩ ?_
        refine .op trivial rfl rfl (fun wq _ => lnA (n := r1.length) sl23 rfl) ?_
        refine .op trivial rfl rfl (fun wq _ => sub (a := ((r1.length : Nat) : Int)) (b := 1) rfl rfl (by exact ⟨by omega, by omega⟩)) ?_
        refine .nil ?_
        refine a2 (i := 4) (j := 6) (by kernel_rfl) ?_ ?_
        · refine one_ rfl ?_
          refine Go.PF.bs hs13 sl23 [(0, .int .i64 (((r1.length : Nat) : Int) - 1)), (1, .int .i64 9999), (2, .int .i64 10000)] rfl (cs := [.int .i64 (((r1.length : Nat) : Int) - 1), .int .i64 9999, .int .i64 10000]) (by kernel_rfl) rfl (by decide) (by decide) trivial rfl (fun b_5_4 w12 (hs14 : SH w w12 [rb] [.blk b1 25 [.slice none 0 0, .int .i64 0, .bool false], .own A1 r1.length c1 3 1 (r1.map I), .blk b2 25 [.slice A1 r1.length c1, .int .i64 (((r1.length : Nat) : Int) + r_2_4), .bool (decide (r2 = 0))], .blk rb 60 [.slice Ab bs.length cb, .int .i64 ((q3 : Nat) : Int)], .own (some ⟨b_5_4, 0, none⟩) (([((r1.length : Nat) : Int) - 1, 9999, 10000] : List Int).length) 3 3 1 (([((r1.length : Nat) : Int) - 1, 9999, 10000] : List Int).map I)]) => ?_)
          refine nl (kq ⟨_, hs14, memi 0 rfl, trivial⟩ ?_)
          refine a1 (i := 6) (by kernel_rfl) ?_
          refine one_ rfl ?_
          refine cl trivial rfl (pick (rb := rb) (Ab := Ab) (cb := cb) (bs := bs) (p := q3) (n := 3) (w := _) (hr := (blk_heap hs14 3 rfl)) (hb := (hb.up hs14 (fun _ h => h) (fun _ h => .inl h))) (hbn := (by first | assumption | (simp; omega))) (hp := (by omega))) ?_
          rintro _ w13 ⟨r_5_6, q_5_6, rfl, p13, p14, hs15'⟩
          have hs15 : SH w w13 [rb] [.blk b1 25 [.slice none 0 0, .int .i64 0, .bool false], .own A1 r1.length c1 3 1 (r1.map I), .blk b2 25 [.slice A1 r1.length c1, .int .i64 (((r1.length : Nat) : Int) + r_2_4), .bool (decide (r2 = 0))], .own (some ⟨b_5_4, 0, none⟩) (([((r1.length : Nat) : Int) - 1, 9999, 10000] : List Int).length) 3 3 1 (([((r1.length : Nat) : Int) - 1, 9999, 10000] : List Int).map I), .blk rb 60 [.slice Ab bs.length cb, .int .i64 ((q_5_6 : Nat) : Int)]] := hs14.callM 3 rfl hs15' (by intro k hk; simp at hk; exact hk.symm)
          clear hs15'
          refine nl (kq ⟨_, hs15, memi 0 rfl, trivial⟩ ?_)
          refine tk (fuel := 3) (is := [7]) (.cons rfl (.nil)) (by kernel_rfl) (by kernel_rfl) ⟨_, hs15, memi 0 rfl, trivial⟩ ?_
          refine .op trivial rfl rfl (fun wq _ => ixo r_5_6.toNat sl23 rfl (ieq (x := r_5_6) (by omega)) (by first | omega | (simp; omega))) ?_
          refine .nil ?_
          refine a1 (i := 8) (by kernel_rfl) ?_
          refine one_ rfl ?_
          refine q trivial rfl rfl (ldo1n (g := I) (ys := ([((r1.length : Nat) : Int) - 1, 9999, 10000] : List Int)) (o := r_5_6.toNat) 0 hs15 3 rfl rfl (by first | omega | (simp; omega)) one3) ?_
          refine nl (kq ⟨_, hs15, memi 0 rfl, trivial⟩ ?_)
          refine tk (fuel := 1) (is := [9]) (.cons rfl (.nil)) (by kernel_rfl) (by kernel_rfl) ⟨_, hs15, memi 0 rfl, trivial⟩ ?_
          refine .op trivial rfl rfl (fun wq _ => fa 1 fo25_1 rfl) ?_
          refine .nil ?_
          refine a1 (i := 10) (by kernel_rfl) ?_
          refine one_ rfl ?_
          refine st (v := .int .i64 (([((r1.length : Nat) : Int) - 1, 9999, 10000] : List Int).getD r_5_6.toNat 0)) hs15 2 rfl rfl rfl rfl rfl one3 trivial (fun w14 (hs16 : SH w w14 [rb] [.blk b1 25 [.slice none 0 0, .int .i64 0, .bool false], .own A1 r1.length c1 3 1 (r1.map I), .own (some ⟨b_5_4, 0, none⟩) (([((r1.length : Nat) : Int) - 1, 9999, 10000] : List Int).length) 3 3 1 (([((r1.length : Nat) : Int) - 1, 9999, 10000] : List Int).map I), .blk rb 60 [.slice Ab bs.length cb, .int .i64 ((q_5_6 : Nat) : Int)], .blk b2 25 [.slice A1 r1.length c1, .int .i64 (([((r1.length : Nat) : Int) - 1, 9999, 10000] : List Int).getD r_5_6.toNat 0), .bool (decide (r2 = 0))]]) => ?_)
          refine nl (kq ⟨_, hs16, memi 0 rfl, trivial⟩ ?_)
          refine ad (by kernel_rfl) ?_
          exact ⟨b_5_4, r_5_6, q_5_6, ⟨rfl, rfl, trivial⟩, p13, p14, hs16⟩
        · refine one_ rfl ?_
          refine cl trivial rfl (pick (rb := rb) (Ab := Ab) (cb := cb) (bs := bs) (p := q3) (n := 3) (w := _) (hr := (blk_heap hs13 3 rfl)) (hb := (hb.up hs13 (fun _ h => h) (fun _ h => .inl h))) (hbn := (by first | assumption | (simp; omega))) (hp := (by omega))) ?_
          rintro _ w15 ⟨r_5_6, q_5_6, rfl, p15, p16, hs17'⟩
          have hs17 : SH w w15 [rb] [.blk b1 25 [.slice none 0 0, .int .i64 0, .bool false], .own A1 r1.length c1 3 1 (r1.map I), .blk b2 25 [.slice A1 r1.length c1, .int .i64 (((r1.length : Nat) : Int) + r_2_4), .bool (decide (r2 = 0))], .blk rb 60 [.slice Ab bs.length cb, .int .i64 ((q_5_6 : Nat) : Int)]] := hs13.callM 3 rfl hs17' (by intro k hk; simp at hk; exact hk.symm)
          clear hs17'
          refine nl (kq ⟨_, hs17, memi 0 rfl, trivial⟩ ?_)
          refine a1 (i := 4) (by kernel_rfl) ?_
          refine one_ rfl ?_
          refine Go.PF.bs hs17 sl23 [(0, .int .i64 (((r1.length : Nat) : Int) - 1)), (1, .int .i64 9999), (2, .int .i64 10000)] rfl (cs := [.int .i64 (((r1.length : Nat) : Int) - 1), .int .i64 9999, .int .i64 10000]) (by kernel_rfl) rfl (by decide) (by decide) trivial rfl (fun b_5_4 w16 (hs18 : SH w w16 [rb] [.blk b1 25 [.slice none 0 0, .int .i64 0, .bool false], .own A1 r1.length c1 3 1 (r1.map I), .blk b2 25 [.slice A1 r1.length c1, .int .i64 (((r1.length : Nat) : Int) + r_2_4), .bool (decide (r2 = 0))], .blk rb 60 [.slice Ab bs.length cb, .int .i64 ((q_5_6 : Nat) : Int)], .own (some ⟨b_5_4, 0, none⟩) (([((r1.length : Nat) : Int) - 1, 9999, 10000] : List Int).length) 3 3 1 (([((r1.length : Nat) : Int) - 1, 9999, 10000] : List Int).map I)]) => ?_)
          refine nl (kq ⟨_, hs18, memi 0 rfl, trivial⟩ ?_)
          refine tk (fuel := 3) (is := [7]) (.cons rfl (.nil)) (by kernel_rfl) (by kernel_rfl) ⟨_, hs18, memi 0 rfl, trivial⟩ ?_
          refine .op trivial rfl rfl (fun wq _ => ixo r_5_6.toNat sl23 rfl (ieq (x := r_5_6) (by omega)) (by first | omega | (simp; omega))) ?_
          refine .nil ?_
          refine a1 (i := 8) (by kernel_rfl) ?_
          refine one_ rfl ?_
          refine q trivial rfl rfl (ldo1n (g := I) (ys := ([((r1.length : Nat) : Int) - 1, 9999, 10000] : List Int)) (o := r_5_6.toNat) 0 hs18 4 rfl rfl (by first | omega | (simp; omega)) one3) ?_
          refine nl (kq ⟨_, hs18, memi 0 rfl, trivial⟩ ?_)
          refine tk (fuel := 1) (is := [9]) (.cons rfl (.nil)) (by kernel_rfl) (by kernel_rfl) ⟨_, hs18, memi 0 rfl, trivial⟩ ?_
          refine .op trivial rfl rfl (fun wq _ => fa 1 fo25_1 rfl) ?_
          refine .nil ?_
          refine a1 (i := 10) (by kernel_rfl) ?_
          refine one_ rfl ?_
          refine st (v := .int .i64 (([((r1.length : Nat) : Int) - 1, 9999, 10000] : List Int).getD r_5_6.toNat 0)) hs18 2 rfl rfl rfl rfl rfl one3 trivial (fun w17 (hs19 : SH w w17 [rb] [.blk b1 25 [.slice none 0 0, .int .i64 0, .bool false], .own A1 r1.length c1 3 1 (r1.map I), .blk rb 60 [.slice Ab bs.length cb, .int .i64 ((q_5_6 : Nat) : Int)], .own (some ⟨b_5_4, 0, none⟩) (([((r1.length : Nat) : Int) - 1, 9999, 10000] : List Int).length) 3 3 1 (([((r1.length : Nat) : Int) - 1, 9999, 10000] : List Int).map I), .blk b2 25 [.slice A1 r1.length c1, .int .i64 (([((r1.length : Nat) : Int) - 1, 9999, 10000] : List Int).getD r_5_6.toNat 0), .bool (decide (r2 = 0))]]) => ?_)
          refine nl (kq ⟨_, hs19, memi 0 rfl, trivial⟩ ?_)
          refine ad (by kernel_rfl) ?_
          exact ⟨b_5_4, r_5_6, q_5_6, ⟨rfl, rfl, trivial⟩, p15, p16, (hs19.pick [0, 1, 3, 2, 4] rfl (by decide))⟩
      · refine one_ rfl ?_
        refine cl trivial rfl (pick (rb := rb) (Ab := Ab) (cb := cb) (bs := bs) (p := q3) (n := 3) (w := _) (hr := (blk_heap hs13 3 rfl)) (hb := (hb.up hs13 (fun _ h => h) (fun _ h => .inl h))) (hbn := (by first | assumption | (simp; omega))) (hp := (by omega))) ?_
        rintro _ w18 ⟨r_5_6, q_5_6, rfl, p17, p18, hs20'⟩
        have hs20 : SH w w18 [rb] [.blk b1 25 [.slice none 0 0, .int .i64 0, .bool false], .own A1 r1.length c1 3 1 (r1.map I), .blk b2 25 [.slice A1 r1.length c1, .int .i64 (((r1.length : Nat) : Int) + r_2_4), .bool (decide (r2 = 0))], .blk rb 60 [.slice Ab bs.length cb, .int .i64 ((q_5_6 : Nat) : Int)]] := hs13.callM 3 rfl hs20' (by intro k hk; simp at hk; exact hk.symm)
        clear hs20'
        refine nl (kq ⟨_, hs20, memi 0 rfl, trivial⟩ ?_)
        refine a1 (i := 1) (by kernel_rfl) ?_
        refine one_ rfl ?_
        refine q trivial rfl rfl (ld (v := .slice A1 r1.length c1) hs20 2 rfl rfl rfl one23) ?_
        refine nl (kq ⟨_, hs20, memi 0 rfl, trivial⟩ ?_)
        refine tk (fuel := 5) (is := [2, 3]) (.cons rfl (.cons rfl (.nil))) (by kernel_rfl) (by kernel_rfl) ⟨_, hs20, memi 0 rfl, trivial⟩ ?_
        refine .op trivial rfl rfl (fun wq _ => lnA (n := r1.length) sl23 rfl) ?_
        refine .op trivial rfl rfl (fun wq _ => sub (a := ((r1.length : Nat) : Int)) (b := 1) rfl rfl (by exact ⟨by omega, by omega⟩)) ?_
        refine .nil ?_
        refine a1 (i := 4) (by kernel_rfl) ?_
        refine one_ rfl ?_
        refine Go.PF.bs hs20 sl23 [(0, .int .i64 (((r1.length : Nat) : Int) - 1)), (1, .int .i64 9999), (2, .int .i64 10000)] rfl (cs := [.int .i64 (((r1.length : Nat) : Int) - 1), .int .i64 9999, .int .i64 10000]) (by kernel_rfl) rfl (by decide) (by decide) trivial rfl (fun b_5_4 w19 (hs21 : SH w w19 [rb] [.blk b1 25 [.slice none 0 0, .int .i64 0, .bool false], .own A1 r1.length c1 3 1 (r1.map I), .blk b2 25 [.slice A1 r1.length c1, .int .i64 (((r1.length : Nat) : Int) + r_2_4), .bool (decide (r2 = 0))], .blk rb 60 [.slice Ab bs.length cb, .int .i64 ((q_5_6 : Nat) : Int)], .own (some ⟨b_5_4, 0, none⟩) (([((r1.length : Nat) : Int) - 1, 9999, 10000] : List Int).length) 3 3 1 (([((r1.length : Nat) : Int) - 1, 9999, 10000] : List Int).map I)]) => ?_)
        refine nl (kq ⟨_, hs21, memi 0 rfl, trivial⟩ ?_)
        refine tk (fuel := 3) (is := [7]) (.cons rfl (.nil)) (by kernel_rfl) (by kernel_rfl) ⟨_, hs21, memi 0 rfl, trivial⟩ ?_
        refine .op trivial rfl rfl (fun wq _ => ixo r_5_6.toNat sl23 rfl (ieq (x := r_5_6) (by omega)) (by first | omega | (simp; omega))) ?_
        refine .nil ?_
        refine a1 (i := 8) (by kernel_rfl) ?_
        refine one_ rfl ?_
        refine q trivial rfl rfl (ldo1n (g := I) (ys := ([((r1.length : Nat) : Int) - 1, 9999, 10000] : List Int)) (o := r_5_6.toNat) 0 hs21 4 rfl rfl (by first | omega | (simp; omega)) one3) ?_
        refine nl (kq ⟨_, hs21, memi 0 rfl, trivial⟩ ?_)
        refine tk (fuel := 1) (is := [9]) (.cons rfl (.nil)) (by kernel_rfl) (by kernel_rfl) ⟨_, hs21, memi 0 rfl, trivial⟩ ?_
        refine .op trivial rfl rfl (fun wq _ => fa 1 fo25_1 rfl) ?_
        refine .nil ?_
        refine a1 (i := 10) (by kernel_rfl) ?_
        refine one_ rfl ?_
        refine st (v := .int .i64 (([((r1.length : Nat) : Int) - 1, 9999, 10000] : List Int).getD r_5_6.toNat 0)) hs21 2 rfl rfl rfl rfl rfl one3 trivial (fun w20 (hs22 : SH w w20 [rb] [.blk b1 25 [.slice none 0 0, .int .i64 0, .bool false], .own A1 r1.length c1 3 1 (r1.map I), .blk rb 60 [.slice Ab bs.length cb, .int .i64 ((q_5_6 : Nat) : Int)], .own (some ⟨b_5_4, 0, none⟩) (([((r1.length : Nat) : Int) - 1, 9999, 10000] : List Int).length) 3 3 1 (([((r1.length : Nat) : Int) - 1, 9999, 10000] : List Int).map I), .blk b2 25 [.slice A1 r1.length c1, .int .i64 (([((r1.length : Nat) : Int) - 1, 9999, 10000] : List Int).getD r_5_6.toNat 0), .bool (decide (r2 = 0))]]) => ?_)
        refine nl (kq ⟨_, hs22, memi 0 rfl, trivial⟩ ?_)
        refine ad (by kernel_rfl) ?_
        exact ⟨b_5_4, r_5_6, q_5_6, ⟨rfl, rfl, trivial⟩, p17, p18, (hs22.pick [0, 1, 3, 2, 4] rfl (by decide))⟩
    rintro f w21 ⟨b_5_4, r_5_6, q_5_6, hf, p19, p20, hs23⟩
    obtain ⟨g2, rfl⟩ := has_upd hf
    clear hf
    refine bN ?_
    refine nN ?_
    refine sq ?_
    refine rg ?_
    refine q trivial rfl rfl (ldg (vs := [.slice A1 r1.length c1, .int .i64 (([((r1.length : Nat) : Int) - 1, 9999, 10000] : List Int).getD r_5_6.toNat 0), .bool (decide (r2 = 0))]) hs23 4 rfl rfl rfl rfl ag25) ?_
    refine stg (vs := [.slice A1 r1.length c1, .int .i64 (([((r1.length : Nat) : Int) - 1, 9999, 10000] : List Int).getD r_5_6.toNat 0), .bool (decide (r2 = 0))]) hs23 0 rfl rfl rfl rfl rfl rfl rfl ag25 trivial (fun w22 (hs24 : SH w w22 [rb] [.own A1 r1.length c1 3 1 (r1.map I), .own (some ⟨b_5_4, 0, none⟩) (([((r1.length : Nat) : Int) - 1, 9999, 10000] : List Int).length) 3 3 1 (([((r1.length : Nat) : Int) - 1, 9999, 10000] : List Int).map I), .blk rb 60 [.slice Ab bs.length cb, .int .i64 ((q_5_6 : Nat) : Int)], .blk b2 25 [.slice A1 r1.length c1, .int .i64 (([((r1.length : Nat) : Int) - 1, 9999, 10000] : List Int).getD r_5_6.toNat 0), .bool (decide (r2 = 0))], .blk b1 25 [.slice A1 r1.length c1, .int .i64 (([((r1.length : Nat) : Int) - 1, 9999, 10000] : List Int).getD r_5_6.toNat 0), .bool (decide (r2 = 0))]]) => ?_)
    refine nl ?_
    refine nN ?_
    have hs25 : SH w w22 [rb] [.own A1 r1.length c1 3 1 (r1.map I), .blk rb 60 [.slice Ab bs.length cb, .int .i64 ((q_5_6 : Nat) : Int)], .blk b1 25 [.slice A1 r1.length c1, .int .i64 (([((r1.length : Nat) : Int) - 1, 9999, 10000] : List Int).getD r_5_6.toNat 0), .bool (decide (r2 = 0))]] := hs24.pick [0, 2, 4] rfl (by decide)
    refine rt ?_
    refine fret (v := .agg #[.slice A1 r1.length c1, .int .i64 (([((r1.length : Nat) : Int) - 1, 9999, 10000] : List Int).getD r_5_6.toNat 0), .bool (decide (r2 = 0))]) (resC hs25 2 rfl rfl ag25 rfl .nil) rfl ?_
    exact ⟨A1, c1, r1, ([((r1.length : Nat) : Int) - 1, 9999, 10000] : List Int).getD r_5_6.toNat 0, (decide (r2 = 0)), q_5_6, rfl, (by first | assumption | omega | (simp; omega)), (by first | assumption | omega | (simp; omega)), (hs25.pick [1, 0] rfl (by decide))⟩
  · refine sq ?_
    refine rg ?_
    refine q trivial rfl rfl (eqi (k := .i64) (a := r3) (b := 1) rfl rfl) ?_
    refine q trivial rfl rfl (asg (v := .bool (decide (r3 = 1))) rfl) ?_
    refine nl ?_
    refine nN ?_
    refine cdd (p := r3 = 1) rfl (fun h2 => ?_) (fun h2 => ?_)
    · refine sq ?_
      refine rg ?_
      refine q trivial rfl rfl (mv (v := .pointer (some ⟨rb, 0, none⟩)) rfl) ?_
      refine cl trivial rfl (pick (rb := rb) (Ab := Ab) (cb := cb) (bs := bs) (p := q3) (n := 2) (w := _) (hr := (blk_heap hs12 3 rfl)) (hb := (hb.up hs12 (fun _ h => h) (fun _ h => .inl h))) (hbn := (by first | assumption | (simp; omega))) (hp := (by omega))) ?_
      rintro _ w23 ⟨r4, q4, rfl, p21, p22, hs26'⟩
      have hs26 : SH w w23 [rb] [.blk b1 25 [.slice none 0 0, .int .i64 0, .bool false], .own A1 r1.length c1 3 1 (r1.map I), .blk b2 25 [.slice A1 r1.length c1, .int .i64 (((r1.length : Nat) : Int) + r_2_4), .bool (decide (r2 = 0))], .blk rb 60 [.slice Ab bs.length cb, .int .i64 ((q4 : Nat) : Int)]] := hs12.callM 3 rfl hs26' (by intro k hk; simp at hk; exact hk.symm)
      clear hs26'
      refine q trivial rfl rfl (add (a := 16) (b := r4) rfl rfl (by exact ⟨by omega, by omega⟩)) ?_
      refine mkm (g := I) (z := 0) (n := (16 + r4).toNat) hs26 sl23 rfl (ieq (x := 16 + r4) (by omega)) (ieq (x := 16 + r4) (by omega)) (by omega) (by unfold maxLen; omega) trivial rfl (fun b3 w24 (hs27 : SH w w24 [rb] [.blk b1 25 [.slice none 0 0, .int .i64 0, .bool false], .own A1 r1.length c1 3 1 (r1.map I), .blk b2 25 [.slice A1 r1.length c1, .int .i64 (((r1.length : Nat) : Int) + r_2_4), .bool (decide (r2 = 0))], .blk rb 60 [.slice Ab bs.length cb, .int .i64 ((q4 : Nat) : Int)], .own (some ⟨b3, 0, none⟩) ((List.replicate ((16 + r4).toNat) (0 : Int)).length) ((16 + r4).toNat) 3 1 ((List.replicate ((16 + r4).toNat) (0 : Int)).map I)]) => ?_)
      refine q trivial rfl rfl (fa 0 fo25_0 rfl) ?_
      refine st (v := .slice (some ⟨b3, 0, none⟩) ((List.replicate ((16 + r4).toNat) (0 : Int)).length) ((16 + r4).toNat)) hs27 2 rfl rfl rfl rfl rfl one23 trivial (fun w25 (hs28 : SH w w25 [rb] [.blk b1 25 [.slice none 0 0, .int .i64 0, .bool false], .own A1 r1.length c1 3 1 (r1.map I), .blk rb 60 [.slice Ab bs.length cb, .int .i64 ((q4 : Nat) : Int)], .own (some ⟨b3, 0, none⟩) ((List.replicate ((16 + r4).toNat) (0 : Int)).length) ((16 + r4).toNat) 3 1 ((List.replicate ((16 + r4).toNat) (0 : Int)).map I), .blk b2 25 [.slice (some ⟨b3, 0, none⟩) ((List.replicate ((16 + r4).toNat) (0 : Int)).length) ((16 + r4).toNat), .int .i64 (((r1.length : Nat) : Int) + r_2_4), .bool (decide (r2 = 0))]]) => ?_)
      refine nl ?_
      refine nN ?_
      refine rg ?_
      refine q trivial rfl rfl (fa 1 fo25_1 rfl) ?_
      refine st (v := .int .i64 20) hs28 4 rfl rfl rfl rfl rfl one3 trivial (fun w26 (hs29 : SH w w26 [rb] [.blk b1 25 [.slice none 0 0, .int .i64 0, .bool false], .own A1 r1.length c1 3 1 (r1.map I), .blk rb 60 [.slice Ab bs.length cb, .int .i64 ((q4 : Nat) : Int)], .own (some ⟨b3, 0, none⟩) ((List.replicate ((16 + r4).toNat) (0 : Int)).length) ((16 + r4).toNat) 3 1 ((List.replicate ((16 + r4).toNat) (0 : Int)).map I), .blk b2 25 [.slice (some ⟨b3, 0, none⟩) ((List.replicate ((16 + r4).toNat) (0 : Int)).length) ((16 + r4).toNat), .int .i64 20, .bool (decide (r2 = 0))]]) => ?_)
      refine nl ?_
      refine bN ?_
      refine nN ?_
      refine sq ?_
      refine rg ?_
      refine q trivial rfl rfl (ldg (vs := [.slice (some ⟨b3, 0, none⟩) ((List.replicate ((16 + r4).toNat) (0 : Int)).length) ((16 + r4).toNat), .int .i64 20, .bool (decide (r2 = 0))]) hs29 4 rfl rfl rfl rfl ag25) ?_
      refine stg (vs := [.slice (some ⟨b3, 0, none⟩) ((List.replicate ((16 + r4).toNat) (0 : Int)).length) ((16 + r4).toNat), .int .i64 20, .bool (decide (r2 = 0))]) hs29 0 rfl rfl rfl rfl rfl rfl rfl ag25 trivial (fun w27 (hs30 : SH w w27 [rb] [.own A1 r1.length c1 3 1 (r1.map I), .blk rb 60 [.slice Ab bs.length cb, .int .i64 ((q4 : Nat) : Int)], .own (some ⟨b3, 0, none⟩) ((List.replicate ((16 + r4).toNat) (0 : Int)).length) ((16 + r4).toNat) 3 1 ((List.replicate ((16 + r4).toNat) (0 : Int)).map I), .blk b2 25 [.slice (some ⟨b3, 0, none⟩) ((List.replicate ((16 + r4).toNat) (0 : Int)).length) ((16 + r4).toNat), .int .i64 20, .bool (decide (r2 = 0))], .blk b1 25 [.slice (some ⟨b3, 0, none⟩) ((List.replicate ((16 + r4).toNat) (0 : Int)).length) ((16 + r4).toNat), .int .i64 20, .bool (decide (r2 = 0))]]) => ?_)
      refine nl ?_
      refine nN ?_
      have hs31 : SH w w27 [rb] [.blk rb 60 [.slice Ab bs.length cb, .int .i64 ((q4 : Nat) : Int)], .own (some ⟨b3, 0, none⟩) ((List.replicate ((16 + r4).toNat) (0 : Int)).length) ((16 + r4).toNat) 3 1 ((List.replicate ((16 + r4).toNat) (0 : Int)).map I), .blk b1 25 [.slice (some ⟨b3, 0, none⟩) ((List.replicate ((16 + r4).toNat) (0 : Int)).length) ((16 + r4).toNat), .int .i64 20, .bool (decide (r2 = 0))]] := hs30.pick [1, 2, 4] rfl (by decide)
      refine rt ?_
      refine fret (v := .agg #[.slice (some ⟨b3, 0, none⟩) ((List.replicate ((16 + r4).toNat) (0 : Int)).length) ((16 + r4).toNat), .int .i64 20, .bool (decide (r2 = 0))]) (resC hs31 2 rfl rfl ag25 rfl .nil) rfl ?_
      exact ⟨(some ⟨b3, 0, none⟩), (16 + r4).toNat, List.replicate ((16 + r4).toNat) (0 : Int), 20, (decide (r2 = 0)), q4, rfl, (by first | assumption | omega | (simp; omega)), (by first | assumption | omega | (simp; omega)), (hs31.pick [0, 1] rfl (by decide))⟩
    · refine sk ?_
      refine bN ?_
      refine nN ?_
      refine sq ?_
      refine rg ?_
      refine q trivial rfl rfl (ldg (vs := [.slice A1 r1.length c1, .int .i64 (((r1.length : Nat) : Int) + r_2_4), .bool (decide (r2 = 0))]) hs12 2 rfl rfl rfl rfl ag25) ?_
      refine stg (vs := [.slice A1 r1.length c1, .int .i64 (((r1.length : Nat) : Int) + r_2_4), .bool (decide (r2 = 0))]) hs12 0 rfl rfl rfl rfl rfl rfl rfl ag25 trivial (fun w28 (hs32 : SH w w28 [rb] [.own A1 r1.length c1 3 1 (r1.map I), .blk b2 25 [.slice A1 r1.length c1, .int .i64 (((r1.length : Nat) : Int) + r_2_4), .bool (decide (r2 = 0))], .blk rb 60 [.slice Ab bs.length cb, .int .i64 ((q3 : Nat) : Int)], .blk b1 25 [.slice A1 r1.length c1, .int .i64 (((r1.length : Nat) : Int) + r_2_4), .bool (decide (r2 = 0))]]) => ?_)
      refine nl ?_
      refine nN ?_
      refine rt ?_
      refine fret (v := .agg #[.slice A1 r1.length c1, .int .i64 (((r1.length : Nat) : Int) + r_2_4), .bool (decide (r2 = 0))]) (resC hs32 3 rfl rfl ag25 rfl .nil) rfl ?_
      exact ⟨A1, c1, r1, ((r1.length : Nat) : Int) + r_2_4, (decide (r2 = 0)), q3, rfl, (by first | assumption | omega | (simp; omega)), (by first | assumption | omega | (simp; omega)), (hs32.pick [2, 0] rfl (by decide))⟩

theorem drawPipeValid {Acs : Option Addr} {ccs : Nat} (cs : List UInt8) (w : World) (hcs : Sl w [] 1 Acs cs.length ccs (cs.map U)) : Does Try.prog 16 [.slice Acs cs.length ccs] w (fun v w' => ∃ Ar : Option Addr, ∃ cr : Nat, ∃ r : List Int, ∃ ni : Int, ∃ eb : Bool, v = .agg #[.slice Ar r.length cr, .int .i64 ni, .bool eb] ∧ (r.length ≤ 17) ∧ SH w w' [] [.own Ar r.length cr 3 1 (r.map I)]) := by
  refine fn_enter (N := 6) Try.func16 rfl (by kernel_rfl) rfl rfl rfl ?_
  have hs0 : SH w w [] [] := SH.refl w []
  have hcs_m : cs.length ≤ 9223372036854775807 := Nat.le_trans hcs.cap hcs.capMax
  refine sq ?_
  refine rg ?_
  refine al (v := .agg #[.slice none 0 0, .int .i64 0, .bool false]) (cs := [.slice none 0 0, .int .i64 0, .bool false]) hs0 tz25 rfl trivial rfl (fun b1 w1 (hs1 : SH w w1 [] [.blk b1 25 [.slice none 0 0, .int .i64 0, .bool false]]) => ?_)
  refine nl ?_
  refine nN ?_
  refine sq ?_
  refine rg ?_
  refine q trivial rfl rfl (mv (v := .slice Acs cs.length ccs) rfl) ?_
  refine cl trivial rfl (l6Open (Acs := Acs) (ccs := ccs) (cs := cs) (w := _) (hcs := (hcs.up0 hs1))) ?_
  rintro _ w2 ⟨g1, rfl, hs2'⟩
  have hs2 : SH w w2 [] [.blk b1 25 [.slice none 0 0, .int .i64 0, .bool false], .blk g1 60 [.slice Acs ((cs.take 2000).length) ccs, .int .i64 0]] := hs1.call0 hs2'
  clear hs2'
  refine cl trivial rfl (l92Pipe (rb := g1) (Ab := Acs) (cb := ccs) (bs := cs.take 2000) (p := 0) (w := _) (hr := (blk_heap hs2 1 rfl)) (hb := (Sl.take_ (hcs.up hs2 (by simp) (fun k h => .inr (hs2.lo1 1 rfl k h))) 2000)) (hbn := (by first | assumption | (simp; omega))) (hp := (by omega))) ?_
  rintro _ w3 ⟨A1, c1, r1, ni1, eb1, q1, rfl, p1, p2, hs3'⟩
  have hs3 : SH w w3 [] [.blk b1 25 [.slice none 0 0, .int .i64 0, .bool false], .blk g1 60 [.slice Acs ((cs.take 2000).length) ccs, .int .i64 ((q1 : Nat) : Int)], .own A1 r1.length c1 3 1 (r1.map I)] := hs2.callM 1 rfl hs3' (by intro k hk; simp at hk; exact hk.symm)
  clear hs3'
  refine stg (vs := [.slice A1 r1.length c1, .int .i64 ni1, .bool eb1]) hs3 0 rfl rfl rfl rfl rfl rfl rfl ag25 trivial (fun w4 (hs4 : SH w w4 [] [.blk g1 60 [.slice Acs ((cs.take 2000).length) ccs, .int .i64 ((q1 : Nat) : Int)], .own A1 r1.length c1 3 1 (r1.map I), .blk b1 25 [.slice A1 r1.length c1, .int .i64 ni1, .bool eb1]]) => ?_)
  refine nl ?_
  refine nN ?_
  refine rt ?_
  refine fret (v := .agg #[.slice A1 r1.length c1, .int .i64 ni1, .bool eb1]) (resC hs4 2 rfl rfl ag25 rfl .nil) rfl ?_
  exact ⟨A1, c1, r1, ni1, eb1, rfl, (by first | assumption | omega | (simp; omega)), (hs4.pick [1] rfl (by decide))⟩


end Go.Proofs.Ytgefaejgkcbkpaa
