/-
  Part of the proofs over this seat: what each function of the program computes, function by function (the text is written by a program of this hand-in's own).
  Conditions: each theorem states its own.
-/
import Derived.Test.YthpdfolobbacpaaProg
import Derived.KernelRfl
import Derived.Test.YthpdfolobbacpaaPfBase
namespace Go.Proofs.Ythpdfolobbacpaa
open Go.PF
set_option maxRecDepth 100000
theorem fo41_0 : fieldOk Try.prog 41 0 0 = true := by kernel_rfl
theorem fo41_1 : fieldOk Try.prog 41 1 1 = true := by kernel_rfl
theorem fo55_0 : fieldOk Try.prog 55 0 0 = true := by kernel_rfl
theorem fo55_1 : fieldOk Try.prog 55 1 1 = true := by kernel_rfl
theorem mixed : Try.prog.follows .mixedOrders = true := by kernel_rfl
theorem one3 : oneOk Try.prog 3 = true := by kernel_rfl
theorem one31 : oneOk Try.prog 31 = true := by kernel_rfl
theorem one39 : oneOk Try.prog 39 = true := by kernel_rfl
theorem one5 : oneOk Try.prog 5 = true := by kernel_rfl
theorem one9 : oneOk Try.prog 9 = true := by kernel_rfl
theorem sl22 : SlT Try.prog 22 3 1 8 (.int .i64 0) := SlT.mk' (by kernel_rfl) (by kernel_rfl)
theorem sl31 : SlT Try.prog 31 5 1 1 (.int .u8 0) := SlT.mk' (by kernel_rfl) (by kernel_rfl)
theorem sl49 : SlT Try.prog 49 9 1 16 (Str []) := SlT.mk' (by kernel_rfl) (by kernel_rfl)
theorem st9 : Try.prog.underlying 9 = some .string := by kernel_rfl
theorem tb4 : Try.prog.underlying 4 = some .bool := by kernel_rfl
theorem ti3 : Try.prog.underlying 3 = some (.int .i64) := by kernel_rfl
theorem ti5 : Try.prog.underlying 5 = some (.int .u8) := by kernel_rfl
theorem tp39 : Try.prog.underlying 39 = some (.pointer 41) := by kernel_rfl
theorem tp53 : Try.prog.underlying 53 = some (.pointer 5) := by kernel_rfl
theorem tu58 : Try.prog.underlying 58 = some .unsafePointer := by kernel_rfl
theorem tz41 : (Try.prog.info? 41).bind (·.zero) = some (.agg #[.pointer none, .slice none 0 0]) := by kernel_rfl
theorem tz_41 : szOk Try.prog 41 = true := by kernel_rfl
theorem sIn (x : Int) (lo : Int) (hi : Int) (w : World)  : Does Try.prog 30 [.int .i64 x, .int .i64 lo, .int .i64 hi] w (fun v w' => v = .bool (decide (lo ≤ x ∧ x ≤ hi)) ∧ SH w w' [] []) := by
  refine fn_enter (N := 15) Try.func30 rfl (by kernel_rfl) rfl rfl rfl ?_
  have hs0 : SH w w [] [] := SH.refl w []
  refine sq ?_
  refine rg ?_
  refine q trivial rfl rfl (asg (v := .bool false) rfl) ?_
  refine nl ?_
  refine nN ?_
  refine sq ?_
  refine rg ?_
  refine q trivial rfl rfl (mv (v := .int .i64 x) rfl) ?_
  refine q trivial rfl rfl (mv (v := .int .i64 lo) rfl) ?_
  refine q trivial rfl rfl (geq (k := .i64) (a := x) (b := lo) rfl rfl) ?_
  refine q trivial rfl rfl (mv (v := .bool (decide (lo ≤ x))) rfl) ?_
  refine spd (p := lo ≤ x) 10 rfl (fun h1 => ?_) (fun h1 => ?_)
  · refine q ⟨_, rfl, rfl⟩ rfl rfl (mv (v := .int .i64 x) rfl) ?_
    refine q ⟨_, rfl, rfl⟩ rfl rfl (mv (v := .int .i64 hi) rfl) ?_
    refine q ⟨_, rfl, rfl⟩ rfl rfl (leq (k := .i64) (a := x) (b := hi) rfl rfl) ?_
    refine q trivial rfl rfl (pt (v := .bool (decide (x ≤ hi))) rfl rfl) ?_
    refine q trivial rfl rfl (asg (v := .bool (decide (x ≤ hi))) rfl) ?_
    refine nl ?_
    refine nN ?_
    refine rt ?_
    refine fret (v := .bool (decide (x ≤ hi))) (.tmp .nil) rfl ?_
    have e1 : (decide (x ≤ hi)) = (decide (lo ≤ x ∧ x ≤ hi)) := by simp [*]
    exact ⟨(congrArg (Value.bool) e1), hs0⟩
  · refine gk false rfl rfl rfl rfl rfl ?_
    refine gk false rfl rfl rfl rfl rfl ?_
    refine gk false rfl rfl rfl rfl rfl ?_
    refine q trivial rfl rfl (pf (v := .bool false) rfl rfl) ?_
    refine q trivial rfl rfl (asg (v := .bool false) rfl) ?_
    refine nl ?_
    refine nN ?_
    refine rt ?_
    refine fret (v := .bool false) (.tmp .nil) rfl ?_
    have e2 : false = (decide (lo ≤ x ∧ x ≤ hi)) := by simp [*]
    exact ⟨(congrArg (Value.bool) e2), hs0⟩

theorem iWithin (x : Int) (lo : Int) (hi : Int) (w : World)  : Does Try.prog 33 [.int .i64 x, .int .i64 lo, .int .i64 hi] w (fun v w' => v = .bool (decide (lo ≤ x ∧ x ≤ hi)) ∧ SH w w' [] []) := by
  refine fn_enter (N := 15) Try.func33 rfl (by kernel_rfl) rfl rfl rfl ?_
  have hs0 : SH w w [] [] := SH.refl w []
  refine sq ?_
  refine rg ?_
  refine q trivial rfl rfl (asg (v := .bool false) rfl) ?_
  refine nl ?_
  refine nN ?_
  refine sq ?_
  refine rg ?_
  refine q trivial rfl rfl (mv (v := .int .i64 x) rfl) ?_
  refine q trivial rfl rfl (mv (v := .int .i64 lo) rfl) ?_
  refine q trivial rfl rfl (geq (k := .i64) (a := x) (b := lo) rfl rfl) ?_
  refine q trivial rfl rfl (mv (v := .bool (decide (lo ≤ x))) rfl) ?_
  refine spd (p := lo ≤ x) 10 rfl (fun h1 => ?_) (fun h1 => ?_)
  · refine q ⟨_, rfl, rfl⟩ rfl rfl (mv (v := .int .i64 x) rfl) ?_
    refine q ⟨_, rfl, rfl⟩ rfl rfl (mv (v := .int .i64 hi) rfl) ?_
    refine q ⟨_, rfl, rfl⟩ rfl rfl (leq (k := .i64) (a := x) (b := hi) rfl rfl) ?_
    refine q trivial rfl rfl (pt (v := .bool (decide (x ≤ hi))) rfl rfl) ?_
    refine q trivial rfl rfl (asg (v := .bool (decide (x ≤ hi))) rfl) ?_
    refine nl ?_
    refine nN ?_
    refine rt ?_
    refine fret (v := .bool (decide (x ≤ hi))) (.tmp .nil) rfl ?_
    have e1 : (decide (x ≤ hi)) = (decide (lo ≤ x ∧ x ≤ hi)) := by simp [*]
    exact ⟨(congrArg (Value.bool) e1), hs0⟩
  · refine gk false rfl rfl rfl rfl rfl ?_
    refine gk false rfl rfl rfl rfl rfl ?_
    refine gk false rfl rfl rfl rfl rfl ?_
    refine q trivial rfl rfl (pf (v := .bool false) rfl rfl) ?_
    refine q trivial rfl rfl (asg (v := .bool false) rfl) ?_
    refine nl ?_
    refine nN ?_
    refine rt ?_
    refine fret (v := .bool false) (.tmp .nil) rfl ?_
    have e2 : false = (decide (lo ≤ x ∧ x ≤ hi)) := by simp [*]
    exact ⟨(congrArg (Value.bool) e2), hs0⟩

theorem iBV1 (x : Int) (w : World)  : Does Try.prog 32 [.int .i64 x] w (fun v w' => v = .bool (decide (¬ (0 ≤ x ∧ x ≤ 255))) ∧ SH w w' [] []) := by
  refine fn_enter (N := 6) Try.func32 rfl (by kernel_rfl) rfl rfl rfl ?_
  have hs0 : SH w w [] [] := SH.refl w []
  refine sq ?_
  refine rg ?_
  refine q trivial rfl rfl (asg (v := .bool false) rfl) ?_
  refine nl ?_
  refine nN ?_
  refine sq ?_
  refine rg ?_
  refine q trivial rfl rfl (mv (v := .int .i64 x) rfl) ?_
  refine cl trivial rfl (iWithin (x := x) (lo := 0) (hi := 255) (w := _)) ?_
  rintro _ w1 ⟨rfl, hs1'⟩
  have hs1 : SH w w1 [] [] := hs0.call0 hs1'
  clear hs1'
  refine q trivial rfl rfl (nd (p := 0 ≤ x ∧ x ≤ 255) rfl) ?_
  refine q trivial rfl rfl (asg (v := .bool (decide (¬ (0 ≤ x ∧ x ≤ 255)))) rfl) ?_
  refine nl ?_
  refine nN ?_
  refine rt ?_
  refine fret (v := .bool (decide (¬ (0 ≤ x ∧ x ≤ 255)))) (.tmp .nil) rfl ?_
  exact ⟨rfl, hs1⟩

theorem sBytesValid {Azs : Option Addr} {czs : Nat} (zs : List Int) (w : World) (hzs : Sl w [] 1 Azs zs.length czs (zs.map I)) : Does Try.prog 20 [.slice Azs zs.length czs] w (fun v w' => v = .bool (isBytes zs) ∧ SH w w' [] []) := by
  refine fn_enter (N := 19) Try.func20 rfl (by kernel_rfl) rfl rfl rfl ?_
  have hs0 : SH w w [] [] := SH.refl w []
  have hzs_m : zs.length ≤ 9223372036854775807 := Nat.le_trans hzs.cap hzs.capMax
  refine sq ?_
  refine rg ?_
  refine q trivial rfl rfl (asg (v := .bool false) rfl) ?_
  refine nl ?_
  refine nN ?_
  refine sq ?_
  refine sq ?_
  refine rg ?_
  refine q trivial rfl rfl (asg (v := .int .i64 0) rfl) ?_
  refine nl ?_
  refine nN ?_
  refine bl ?_
  refine lp (σ := Nat) (fun (k : Nat) f w' => Has f [(0, .slice Azs zs.length czs), (3, .int .i64 ((k : Nat) : Int))] ∧ (k ≤ zs.length) ∧ (allB (zs.take k) = true) ∧ SH w w' [] []) (fun k => zs.length - k) 0 ⟨⟨rfl, rfl, trivial⟩, (by simp), (by simp [allB]), hs0⟩ ?_
  rintro k f w1 ⟨hf, hk, ha, hs1⟩
  obtain ⟨g1, rfl⟩ := has_upd hf
  clear hf
  refine sq ?_
  refine sq ?_
  refine rg ?_
  refine q trivial rfl rfl (mv (v := .int .i64 ((k : Nat) : Int)) rfl) ?_
  refine q trivial rfl rfl (mv (v := .slice Azs zs.length czs) rfl) ?_
  refine q trivial rfl rfl (lnA (n := zs.length) sl22 rfl) ?_
  refine q trivial rfl rfl (lss (k := .i64) (a := ((k : Nat) : Int)) (b := ((zs.length : Nat) : Int)) rfl rfl) ?_
  refine nl ?_
  refine nN ?_
  refine cdd (p := ((k : Nat) : Int) < ((zs.length : Nat) : Int)) rfl (fun h1 => ?_) (fun h1 => ?_)
  · refine sk ?_
    refine nN ?_
    refine sq ?_
    refine bl ?_
    refine sq ?_
    refine rg ?_
    refine q trivial rfl rfl (mv (v := .slice Azs zs.length czs) rfl) ?_
    refine q trivial rfl rfl (mv (v := .int .i64 ((k : Nat) : Int)) rfl) ?_
    refine ixw1 k sl22 rfl rfl hzs (by first | omega | (simp; omega)) (getm I 0 (by first | omega | (simp; omega))) trivial rfl (fun a1 ha1 => ?_)
    refine q trivial rfl rfl (lda (v := .int .i64 (zs.getD k 0)) hs1 ha1 (fun _ h => h) rfl rfl one3) ?_
    refine cl trivial rfl (sIn (x := zs.getD k 0) (lo := 0) (hi := 255) (w := _)) ?_
    rintro _ w2 ⟨rfl, hs2'⟩
    have hs2 : SH w w2 [] [] := hs1.call0 hs2'
    clear hs2'
    refine q trivial rfl rfl (nd (p := 0 ≤ (zs.getD k 0) ∧ (zs.getD k 0) ≤ 255) rfl) ?_
    refine nl ?_
    refine nN ?_
    refine cdd (p := ¬ (0 ≤ (zs.getD k 0) ∧ (zs.getD k 0) ≤ 255)) rfl (fun h2 => ?_) (fun h2 => ?_)
    · refine sq ?_
      refine rg ?_
      refine q trivial rfl rfl (asg (v := .bool false) rfl) ?_
      refine nl ?_
      refine nN ?_
      refine rt (bR (tR (tR (bR (tR ?_)))))
      refine fret (v := .bool false) (.tmp .nil) rfl ?_
      have e1 : false = isBytes zs := by exact bytes_no1 (k := k) (by omega) (by simpa using h2)
      exact ⟨(congrArg (Value.bool) e1), hs2⟩
    · refine sk ?_
      refine bN ?_
      refine nN ?_
      refine rg ?_
      refine q trivial rfl rfl (mv (v := .int .i64 ((k : Nat) : Int)) rfl) ?_
      refine q trivial rfl rfl (add (a := ((k : Nat) : Int)) (b := 1) rfl rfl (by exact ⟨by omega, by omega⟩)) ?_
      refine q trivial rfl rfl (asg (v := .int .i64 (((k : Nat) : Int) + 1)) rfl) ?_
      refine nl ?_
      refine nN ?_
      refine ⟨(k + 1), ⟨⟨rfl, rfl, trivial⟩, (by omega), (allB_step (by omega) ha (by simpa using h2)), hs2⟩, ?_⟩
      omega
  · refine ex (tE (tE (bE ?_)))
    refine nN ?_
    refine sq ?_
    refine rg ?_
    refine q trivial rfl rfl (mv (v := .slice Azs zs.length czs) rfl) ?_
    refine q trivial rfl rfl (lnA (n := zs.length) sl22 rfl) ?_
    refine q trivial rfl rfl (leq (k := .i64) (a := ((zs.length : Nat) : Int)) (b := 120) rfl rfl) ?_
    refine q trivial rfl rfl (asg (v := .bool (decide (((zs.length : Nat) : Int) ≤ 120))) rfl) ?_
    refine nl ?_
    refine nN ?_
    refine rt ?_
    refine fret (v := .bool (decide (((zs.length : Nat) : Int) ≤ 120))) (.tmp .nil) rfl ?_
    have e2 : (decide (((zs.length : Nat) : Int) ≤ 120)) = isBytes zs := by exact bytes_yes (k := k) (by omega) ha
    exact ⟨(congrArg (Value.bool) e2), hs1⟩

theorem slIndexFunc (p : Int → Bool) {Azs : Option Addr} {czs : Nat} (zs : List Int) (kf : FuncId) (w : World) (hzs : Sl w [] 1 Azs zs.length czs (zs.map I)) (hf : ∀ (x : Int) (w : World), Does Try.prog kf [.int .i64 x] w (fun v w' => v = .bool (p x) ∧ SH w w' [] [])) : Does Try.prog 37 [.slice Azs zs.length czs, .func (.func kf) #[] #[]] w (fun v w' => v = .int .i64 (idxF p zs) ∧ SH w w' [] []) := by
  refine fn_enter (N := 19) Try.func37 rfl (by kernel_rfl) rfl rfl rfl ?_
  have hs0 : SH w w [] [] := SH.refl w []
  have hzs_m : zs.length ≤ 9223372036854775807 := Nat.le_trans hzs.cap hzs.capMax
  refine sq ?_
  refine rg ?_
  refine q trivial rfl rfl (asg (v := .int .i64 0) rfl) ?_
  refine nl ?_
  refine nN ?_
  refine sq ?_
  refine sq ?_
  refine rg ?_
  refine q trivial rfl rfl (mv (v := .slice Azs zs.length czs) rfl) ?_
  refine q trivial rfl rfl (lnA (n := zs.length) sl22 rfl) ?_
  refine q trivial rfl rfl (mv (v := .int .i64 0) rfl) ?_
  refine nl ?_
  refine nN ?_
  refine bl ?_
  refine lp (σ := Nat) (fun (k : Nat) f w' => Has f [(0, .slice Azs zs.length czs), (1, .func (.func kf) #[] #[]), (7, .int .i64 ((zs.length : Nat) : Int)), (8, .int .i64 ((k : Nat) : Int))] ∧ (k ≤ zs.length) ∧ (∀ j, j < k → p (zs.getD j 0) = false) ∧ SH w w' [] []) (fun k => zs.length - k) 0 ⟨⟨rfl, rfl, rfl, rfl, trivial⟩, (by simp), (by intro j hj; omega), hs0⟩ ?_
  rintro k f w1 ⟨hf, hk, hn, hs1⟩
  obtain ⟨g1, rfl⟩ := has_upd hf
  clear hf
  refine sq ?_
  refine rg ?_
  refine q trivial rfl rfl (lss (k := .i64) (a := ((k : Nat) : Int)) (b := ((zs.length : Nat) : Int)) rfl rfl) ?_
  refine nl ?_
  refine nN ?_
  refine sq ?_
  refine cdd (p := ((k : Nat) : Int) < ((zs.length : Nat) : Int)) rfl (fun h1 => ?_) (fun h1 => ?_)
  · refine sk ?_
    refine nN ?_
    refine sq ?_
    refine bl ?_
    refine sq ?_
    refine rg ?_
    refine q trivial rfl rfl (mv (v := .int .i64 ((k : Nat) : Int)) rfl) ?_
    refine q trivial rfl rfl (asg (v := .int .i64 ((k : Nat) : Int)) rfl) ?_
    refine nl ?_
    refine nN ?_
    refine sq ?_
    refine rg ?_
    refine q trivial rfl rfl (mv (v := .func (.func kf) #[] #[]) rfl) ?_
    refine q trivial rfl rfl (mv (v := .slice Azs zs.length czs) rfl) ?_
    refine q trivial rfl rfl (mv (v := .int .i64 ((k : Nat) : Int)) rfl) ?_
    refine ixw1 k sl22 rfl rfl hzs (by first | omega | (simp; omega)) (getm I 0 (by first | omega | (simp; omega))) trivial rfl (fun a1 ha1 => ?_)
    refine q trivial rfl rfl (lda (v := .int .i64 (zs.getD k 0)) hs1 ha1 (fun _ h => h) rfl rfl one3) ?_
    refine clv (k := kf) trivial rfl rfl (hf (zs.getD k 0) _) ?_
    rintro _ w2 ⟨rfl, hs2'⟩
    have hs2 : SH w w2 [] [] := hs1.call0 hs2'
    clear hs2'
    refine nl ?_
    refine nN ?_
    refine cd (b := p (zs.getD k 0)) rfl (fun h2 => ?_) (fun h2 => ?_)
    · refine sq ?_
      refine rg ?_
      refine q trivial rfl rfl (mv (v := .int .i64 ((k : Nat) : Int)) rfl) ?_
      refine q trivial rfl rfl (asg (v := .int .i64 ((k : Nat) : Int)) rfl) ?_
      refine nl ?_
      refine nN ?_
      refine rt (bR (tR (tR (bR (tR ?_)))))
      refine fret (v := .int .i64 ((k : Nat) : Int)) (.tmp .nil) rfl ?_
      have e1 : ((k : Nat) : Int) = idxF p zs := by exact idxF_eq (by omega) hn h2
      exact ⟨(congrArg (Value.int .i64) e1), hs2⟩
    · refine sk ?_
      refine bN ?_
      refine nN ?_
      refine rg ?_
      refine q trivial rfl rfl (add (a := ((k : Nat) : Int)) (b := 1) rfl rfl (by exact ⟨by omega, by omega⟩)) ?_
      refine q trivial rfl rfl (mv (v := .int .i64 (((k : Nat) : Int) + 1)) rfl) ?_
      refine nl ?_
      refine nN ?_
      refine ⟨(k + 1), ⟨⟨rfl, rfl, rfl, rfl, trivial⟩, (by omega), (by intro j hj; rcases Nat.lt_succ_iff_lt_or_eq.1 hj with h | h; exact hn j h; subst h; exact h2), hs2⟩, ?_⟩
      omega
  · refine ex (tE (tE (bE ?_)))
    refine nN ?_
    refine sq ?_
    refine rg ?_
    refine q trivial rfl rfl (asg (v := .int .i64 (-1)) rfl) ?_
    refine nl ?_
    refine nN ?_
    refine rt ?_
    refine fret (v := .int .i64 (-1)) (.tmp .nil) rfl ?_
    have e2 : (-1) = idxF p zs := by exact idxF_none (fun j hj => hn j (by omega))
    exact ⟨(congrArg (Value.int .i64) e2), hs1⟩

theorem slContainsFunc (p : Int → Bool) {Azs : Option Addr} {czs : Nat} (zs : List Int) (kf : FuncId) (w : World) (hzs : Sl w [] 1 Azs zs.length czs (zs.map I)) (hf : ∀ (x : Int) (w : World), Does Try.prog kf [.int .i64 x] w (fun v w' => v = .bool (p x) ∧ SH w w' [] [])) : Does Try.prog 31 [.slice Azs zs.length czs, .func (.func kf) #[] #[]] w (fun v w' => v = .bool (zs.any p) ∧ SH w w' [] []) := by
  refine fn_enter (N := 9) Try.func31 rfl (by kernel_rfl) rfl rfl rfl ?_
  have hs0 : SH w w [] [] := SH.refl w []
  have hzs_m : zs.length ≤ 9223372036854775807 := Nat.le_trans hzs.cap hzs.capMax
  refine sq ?_
  refine rg ?_
  refine q trivial rfl rfl (asg (v := .bool false) rfl) ?_
  refine nl ?_
  refine nN ?_
  refine sq ?_
  refine rg ?_
  refine q trivial rfl rfl (mv (v := .slice Azs zs.length czs) rfl) ?_
  refine q trivial rfl rfl (mv (v := .func (.func kf) #[] #[]) rfl) ?_
  refine cl trivial rfl (slIndexFunc (p := p) (Azs := Azs) (czs := czs) (zs := zs) (kf := kf) (w := _) (hzs := (hzs.up0 hs0)) (hf := hf)) ?_
  rintro _ w1 ⟨rfl, hs1'⟩
  have hs1 : SH w w1 [] [] := hs0.call0 hs1'
  clear hs1'
  refine q trivial rfl rfl (geq (k := .i64) (a := idxF p zs) (b := 0) rfl rfl) ?_
  refine q trivial rfl rfl (asg (v := .bool (decide ((0 : Int) ≤ (idxF p zs)))) rfl) ?_
  refine nl ?_
  refine nN ?_
  refine rt ?_
  refine fret (v := .bool (decide ((0 : Int) ≤ (idxF p zs)))) (.tmp .nil) rfl ?_
  have e1 : (decide ((0 : Int) ≤ (idxF p zs))) = zs.any p := by exact idxF_any p zs
  exact ⟨(congrArg (Value.bool) e1), hs1⟩

theorem iBytesValid {Azs : Option Addr} {czs : Nat} (zs : List Int) (w : World) (hzs : Sl w [] 1 Azs zs.length czs (zs.map I)) : Does Try.prog 21 [.slice Azs zs.length czs] w (fun v w' => v = .bool (isBytes zs) ∧ SH w w' [] []) := by
  refine fn_enter (N := 11) Try.func21 rfl (by kernel_rfl) rfl rfl rfl ?_
  have hs0 : SH w w [] [] := SH.refl w []
  have hzs_m : zs.length ≤ 9223372036854775807 := Nat.le_trans hzs.cap hzs.capMax
  refine sq ?_
  refine rg ?_
  refine q trivial rfl rfl (asg (v := .bool false) rfl) ?_
  refine nl ?_
  refine nN ?_
  refine sq ?_
  refine rg ?_
  refine q trivial rfl rfl (mv (v := .slice Azs zs.length czs) rfl) ?_
  refine q trivial rfl rfl (lnA (n := zs.length) sl22 rfl) ?_
  refine q trivial rfl rfl (leq (k := .i64) (a := ((zs.length : Nat) : Int)) (b := 120) rfl rfl) ?_
  refine q trivial rfl rfl (mv (v := .bool (decide (((zs.length : Nat) : Int) ≤ 120))) rfl) ?_
  refine spd (p := ((zs.length : Nat) : Int) ≤ 120) 6 rfl (fun h1 => ?_) (fun h1 => ?_)
  · refine q ⟨_, rfl, rfl⟩ rfl rfl (mv (v := .slice Azs zs.length czs) rfl) ?_
    refine cl ⟨_, rfl, rfl⟩ rfl (slContainsFunc (p := (fun x => (decide (¬ (0 ≤ x ∧ x ≤ 255))))) (Azs := Azs) (czs := czs) (zs := zs) (kf := 32) (w := _) (hzs := (hzs.up0 hs0)) (hf := (fun x w => iBV1 x w))) ?_
    rintro _ w1 ⟨rfl, hs1'⟩
    have hs1 : SH w w1 [] [] := hs0.call0 hs1'
    clear hs1'
    refine q ⟨_, rfl, rfl⟩ rfl rfl (nt (b := zs.any (fun x => (decide (¬ (0 ≤ x ∧ x ≤ 255))))) rfl) ?_
    refine q trivial rfl rfl (pt (v := .bool (!(zs.any (fun x => (decide (¬ (0 ≤ x ∧ x ≤ 255))))))) rfl rfl) ?_
    refine q trivial rfl rfl (asg (v := .bool (!(zs.any (fun x => (decide (¬ (0 ≤ x ∧ x ≤ 255))))))) rfl) ?_
    refine nl ?_
    refine nN ?_
    refine rt ?_
    refine fret (v := .bool (!(zs.any (fun x => (decide (¬ (0 ≤ x ∧ x ≤ 255))))))) (.tmp .nil) rfl ?_
    have e1 : (!(zs.any (fun x => (decide (¬ (0 ≤ x ∧ x ≤ 255)))))) = isBytes zs := by rw [← isBytes_not]; simp [*]
    exact ⟨(congrArg (Value.bool) e1), hs1⟩
  · refine gk false rfl rfl rfl rfl rfl ?_
    refine gk false rfl rfl rfl rfl rfl ?_
    refine gk false rfl rfl rfl rfl rfl ?_
    refine q trivial rfl rfl (pf (v := .bool false) rfl rfl) ?_
    refine q trivial rfl rfl (asg (v := .bool false) rfl) ?_
    refine nl ?_
    refine nN ?_
    refine rt ?_
    refine fret (v := .bool false) (.tmp .nil) rfl ?_
    have e2 : false = isBytes zs := by rw [← isBytes_not]; simp [*]
    exact ⟨(congrArg (Value.bool) e2), hs0⟩

theorem eqIntS {Axs : Option Addr} {cxs : Nat} (xs : List Int) {Abs : Option Addr} {cbs : Nat} (bs : List Int) (w : World) (hxs : Sl w [] 1 Axs xs.length cxs (xs.map I)) (hbs : Sl w [] 1 Abs bs.length cbs (bs.map I)) : Does Try.prog 11 [.slice Axs xs.length cxs, .slice Abs bs.length cbs] w (fun v w' => v = .bool (decide (xs = bs)) ∧ SH w w' [] []) := by
  refine fn_enter (N := 26) Try.func11 rfl (by kernel_rfl) rfl rfl rfl ?_
  have hs0 : SH w w [] [] := SH.refl w []
  have hxs_m : xs.length ≤ 9223372036854775807 := Nat.le_trans hxs.cap hxs.capMax
  have hbs_m : bs.length ≤ 9223372036854775807 := Nat.le_trans hbs.cap hbs.capMax
  refine sq ?_
  refine rg ?_
  refine q trivial rfl rfl (asg (v := .bool false) rfl) ?_
  refine nl ?_
  refine nN ?_
  refine sq ?_
  refine sq ?_
  refine rg ?_
  refine q trivial rfl rfl (mv (v := .slice Axs xs.length cxs) rfl) ?_
  refine q trivial rfl rfl (lnA (n := xs.length) sl22 rfl) ?_
  refine q trivial rfl rfl (mv (v := .slice Abs bs.length cbs) rfl) ?_
  refine q trivial rfl rfl (lnA (n := bs.length) sl22 rfl) ?_
  refine q trivial rfl rfl (nei (k := .i64) (a := ((xs.length : Nat) : Int)) (b := ((bs.length : Nat) : Int)) rfl rfl) ?_
  refine nl ?_
  refine nN ?_
  refine cdd (p := ((xs.length : Nat) : Int) ≠ ((bs.length : Nat) : Int)) rfl (fun h1 => ?_) (fun h1 => ?_)
  · refine sq ?_
    refine rg ?_
    refine q trivial rfl rfl (asg (v := .bool false) rfl) ?_
    refine nl ?_
    refine nN ?_
    refine rt (tR ?_)
    refine fret (v := .bool false) (.tmp .nil) rfl ?_
    have e1 : false = (decide (xs = bs)) := by simp; intro h; subst h; exact h1 rfl
    exact ⟨(congrArg (Value.bool) e1), hs0⟩
  · refine sk ?_
    refine nN ?_
    refine sq ?_
    refine sq ?_
    refine rg ?_
    refine q trivial rfl rfl (asg (v := .int .i64 0) rfl) ?_
    refine nl ?_
    refine nN ?_
    refine bl ?_
    refine lp (σ := Nat) (fun (k : Nat) f w' => Has f [(0, .slice Axs xs.length cxs), (1, .slice Abs bs.length cbs), (5, .int .i64 ((k : Nat) : Int))] ∧ (xs.length = bs.length) ∧ (k ≤ xs.length) ∧ (xs.take k = bs.take k) ∧ SH w w' [] []) (fun k => xs.length - k) 0 ⟨⟨rfl, rfl, rfl, trivial⟩, (by omega), (by simp), (by simp), hs0⟩ ?_
    rintro k f w1 ⟨hf, hl, hk, ha, hs1⟩
    obtain ⟨g1, rfl⟩ := has_upd hf
    clear hf
    refine sq ?_
    refine sq ?_
    refine rg ?_
    refine q trivial rfl rfl (mv (v := .int .i64 ((k : Nat) : Int)) rfl) ?_
    refine q trivial rfl rfl (mv (v := .slice Axs xs.length cxs) rfl) ?_
    refine q trivial rfl rfl (lnA (n := xs.length) sl22 rfl) ?_
    refine q trivial rfl rfl (lss (k := .i64) (a := ((k : Nat) : Int)) (b := ((xs.length : Nat) : Int)) rfl rfl) ?_
    refine nl ?_
    refine nN ?_
    refine cdd (p := ((k : Nat) : Int) < ((xs.length : Nat) : Int)) rfl (fun h2 => ?_) (fun h2 => ?_)
    · refine sk ?_
      refine nN ?_
      refine sq ?_
      refine bl ?_
      refine sq ?_
      refine rq (fun w' => SH w w' [] []) mixed (by kernel_rfl) hs1.drew ?_
      refine qq trivial rfl rfl (fun wq hsq => mv (v := .slice Axs xs.length cxs) rfl) ?_
      refine qq trivial rfl rfl (fun wq hsq => mv (v := .int .i64 ((k : Nat) : Int)) rfl) ?_
      refine ixq1 k sl22 rfl rfl hxs (by first | omega | (simp; omega)) (getm I 0 (by first | omega | (simp; omega))) trivial rfl (fun a1 ha1 => ?_)
      refine qq trivial rfl rfl (fun wq hsq => lda (v := .int .i64 (xs.getD k 0)) hsq ha1 (fun _ h => h) rfl rfl one3) ?_
      refine qq trivial rfl rfl (fun wq hsq => mv (v := .slice Abs bs.length cbs) rfl) ?_
      refine qq trivial rfl rfl (fun wq hsq => mv (v := .int .i64 ((k : Nat) : Int)) rfl) ?_
      refine ixq1 k sl22 rfl rfl hbs (by first | omega | (simp; omega)) (getm I 0 (by first | omega | (simp; omega))) trivial rfl (fun a2 ha2 => ?_)
      refine qq trivial rfl rfl (fun wq hsq => lda (v := .int .i64 (bs.getD k 0)) hsq ha2 (fun _ h => h) rfl rfl one3) ?_
      refine qq trivial rfl rfl (fun wq hsq => nei (k := .i64) (a := xs.getD k 0) (b := bs.getD k 0) rfl rfl) ?_
      refine qn (fun w2 hs2 => ?_)
      refine nN ?_
      refine cdd (p := (xs.getD k 0) ≠ (bs.getD k 0)) rfl (fun h3 => ?_) (fun h3 => ?_)
      · refine sq ?_
        refine rg ?_
        refine q trivial rfl rfl (asg (v := .bool false) rfl) ?_
        refine nl ?_
        refine nN ?_
        refine rt (bR (tR (tR (bR (tR ?_)))))
        refine fret (v := .bool false) (.tmp .nil) rfl ?_
        have e2 : false = (decide (xs = bs)) := by simp; intro h; subst h; exact h3 rfl
        exact ⟨(congrArg (Value.bool) e2), hs2⟩
      · refine sk ?_
        refine bN ?_
        refine nN ?_
        refine rg ?_
        refine q trivial rfl rfl (mv (v := .int .i64 ((k : Nat) : Int)) rfl) ?_
        refine q trivial rfl rfl (add (a := ((k : Nat) : Int)) (b := 1) rfl rfl (by exact ⟨by omega, by omega⟩)) ?_
        refine q trivial rfl rfl (asg (v := .int .i64 (((k : Nat) : Int) + 1)) rfl) ?_
        refine nl ?_
        refine nN ?_
        refine ⟨(k + 1), ⟨⟨rfl, rfl, rfl, trivial⟩, (hl), (by omega), (take_succ_eq (by omega) (by omega) ha (by simpa using h3)), hs2⟩, ?_⟩
        omega
    · refine ex (tE (tE (bE ?_)))
      refine nN ?_
      refine sq ?_
      refine rg ?_
      refine q trivial rfl rfl (asg (v := .bool true) rfl) ?_
      refine nl ?_
      refine nN ?_
      refine rt ?_
      refine fret (v := .bool true) (.tmp .nil) rfl ?_
      have e3 : true = (decide (xs = bs)) := by simp; exact take_all_eq hl (by omega) ha
      exact ⟨(congrArg (Value.bool) e3), hs1⟩

theorem sameBytes {Axs : Option Addr} {cxs : Nat} (xs : List Int) {Abs : Option Addr} {cbs : Nat} (bs : List Int) (w : World) (hxs : Sl w [] 1 Axs xs.length cxs (xs.map I)) (hbs : Sl w [] 1 Abs bs.length cbs (bs.map I)) : Does Try.prog 18 [.slice Axs xs.length cxs, .slice Abs bs.length cbs] w (fun v w' => v = .bool (decide (xs = bs)) ∧ SH w w' [] []) := by
  refine fn_enter (N := 26) Try.func18 rfl (by kernel_rfl) rfl rfl rfl ?_
  have hs0 : SH w w [] [] := SH.refl w []
  have hxs_m : xs.length ≤ 9223372036854775807 := Nat.le_trans hxs.cap hxs.capMax
  have hbs_m : bs.length ≤ 9223372036854775807 := Nat.le_trans hbs.cap hbs.capMax
  refine sq ?_
  refine rg ?_
  refine q trivial rfl rfl (asg (v := .bool false) rfl) ?_
  refine nl ?_
  refine nN ?_
  refine sq ?_
  refine sq ?_
  refine rg ?_
  refine q trivial rfl rfl (mv (v := .slice Axs xs.length cxs) rfl) ?_
  refine q trivial rfl rfl (lnA (n := xs.length) sl22 rfl) ?_
  refine q trivial rfl rfl (mv (v := .slice Abs bs.length cbs) rfl) ?_
  refine q trivial rfl rfl (lnA (n := bs.length) sl22 rfl) ?_
  refine q trivial rfl rfl (nei (k := .i64) (a := ((xs.length : Nat) : Int)) (b := ((bs.length : Nat) : Int)) rfl rfl) ?_
  refine nl ?_
  refine nN ?_
  refine cdd (p := ((xs.length : Nat) : Int) ≠ ((bs.length : Nat) : Int)) rfl (fun h1 => ?_) (fun h1 => ?_)
  · refine sq ?_
    refine rg ?_
    refine q trivial rfl rfl (asg (v := .bool false) rfl) ?_
    refine nl ?_
    refine nN ?_
    refine rt (tR ?_)
    refine fret (v := .bool false) (.tmp .nil) rfl ?_
    have e1 : false = (decide (xs = bs)) := by simp; intro h; subst h; exact h1 rfl
    exact ⟨(congrArg (Value.bool) e1), hs0⟩
  · refine sk ?_
    refine nN ?_
    refine sq ?_
    refine sq ?_
    refine rg ?_
    refine q trivial rfl rfl (asg (v := .int .i64 0) rfl) ?_
    refine nl ?_
    refine nN ?_
    refine bl ?_
    refine lp (σ := Nat) (fun (k : Nat) f w' => Has f [(0, .slice Axs xs.length cxs), (1, .slice Abs bs.length cbs), (5, .int .i64 ((k : Nat) : Int))] ∧ (xs.length = bs.length) ∧ (k ≤ xs.length) ∧ (xs.take k = bs.take k) ∧ SH w w' [] []) (fun k => xs.length - k) 0 ⟨⟨rfl, rfl, rfl, trivial⟩, (by omega), (by simp), (by simp), hs0⟩ ?_
    rintro k f w1 ⟨hf, hl, hk, ha, hs1⟩
    obtain ⟨g1, rfl⟩ := has_upd hf
    clear hf
    refine sq ?_
    refine sq ?_
    refine rg ?_
    refine q trivial rfl rfl (mv (v := .int .i64 ((k : Nat) : Int)) rfl) ?_
    refine q trivial rfl rfl (mv (v := .slice Axs xs.length cxs) rfl) ?_
    refine q trivial rfl rfl (lnA (n := xs.length) sl22 rfl) ?_
    refine q trivial rfl rfl (lss (k := .i64) (a := ((k : Nat) : Int)) (b := ((xs.length : Nat) : Int)) rfl rfl) ?_
    refine nl ?_
    refine nN ?_
    refine cdd (p := ((k : Nat) : Int) < ((xs.length : Nat) : Int)) rfl (fun h2 => ?_) (fun h2 => ?_)
    · refine sk ?_
      refine nN ?_
      refine sq ?_
      refine bl ?_
      refine sq ?_
      refine rq (fun w' => SH w w' [] []) mixed (by kernel_rfl) hs1.drew ?_
      refine qq trivial rfl rfl (fun wq hsq => mv (v := .slice Axs xs.length cxs) rfl) ?_
      refine qq trivial rfl rfl (fun wq hsq => mv (v := .int .i64 ((k : Nat) : Int)) rfl) ?_
      refine ixq1 k sl22 rfl rfl hxs (by first | omega | (simp; omega)) (getm I 0 (by first | omega | (simp; omega))) trivial rfl (fun a1 ha1 => ?_)
      refine qq trivial rfl rfl (fun wq hsq => lda (v := .int .i64 (xs.getD k 0)) hsq ha1 (fun _ h => h) rfl rfl one3) ?_
      refine qq trivial rfl rfl (fun wq hsq => mv (v := .slice Abs bs.length cbs) rfl) ?_
      refine qq trivial rfl rfl (fun wq hsq => mv (v := .int .i64 ((k : Nat) : Int)) rfl) ?_
      refine ixq1 k sl22 rfl rfl hbs (by first | omega | (simp; omega)) (getm I 0 (by first | omega | (simp; omega))) trivial rfl (fun a2 ha2 => ?_)
      refine qq trivial rfl rfl (fun wq hsq => lda (v := .int .i64 (bs.getD k 0)) hsq ha2 (fun _ h => h) rfl rfl one3) ?_
      refine qq trivial rfl rfl (fun wq hsq => nei (k := .i64) (a := xs.getD k 0) (b := bs.getD k 0) rfl rfl) ?_
      refine qn (fun w2 hs2 => ?_)
      refine nN ?_
      refine cdd (p := (xs.getD k 0) ≠ (bs.getD k 0)) rfl (fun h3 => ?_) (fun h3 => ?_)
      · refine sq ?_
        refine rg ?_
        refine q trivial rfl rfl (asg (v := .bool false) rfl) ?_
        refine nl ?_
        refine nN ?_
        refine rt (bR (tR (tR (bR (tR ?_)))))
        refine fret (v := .bool false) (.tmp .nil) rfl ?_
        have e2 : false = (decide (xs = bs)) := by simp; intro h; subst h; exact h3 rfl
        exact ⟨(congrArg (Value.bool) e2), hs2⟩
      · refine sk ?_
        refine bN ?_
        refine nN ?_
        refine rg ?_
        refine q trivial rfl rfl (mv (v := .int .i64 ((k : Nat) : Int)) rfl) ?_
        refine q trivial rfl rfl (add (a := ((k : Nat) : Int)) (b := 1) rfl rfl (by exact ⟨by omega, by omega⟩)) ?_
        refine q trivial rfl rfl (asg (v := .int .i64 (((k : Nat) : Int) + 1)) rfl) ?_
        refine nl ?_
        refine nN ?_
        refine ⟨(k + 1), ⟨⟨rfl, rfl, rfl, trivial⟩, (hl), (by omega), (take_succ_eq (by omega) (by omega) ha (by simpa using h3)), hs2⟩, ?_⟩
        omega
    · refine ex (tE (tE (bE ?_)))
      refine nN ?_
      refine sq ?_
      refine rg ?_
      refine q trivial rfl rfl (asg (v := .bool true) rfl) ?_
      refine nl ?_
      refine nN ?_
      refine rt ?_
      refine fret (v := .bool true) (.tmp .nil) rfl ?_
      have e3 : true = (decide (xs = bs)) := by simp; exact take_all_eq hl (by omega) ha
      exact ⟨(congrArg (Value.bool) e3), hs1⟩

theorem heldIntS {Axs : Option Addr} {cxs : Nat} (xs : List Int) (k0 : Int) (w : World) (hxs : Sl w [] 1 Axs xs.length cxs (xs.map I)) (hxs_n : xs.length ≤ 1099511627776) (hk0 : 0 ≤ k0 ∧ k0 ≤ 4294967296) : Does Try.prog 13 [.slice Axs xs.length cxs, .int .i64 k0] w (fun v w' => v = .int .i64 (heldI xs k0) ∧ SH w w' [] []) := by
  refine fn_enter (N := 21) Try.func13 rfl (by kernel_rfl) rfl rfl rfl ?_
  have hs0 : SH w w [] [] := SH.refl w []
  have hxs_m : xs.length ≤ 9223372036854775807 := Nat.le_trans hxs.cap hxs.capMax
  refine sq ?_
  refine rg ?_
  refine q trivial rfl rfl (asg (v := .int .i64 0) rfl) ?_
  refine nl ?_
  refine nN ?_
  refine sq ?_
  refine sq ?_
  refine rg ?_
  refine q trivial rfl rfl (asg (v := .int .i64 0) rfl) ?_
  refine nl ?_
  refine nN ?_
  refine bl ?_
  refine lp (σ := Nat) (fun (k : Nat) f w' => Has f [(0, .slice Axs xs.length cxs), (1, .int .i64 (k0 + (k : Nat))), (5, .int .i64 ((k : Nat) : Int))] ∧ (k ≤ xs.length) ∧ (xs.take k = marks k0 k) ∧ SH w w' [] []) (fun k => xs.length - k) 0 ⟨⟨rfl, (show (.int .i64 k0 : Value) = .int .i64 (k0 + (0 : Nat)) from congrArg (Value.int .i64) (by simp)), rfl, trivial⟩, (by simp), (by simp [marks]), hs0⟩ ?_
  rintro k f w1 ⟨hf, hk, hm, hs1⟩
  obtain ⟨g1, rfl⟩ := has_upd hf
  clear hf
  refine sq ?_
  refine sq ?_
  refine rg ?_
  refine q trivial rfl rfl (mv (v := .int .i64 ((k : Nat) : Int)) rfl) ?_
  refine q trivial rfl rfl (mv (v := .slice Axs xs.length cxs) rfl) ?_
  refine q trivial rfl rfl (lnA (n := xs.length) sl22 rfl) ?_
  refine q trivial rfl rfl (lss (k := .i64) (a := ((k : Nat) : Int)) (b := ((xs.length : Nat) : Int)) rfl rfl) ?_
  refine nl ?_
  refine nN ?_
  refine cdd (p := ((k : Nat) : Int) < ((xs.length : Nat) : Int)) rfl (fun h1 => ?_) (fun h1 => ?_)
  · refine sk ?_
    refine nN ?_
    refine sq ?_
    refine bl ?_
    refine sq ?_
    refine sq ?_
    refine rg ?_
    refine q trivial rfl rfl (mv (v := .slice Axs xs.length cxs) rfl) ?_
    refine q trivial rfl rfl (mv (v := .int .i64 ((k : Nat) : Int)) rfl) ?_
    refine ixw1 k sl22 rfl rfl hxs (by first | omega | (simp; omega)) (getm I 0 (by first | omega | (simp; omega))) trivial rfl (fun a1 ha1 => ?_)
    refine q trivial rfl rfl (lda (v := .int .i64 (xs.getD k 0)) hs1 ha1 (fun _ h => h) rfl rfl one3) ?_
    refine q trivial rfl rfl (mv (v := .int .i64 (k0 + (k : Nat))) rfl) ?_
    refine q trivial rfl rfl (nei (k := .i64) (a := xs.getD k 0) (b := k0 + (k : Nat)) rfl rfl) ?_
    refine nl ?_
    refine nN ?_
    refine cdd (p := (xs.getD k 0) ≠ (k0 + (k : Nat))) rfl (fun h2 => ?_) (fun h2 => ?_)
    · refine sq ?_
      refine rg ?_
      refine q trivial rfl rfl (asg (v := .int .i64 (-1)) rfl) ?_
      refine nl ?_
      refine nN ?_
      refine rt (tR (bR (tR (tR (bR (tR ?_))))))
      refine fret (v := .int .i64 (-1)) (.tmp .nil) rfl ?_
      have e1 : (-1) = heldI xs k0 := by exact held_no (by omega) hm (by omega)
      exact ⟨(congrArg (Value.int .i64) e1), hs1⟩
    · refine sk ?_
      refine nN ?_
      refine rg ?_
      refine q trivial rfl rfl (mv (v := .int .i64 (k0 + (k : Nat))) rfl) ?_
      refine q trivial rfl rfl (add (a := k0 + (k : Nat)) (b := 1) rfl rfl (by exact ⟨by omega, by omega⟩)) ?_
      refine q trivial rfl rfl (asg (v := .int .i64 ((k0 + (k : Nat)) + 1)) rfl) ?_
      refine nl ?_
      refine bN ?_
      refine nN ?_
      refine rg ?_
      refine q trivial rfl rfl (mv (v := .int .i64 ((k : Nat) : Int)) rfl) ?_
      refine q trivial rfl rfl (add (a := ((k : Nat) : Int)) (b := 1) rfl rfl (by exact ⟨by omega, by omega⟩)) ?_
      refine q trivial rfl rfl (asg (v := .int .i64 (((k : Nat) : Int) + 1)) rfl) ?_
      refine nl ?_
      refine nN ?_
      refine ⟨(k + 1), ⟨⟨rfl, (show (.int .i64 ((k0 + (k : Nat)) + 1) : Value) = .int .i64 (k0 + ((k + 1) : Nat)) from congrArg (Value.int .i64) (by omega)), rfl, trivial⟩, (by omega), (marks_take (by omega) hm (by omega)), hs1⟩, ?_⟩
      omega
  · refine ex (tE (tE (bE ?_)))
    refine nN ?_
    refine sq ?_
    refine rg ?_
    refine q trivial rfl rfl (mv (v := .int .i64 (k0 + (k : Nat))) rfl) ?_
    refine q trivial rfl rfl (asg (v := .int .i64 (k0 + (k : Nat))) rfl) ?_
    refine nl ?_
    refine nN ?_
    refine rt ?_
    refine fret (v := .int .i64 (k0 + (k : Nat))) (.tmp .nil) rfl ?_
    have e2 : k0 + (k : Nat) = heldI xs k0 := by have : k = xs.length := (by omega); subst this; exact held_yes (by simpa using hm)
    exact ⟨(congrArg (Value.int .i64) e2), hs1⟩

theorem slIndexByte (l : List UInt8) (c : UInt8) (w : World)  : Does Try.prog 34 [Str l, .int .u8 ((c.toNat : Nat) : Int)] w (fun v w' => v = .int .i64 (idxB l c) ∧ SH w w' [] []) := by
  refine fn_enter (N := 8) Try.func34 rfl (by kernel_rfl) rfl rfl rfl ?_
  have hs0 : SH w w [] [] := SH.refl w []
  refine sq ?_
  refine rg ?_
  refine q trivial rfl rfl (asg (v := .int .i64 0) rfl) ?_
  refine nl ?_
  refine nN ?_
  refine sq ?_
  refine rg ?_
  refine q trivial rfl rfl (mv (v := Str l) rfl) ?_
  refine q trivial rfl rfl (mv (v := .int .u8 ((c.toNat : Nat) : Int)) rfl) ?_
  refine q trivial rfl rfl (ibs (l := l) (c := c) Try.func38 (by kernel_rfl) rfl (by kernel_rfl) (by kernel_rfl) rfl rfl) ?_
  refine q trivial rfl rfl (asg (v := .int .i64 (idxB l c)) rfl) ?_
  refine nl ?_
  refine nN ?_
  refine rt ?_
  refine fret (v := .int .i64 (idxB l c)) (.tmp .nil) rfl ?_
  exact ⟨rfl, hs0⟩

theorem stIndexByte (l : List UInt8) (c : UInt8) (w : World)  : Does Try.prog 23 [Str l, .int .u8 ((c.toNat : Nat) : Int)] w (fun v w' => v = .int .i64 (idxB l c) ∧ SH w w' [] []) := by
  refine fn_enter (N := 8) Try.func23 rfl (by kernel_rfl) rfl rfl rfl ?_
  have hs0 : SH w w [] [] := SH.refl w []
  refine sq ?_
  refine rg ?_
  refine q trivial rfl rfl (asg (v := .int .i64 0) rfl) ?_
  refine nl ?_
  refine nN ?_
  refine sq ?_
  refine rg ?_
  refine q trivial rfl rfl (mv (v := Str l) rfl) ?_
  refine q trivial rfl rfl (mv (v := .int .u8 ((c.toNat : Nat) : Int)) rfl) ?_
  refine cl trivial rfl (slIndexByte (l := l) (c := c) (w := _)) ?_
  rintro _ w1 ⟨rfl, hs1'⟩
  have hs1 : SH w w1 [] [] := hs0.call0 hs1'
  clear hs1'
  refine q trivial rfl rfl (asg (v := .int .i64 (idxB l c)) rfl) ?_
  refine nl ?_
  refine nN ?_
  refine rt ?_
  refine fret (v := .int .i64 (idxB l c)) (.tmp .nil) rfl ?_
  exact ⟨rfl, hs1⟩

theorem sDigits  (w : World)  : Does Try.prog 24 [] w (fun v w' => v = Str hexDs ∧ SH w w' [] []) := by
  refine fn_enter (N := 1) Try.func24 rfl (by kernel_rfl) rfl rfl rfl ?_
  have hs0 : SH w w [] [] := SH.refl w []
  refine sq ?_
  refine rg ?_
  refine q trivial rfl rfl (asg (v := Str []) rfl) ?_
  refine nl ?_
  refine nN ?_
  refine sq ?_
  refine rg ?_
  refine q trivial rfl rfl (asg (v := Str hexDs) rfl) ?_
  refine nl ?_
  refine nN ?_
  refine rt ?_
  refine fret (v := Str hexDs) (.tmp .nil) rfl ?_
  exact ⟨rfl, hs0⟩

theorem sDigit (c : UInt8) (w : World)  : Does Try.prog 22 [.int .u8 ((c.toNat : Nat) : Int)] w (fun v w' => v = .int .i64 (idxB hexDs c) ∧ SH w w' [] []) := by
  refine fn_enter (N := 14) Try.func22 rfl (by kernel_rfl) rfl rfl rfl ?_
  have hs0 : SH w w [] [] := SH.refl w []
  refine sq ?_
  refine rg ?_
  refine q trivial rfl rfl (asg (v := .int .i64 0) rfl) ?_
  refine nl ?_
  refine nN ?_
  refine sq ?_
  refine sq ?_
  refine rg ?_
  refine q trivial rfl rfl (asg (v := .int .i64 0) rfl) ?_
  refine nl ?_
  refine nN ?_
  refine bl ?_
  refine lp (σ := Nat) (fun (k : Nat) f w' => Has f [(0, .int .u8 ((c.toNat : Nat) : Int)), (3, .int .i64 ((k : Nat) : Int))] ∧ (k ≤ 16) ∧ (∀ j, j < k → hexDs.getD j 0 ≠ c) ∧ SH w w' [] []) (fun k => 16 - k) 0 ⟨⟨rfl, rfl, trivial⟩, (by simp), (by intro j hj; omega), hs0⟩ ?_
  rintro k f w1 ⟨hf, hk, hn, hs1⟩
  obtain ⟨g1, rfl⟩ := has_upd hf
  clear hf
  refine sq ?_
  refine sq ?_
  refine rg ?_
  refine q trivial rfl rfl (mv (v := .int .i64 ((k : Nat) : Int)) rfl) ?_
  refine q trivial rfl rfl (lss (k := .i64) (a := ((k : Nat) : Int)) (b := 16) rfl rfl) ?_
  refine nl ?_
  refine nN ?_
  refine cdd (p := ((k : Nat) : Int) < 16) rfl (fun h1 => ?_) (fun h1 => ?_)
  · refine sk ?_
    refine nN ?_
    refine sq ?_
    refine bl ?_
    refine sq ?_
    refine rg ?_
    refine cl trivial rfl (sDigits (w := _)) ?_
    rintro _ w2 ⟨rfl, hs2'⟩
    have hs2 : SH w w2 [] [] := hs1.call0 hs2'
    clear hs2'
    refine q trivial rfl rfl (mv (v := .int .i64 ((k : Nat) : Int)) rfl) ?_
    refine q trivial rfl rfl (ixs (l := hexDs) k st9 rfl rfl (by rw [hexDs_len]; omega)) ?_
    refine q trivial rfl rfl (mv (v := .int .u8 ((c.toNat : Nat) : Int)) rfl) ?_
    refine q trivial rfl rfl (eqi (k := .u8) (a := (((hexDs.getD k 0).toNat : Nat) : Int)) (b := ((c.toNat : Nat) : Int)) rfl rfl) ?_
    refine nl ?_
    refine nN ?_
    refine cdd (p := (((hexDs.getD k 0).toNat : Nat) : Int) = ((c.toNat : Nat) : Int)) rfl (fun h2 => ?_) (fun h2 => ?_)
    · refine sq ?_
      refine rg ?_
      refine q trivial rfl rfl (mv (v := .int .i64 ((k : Nat) : Int)) rfl) ?_
      refine q trivial rfl rfl (asg (v := .int .i64 ((k : Nat) : Int)) rfl) ?_
      refine nl ?_
      refine nN ?_
      refine rt (bR (tR (tR (bR (tR ?_)))))
      refine fret (v := .int .i64 ((k : Nat) : Int)) (.tmp .nil) rfl ?_
      have e1 : ((k : Nat) : Int) = idxB hexDs c := by exact (idxB_eq (by rw [hexDs_len]; omega) hn (u8_eq (by omega))).symm
      exact ⟨(congrArg (Value.int .i64) e1), hs2⟩
    · refine sk ?_
      refine bN ?_
      refine nN ?_
      refine rg ?_
      refine q trivial rfl rfl (mv (v := .int .i64 ((k : Nat) : Int)) rfl) ?_
      refine q trivial rfl rfl (add (a := ((k : Nat) : Int)) (b := 1) rfl rfl (by exact ⟨by omega, by omega⟩)) ?_
      refine q trivial rfl rfl (asg (v := .int .i64 (((k : Nat) : Int) + 1)) rfl) ?_
      refine nl ?_
      refine nN ?_
      refine ⟨(k + 1), ⟨⟨rfl, rfl, trivial⟩, (by omega), (by intro j hj; rcases Nat.lt_succ_iff_lt_or_eq.1 hj with h | h; exact hn j h; subst h; intro he; exact h2 (by rw [he])), hs2⟩, ?_⟩
      omega
  · refine ex (tE (tE (bE ?_)))
    refine nN ?_
    refine sq ?_
    refine rg ?_
    refine q trivial rfl rfl (asg (v := .int .i64 (-1)) rfl) ?_
    refine nl ?_
    refine nN ?_
    refine rt ?_
    refine fret (v := .int .i64 (-1)) (.tmp .nil) rfl ?_
    have e2 : (-1) = idxB hexDs c := by exact (idxB_none (fun j hj => hn j (by rw [hexDs_len] at hj; omega))).symm
    exact ⟨(congrArg (Value.int .i64) e2), hs1⟩

theorem markIntS {Axs : Option Addr} {cxs : Nat} (xs : List Int) (k0 : Int) (w : World) (hxs : OwnR w Axs xs.length cxs 3 1 (xs.map I)) (hxs_n : xs.length ≤ 1099511627776) (hk0 : 0 ≤ k0 ∧ k0 ≤ 4294967296) : Does Try.prog 12 [.slice Axs xs.length cxs, .int .i64 k0] w (fun v w' => v = .int .i64 (k0 + (xs.length : Nat)) ∧ SH w w' (ownM Axs cxs ++ []) [.own Axs xs.length cxs 3 1 ((marks k0 xs.length).map I)]) := by
  refine fn_enter (N := 19) Try.func12 rfl (by kernel_rfl) rfl rfl rfl ?_
  have hs0 : SH w w (ownM Axs cxs ++ []) [.own Axs xs.length cxs 3 1 (xs.map I)] := entry1o hxs
  have hxs_m : xs.length ≤ 9223372036854775807 := Nat.le_trans hxs.2.1 hxs.2.2.1
  refine sq ?_
  refine rg ?_
  refine q trivial rfl rfl (asg (v := .int .i64 0) rfl) ?_
  refine nl ?_
  refine nN ?_
  refine sq ?_
  refine sq ?_
  refine rg ?_
  refine q trivial rfl rfl (asg (v := .int .i64 0) rfl) ?_
  refine nl ?_
  refine nN ?_
  refine bl ?_
  have e1 : xs = marks k0 0 ++ xs.drop 0 := by simp [marks]
  refine lp (σ := (Option Addr) × Nat × Nat) (fun ⟨Ag0, cg0, k⟩ f w' => Has f [(0, .slice Ag0 xs.length cg0), (1, .int .i64 (k0 + (k : Nat))), (5, .int .i64 ((k : Nat) : Int))] ∧ (k ≤ xs.length) ∧ (Ag0 = Axs) ∧ (cg0 = cxs) ∧ SH w w' (ownM Axs cxs ++ []) [.own Ag0 xs.length cg0 3 1 ((marks k0 k ++ xs.drop k).map I)]) (fun ⟨Ag0, cg0, k⟩ => xs.length - k) (Axs, cxs, 0) ⟨⟨rfl, (show (.int .i64 k0 : Value) = .int .i64 (k0 + (0 : Nat)) from congrArg (Value.int .i64) (by simp)), rfl, trivial⟩, (by simp), (rfl), (rfl), (hs0.cast (lc (own_eq (g := I) rfl rfl rfl e1) rfl))⟩ ?_
  rintro ⟨Ag0, cg0, k⟩ f w1 ⟨hf, hk, hA, hC, hs1⟩
  obtain ⟨g1, rfl⟩ := has_upd hf
  clear hf
  refine sq ?_
  refine sq ?_
  refine rg ?_
  refine q trivial rfl rfl (mv (v := .int .i64 ((k : Nat) : Int)) rfl) ?_
  refine q trivial rfl rfl (mv (v := .slice Ag0 xs.length cg0) rfl) ?_
  refine q trivial rfl rfl (lnA (n := xs.length) sl22 rfl) ?_
  refine q trivial rfl rfl (lss (k := .i64) (a := ((k : Nat) : Int)) (b := ((xs.length : Nat) : Int)) rfl rfl) ?_
  refine nl ?_
  refine nN ?_
  refine cdd (p := ((k : Nat) : Int) < ((xs.length : Nat) : Int)) rfl (fun h1 => ?_) (fun h1 => ?_)
  · refine sk ?_
    refine nN ?_
    refine sq ?_
    refine bl ?_
    refine sq ?_
    refine rg ?_
    refine q trivial rfl rfl (mv (v := .slice Ag0 xs.length cg0) rfl) ?_
    refine q trivial rfl rfl (mv (v := .int .i64 ((k : Nat) : Int)) rfl) ?_
    refine q trivial rfl rfl (mv (v := .int .i64 (k0 + (k : Nat))) rfl) ?_
    obtain ⟨b1, rfl⟩ := own_form hs1 0 rfl (by first | omega | (simp; omega))
    refine q trivial rfl rfl (ixo k sl22 rfl rfl (by first | omega | (simp; omega))) ?_
    refine stomn (g := I) (ys := marks k0 k ++ xs.drop k) (o := k) (u := k0 + (k : Nat)) hs1 0 rfl rfl rfl rfl (by omega) rfl one3 trivial (fun w2 (hs2 : SH w w2 (ownM Axs cxs ++ []) [.own (some ⟨b1, 0, none⟩) xs.length cg0 3 1 (((marks k0 k ++ xs.drop k).set k (k0 + (k : Nat))).map I)]) => ?_)
    refine nl ?_
    refine nN ?_
    refine rg ?_
    refine q trivial rfl rfl (mv (v := .int .i64 (k0 + (k : Nat))) rfl) ?_
    refine q trivial rfl rfl (add (a := k0 + (k : Nat)) (b := 1) rfl rfl (by exact ⟨by omega, by omega⟩)) ?_
    refine q trivial rfl rfl (asg (v := .int .i64 ((k0 + (k : Nat)) + 1)) rfl) ?_
    refine nl ?_
    refine bN ?_
    refine nN ?_
    refine rg ?_
    refine q trivial rfl rfl (mv (v := .int .i64 ((k : Nat) : Int)) rfl) ?_
    refine q trivial rfl rfl (add (a := ((k : Nat) : Int)) (b := 1) rfl rfl (by exact ⟨by omega, by omega⟩)) ?_
    refine q trivial rfl rfl (asg (v := .int .i64 (((k : Nat) : Int) + 1)) rfl) ?_
    refine nl ?_
    refine nN ?_
    have e2 : (marks k0 k ++ xs.drop k).set k (k0 + (k : Nat)) = marks k0 (k + 1) ++ xs.drop (k + 1) := by exact marks_set (by omega)
    refine ⟨((some ⟨b1, 0, none⟩), cg0, k + 1), ⟨⟨rfl, (show (.int .i64 ((k0 + (k : Nat)) + 1) : Value) = .int .i64 (k0 + ((k + 1) : Nat)) from congrArg (Value.int .i64) (by omega)), rfl, trivial⟩, (by omega), (hA), (hC), (hs2.cast (lc (own_eq (g := I) rfl rfl rfl e2) rfl))⟩, ?_⟩
    show xs.length - (k + 1) < xs.length - k
    omega
  · refine ex (tE (tE (bE ?_)))
    refine nN ?_
    refine sq ?_
    refine rg ?_
    refine q trivial rfl rfl (mv (v := .int .i64 (k0 + (k : Nat))) rfl) ?_
    refine q trivial rfl rfl (asg (v := .int .i64 (k0 + (k : Nat))) rfl) ?_
    refine nl ?_
    refine nN ?_
    refine rt ?_
    refine fret (v := .int .i64 (k0 + (k : Nat))) (.tmp .nil) rfl ?_
    have e3 : k0 + (k : Nat) = k0 + (xs.length : Nat) := by have : k = xs.length := (by omega); subst this; rfl
    have e4 : Ag0 = Axs := by assumption
    have e5 : cg0 = cxs := by assumption
    have e6 : marks k0 k ++ xs.drop k = marks k0 xs.length := by have : k = xs.length := (by omega); subst this; simp
    exact ⟨(congrArg (Value.int .i64) e3), (hs1.cast (lc (own_eq (g := I) e4 rfl e5 e6) rfl))⟩

theorem toIntS {Axs : Option Addr} {cxs : Nat} (xs : List Int) (w : World) (hxs : Sl w [] 1 Axs xs.length cxs (xs.map I)) (hxs_n : xs.length ≤ 1099511627776) : Does Try.prog 15 [.slice Axs xs.length cxs] w (fun v w' => ∃ Ar : Option Addr, ∃ cr : Nat, v = .slice Ar xs.length cr ∧ SH w w' [] [.own Ar xs.length cr 3 1 (xs.map I)]) := by
  refine fn_enter (N := 22) Try.func15 rfl (by kernel_rfl) rfl rfl rfl ?_
  have hs0 : SH w w [] [] := SH.refl w []
  have hxs_m : xs.length ≤ 9223372036854775807 := Nat.le_trans hxs.cap hxs.capMax
  refine sq ?_
  refine rg ?_
  refine q trivial rfl rfl (asg (v := .slice none 0 0) rfl) ?_
  refine nl ?_
  refine nN ?_
  refine sq ?_
  refine rg ?_
  refine q trivial rfl rfl (mv (v := .slice Axs xs.length cxs) rfl) ?_
  refine q trivial rfl rfl (lnA (n := xs.length) sl22 rfl) ?_
  refine mkm (g := I) (z := 0) (n := xs.length) hs0 sl22 rfl rfl rfl (by omega) (by unfold maxLen; omega) trivial rfl (fun b1 w1 (hs1 : SH w w1 [] [.own (some ⟨b1, 0, none⟩) ((List.replicate xs.length (0 : Int)).length) xs.length 3 1 ((List.replicate xs.length (0 : Int)).map I)]) => ?_)
  refine q trivial rfl rfl (asg (v := .slice (some ⟨b1, 0, none⟩) ((List.replicate xs.length (0 : Int)).length) xs.length) rfl) ?_
  refine nl ?_
  refine nN ?_
  refine sq ?_
  refine sq ?_
  refine rg ?_
  refine q trivial rfl rfl (asg (v := .int .i64 0) rfl) ?_
  refine nl ?_
  refine nN ?_
  refine bl ?_
  have e1 : List.replicate xs.length (0 : Int) = xs.take 0 ++ List.replicate (xs.length - 0) (0 : Int) := by simp
  have e2 : (List.replicate xs.length (0 : Int)).length = xs.length := by first | rfl | (simp; done) | (simp; omega) | omega
  refine lp (σ := (Option Addr) × Nat × Nat) (fun ⟨Ag3, cg3, k⟩ f w' => Has f [(0, .slice Axs xs.length cxs), (3, .slice Ag3 xs.length cg3), (4, .int .i64 ((k : Nat) : Int))] ∧ (k ≤ xs.length) ∧ SH w w' [] [.own Ag3 xs.length cg3 3 1 ((xs.take k ++ List.replicate (xs.length - k) (0 : Int)).map I)]) (fun ⟨Ag3, cg3, k⟩ => xs.length - k) ((some ⟨b1, 0, none⟩), xs.length, 0) ⟨⟨rfl, (show (.slice (some ⟨b1, 0, none⟩) ((List.replicate xs.length (0 : Int)).length) xs.length : Value) = .slice (some ⟨b1, 0, none⟩) xs.length xs.length from slv rfl e2 rfl), rfl, trivial⟩, (by simp), (hs1.cast (lc (own_eq (g := I) rfl e2 rfl e1) rfl))⟩ ?_
  rintro ⟨Ag3, cg3, k⟩ f w2 ⟨hf, hk, hs2⟩
  obtain ⟨g1, rfl⟩ := has_upd hf
  clear hf
  refine sq ?_
  refine sq ?_
  refine rg ?_
  refine q trivial rfl rfl (mv (v := .int .i64 ((k : Nat) : Int)) rfl) ?_
  refine q trivial rfl rfl (mv (v := .slice Axs xs.length cxs) rfl) ?_
  refine q trivial rfl rfl (lnA (n := xs.length) sl22 rfl) ?_
  refine q trivial rfl rfl (lss (k := .i64) (a := ((k : Nat) : Int)) (b := ((xs.length : Nat) : Int)) rfl rfl) ?_
  refine nl ?_
  refine nN ?_
  refine cdd (p := ((k : Nat) : Int) < ((xs.length : Nat) : Int)) rfl (fun h1 => ?_) (fun h1 => ?_)
  · refine sk ?_
    refine nN ?_
    refine sq ?_
    refine bl ?_
    refine rg ?_
    refine q trivial rfl rfl (mv (v := .slice Ag3 xs.length cg3) rfl) ?_
    refine q trivial rfl rfl (mv (v := .int .i64 ((k : Nat) : Int)) rfl) ?_
    refine q trivial rfl rfl (mv (v := .slice Axs xs.length cxs) rfl) ?_
    refine q trivial rfl rfl (mv (v := .int .i64 ((k : Nat) : Int)) rfl) ?_
    refine ixw1 k sl22 rfl rfl hxs (by first | omega | (simp; omega)) (getm I 0 (by first | omega | (simp; omega))) trivial rfl (fun a1 ha1 => ?_)
    refine q trivial rfl rfl (lda (v := .int .i64 (xs.getD k 0)) hs2 ha1 (fun _ h => h) rfl rfl one3) ?_
    obtain ⟨b2, rfl⟩ := own_form hs2 0 rfl (by first | omega | (simp; omega))
    refine q trivial rfl rfl (ixo k sl22 rfl rfl (by first | omega | (simp; omega))) ?_
    refine stomn (g := I) (ys := xs.take k ++ List.replicate (xs.length - k) (0 : Int)) (o := k) (u := xs.getD k 0) hs2 0 rfl rfl rfl rfl (by omega) rfl one3 trivial (fun w3 (hs3 : SH w w3 [] [.own (some ⟨b2, 0, none⟩) xs.length cg3 3 1 (((xs.take k ++ List.replicate (xs.length - k) (0 : Int)).set k (xs.getD k 0)).map I)]) => ?_)
    refine nl ?_
    refine bN ?_
    refine nN ?_
    refine rg ?_
    refine q trivial rfl rfl (mv (v := .int .i64 ((k : Nat) : Int)) rfl) ?_
    refine q trivial rfl rfl (add (a := ((k : Nat) : Int)) (b := 1) rfl rfl (by exact ⟨by omega, by omega⟩)) ?_
    refine q trivial rfl rfl (asg (v := .int .i64 (((k : Nat) : Int) + 1)) rfl) ?_
    refine nl ?_
    refine nN ?_
    have e3 : (xs.take k ++ List.replicate (xs.length - k) (0 : Int)).set k (xs.getD k 0) = xs.take (k + 1) ++ List.replicate (xs.length - (k + 1)) (0 : Int) := by exact copy_set (by omega)
    refine ⟨((some ⟨b2, 0, none⟩), cg3, k + 1), ⟨⟨rfl, rfl, rfl, trivial⟩, (by omega), (hs3.cast (lc (own_eq (g := I) rfl rfl rfl e3) rfl))⟩, ?_⟩
    show xs.length - (k + 1) < xs.length - k
    omega
  · refine ex (tE (tE (bE ?_)))
    refine nN ?_
    refine sq ?_
    refine rg ?_
    refine q trivial rfl rfl (mv (v := .slice Ag3 xs.length cg3) rfl) ?_
    refine q trivial rfl rfl (asg (v := .slice Ag3 xs.length cg3) rfl) ?_
    refine nl ?_
    refine nN ?_
    refine rt ?_
    refine fret (v := .slice Ag3 xs.length cg3) (.tmp .nil) rfl ?_
    have e4 : xs.take k ++ List.replicate (xs.length - k) (0 : Int) = xs := by have : k = xs.length := (by omega); subst this; simp
    exact ⟨Ag3, cg3, rfl, (hs2.cast (lc (own_eq (g := I) rfl rfl rfl e4) rfl))⟩

theorem sHexFrom (l : List UInt8) (w : World) (hl_n : l.length ≤ 1099511627776) : Does Try.prog 9 [Str l] w (fun v w' => ∃ Ar : Option Addr, ∃ cr : Nat, v = .tuple #[.slice Ar ((hexFrom l).1).length cr, .bool ((hexFrom l).2)] ∧ SH w w' [] [.own Ar (((hexFrom l).1).length) cr 3 1 (((hexFrom l).1).map I)]) := by
  refine fn_enter (N := 49) Try.func9 rfl (by kernel_rfl) rfl rfl rfl ?_
  have hs0 : SH w w [] [] := SH.refl w []
  refine sq ?_
  refine rg ?_
  refine q trivial rfl rfl (asg (v := .slice none 0 0) rfl) ?_
  refine q trivial rfl rfl (asg (v := .bool false) rfl) ?_
  refine nl ?_
  refine nN ?_
  refine sq ?_
  refine rg ?_
  refine Go.PF.bs hs0 sl22 [] rfl (cs := []) (by kernel_rfl) rfl (by decide) (by decide) trivial rfl (fun b1 w1 (hs1 : SH w w1 [] [.own (some ⟨b1, 0, none⟩) (([] : List Int).length) 0 3 1 (([] : List Int).map I)]) => ?_)
  refine q trivial rfl rfl (asg (v := .slice (some ⟨b1, 0, none⟩) (([] : List Int).length) 0) rfl) ?_
  refine nl ?_
  refine nN ?_
  refine sq ?_
  refine sq ?_
  refine rg ?_
  refine q trivial rfl rfl (mv (v := Str l) rfl) ?_
  refine q trivial rfl rfl (lnS (l := l) st9 rfl) ?_
  refine q trivial rfl rfl (rem (a := ((l.length : Nat) : Int)) (b := 2) rfl rfl (by omega) (by omega)) ?_
  refine q trivial rfl rfl (nei (k := .i64) (a := ((l.length : Nat) : Int) % 2) (b := 0) rfl rfl) ?_
  refine q trivial rfl rfl (mv (v := .bool (decide ((((l.length : Nat) : Int) % 2) ≠ 0))) rfl) ?_
  refine spd (p := (((l.length : Nat) : Int) % 2) ≠ 0) 13 rfl (fun h1 => ?_) (fun h1 => ?_)
  · refine gk true rfl rfl rfl rfl rfl ?_
    refine gk true rfl rfl rfl rfl rfl ?_
    refine gk true rfl rfl rfl rfl rfl ?_
    refine q trivial rfl rfl (pt (v := .bool true) rfl rfl) ?_
    refine nl ?_
    refine nN ?_
    refine cdt rfl ?_
    refine sq ?_
    refine rg ?_
    refine q trivial rfl rfl (mv (v := .slice (some ⟨b1, 0, none⟩) (([] : List Int).length) 0) rfl) ?_
    refine q trivial rfl rfl (asg (v := .slice (some ⟨b1, 0, none⟩) (([] : List Int).length) 0) rfl) ?_
    refine q trivial rfl rfl (asg (v := .bool false) rfl) ?_
    refine nl ?_
    refine nN ?_
    refine rt (tR ?_)
    refine fret (v := .tuple #[.slice (some ⟨b1, 0, none⟩) (([] : List Int).length) 0, .bool false]) (.tmp (.tmp .nil)) rfl ?_
    have e1 : ([] : List Int) = (hexFrom l).1 := by rw [hex_size (by omega)]
    have e2 : ([] : List Int).length = ((hexFrom l).1).length := by rw [← e1]
    have e3 : false = (hexFrom l).2 := by rw [hex_size (by omega)]
    exact ⟨(some ⟨b1, 0, none⟩), 0, (tup2 (slv rfl e2 rfl) (congrArg (Value.bool) e3)), (hs1.cast (lc (own_eq (g := I) rfl e2 rfl e1) rfl))⟩
  · refine q ⟨_, rfl, rfl⟩ rfl rfl (mv (v := Str l) rfl) ?_
    refine q ⟨_, rfl, rfl⟩ rfl rfl (lnS (l := l) st9 rfl) ?_
    refine q ⟨_, rfl, rfl⟩ rfl rfl (gtr (k := .i64) (a := ((l.length : Nat) : Int)) (b := 240) rfl rfl) ?_
    refine q trivial rfl rfl (pf (v := .bool (decide ((240 : Int) < ((l.length : Nat) : Int)))) rfl rfl) ?_
    refine nl ?_
    refine nN ?_
    refine cdd (p := (240 : Int) < ((l.length : Nat) : Int)) rfl (fun h2 => ?_) (fun h2 => ?_)
    · refine sq ?_
      refine rg ?_
      refine q trivial rfl rfl (mv (v := .slice (some ⟨b1, 0, none⟩) (([] : List Int).length) 0) rfl) ?_
      refine q trivial rfl rfl (asg (v := .slice (some ⟨b1, 0, none⟩) (([] : List Int).length) 0) rfl) ?_
      refine q trivial rfl rfl (asg (v := .bool false) rfl) ?_
      refine nl ?_
      refine nN ?_
      refine rt (tR ?_)
      refine fret (v := .tuple #[.slice (some ⟨b1, 0, none⟩) (([] : List Int).length) 0, .bool false]) (.tmp (.tmp .nil)) rfl ?_
      have e4 : ([] : List Int) = (hexFrom l).1 := by rw [hex_size (by omega)]
      have e5 : ([] : List Int).length = ((hexFrom l).1).length := by rw [← e4]
      have e6 : false = (hexFrom l).2 := by rw [hex_size (by omega)]
      exact ⟨(some ⟨b1, 0, none⟩), 0, (tup2 (slv rfl e5 rfl) (congrArg (Value.bool) e6)), (hs1.cast (lc (own_eq (g := I) rfl e5 rfl e4) rfl))⟩
    · refine sk ?_
      refine nN ?_
      refine sq ?_
      refine sq ?_
      refine rg ?_
      refine q trivial rfl rfl (asg (v := .int .i64 0) rfl) ?_
      refine nl ?_
      refine nN ?_
      refine bl ?_
      have e7 : ([] : List Int) = hexN l 0 := by rfl
      have e8 : ([] : List Int).length = (hexN l 0).length := by rw [e7]
      refine lp (σ := (Option Addr) × Nat × Nat) (fun ⟨Ag4, cg4, k⟩ f w' => Has f [(0, Str l), (4, .slice Ag4 ((hexN l k).length) cg4), (5, .int .i64 ((2 * k : Nat) : Int))] ∧ (k ≤ l.length / 2) ∧ (∀ j, j < k → hexOk l j = true) ∧ SH w w' [] [.own Ag4 ((hexN l k).length) cg4 3 1 ((hexN l k).map I)]) (fun ⟨Ag4, cg4, k⟩ => l.length - k) ((some ⟨b1, 0, none⟩), 0, 0) ⟨⟨rfl, (show (.slice (some ⟨b1, 0, none⟩) (([] : List Int).length) 0 : Value) = .slice (some ⟨b1, 0, none⟩) ((hexN l 0).length) 0 from slv rfl e8 rfl), (show (.int .i64 0 : Value) = .int .i64 ((2 * 0 : Nat) : Int) from congrArg (Value.int .i64) (by simp)), trivial⟩, (by simp), (by intro j hj; omega), (hs1.cast (lc (own_eq (g := I) rfl e8 rfl e7) rfl))⟩ ?_
      rintro ⟨Ag4, cg4, k⟩ f w2 ⟨hf, hk, hg, hs2⟩
      obtain ⟨g1, rfl⟩ := has_upd hf
      clear hf
      refine sq ?_
      refine sq ?_
      refine rg ?_
      refine q trivial rfl rfl (mv (v := .int .i64 ((2 * k : Nat) : Int)) rfl) ?_
      refine q trivial rfl rfl (mv (v := Str l) rfl) ?_
      refine q trivial rfl rfl (lnS (l := l) st9 rfl) ?_
      refine q trivial rfl rfl (lss (k := .i64) (a := ((2 * k : Nat) : Int)) (b := ((l.length : Nat) : Int)) rfl rfl) ?_
      refine nl ?_
      refine nN ?_
      refine cdd (p := ((2 * k : Nat) : Int) < ((l.length : Nat) : Int)) rfl (fun h3 => ?_) (fun h3 => ?_)
      · refine sk ?_
        refine nN ?_
        refine sq ?_
        refine bl ?_
        refine sq ?_
        refine rg ?_
        refine q trivial rfl rfl (mv (v := Str l) rfl) ?_
        refine q trivial rfl rfl (mv (v := .int .i64 ((2 * k : Nat) : Int)) rfl) ?_
        refine q trivial rfl rfl (ixs (l := l) (2 * k) st9 rfl rfl (by first | omega | (simp; omega))) ?_
        refine cl trivial rfl (sDigit (c := (l.getD (2 * k) 0)) (w := _)) ?_
        rintro _ w3 ⟨rfl, hs3'⟩
        have hs3 : SH w w3 [] [.own Ag4 ((hexN l k).length) cg4 3 1 ((hexN l k).map I)] := hs2.call0 hs3'
        clear hs3'
        refine q trivial rfl rfl (asg (v := .int .i64 (idxB hexDs (l.getD (2 * k) 0))) rfl) ?_
        refine nl ?_
        refine nN ?_
        refine sq ?_
        refine rg ?_
        refine q trivial rfl rfl (mv (v := Str l) rfl) ?_
        refine q trivial rfl rfl (mv (v := .int .i64 ((2 * k : Nat) : Int)) rfl) ?_
        refine q trivial rfl rfl (add (a := ((2 * k : Nat) : Int)) (b := 1) rfl rfl (by have := dig_bd (l.getD (2 * k) 0); have := dig_bd (l.getD (2 * k + 1) 0); exact ⟨by omega, by omega⟩)) ?_
        refine q trivial rfl rfl (ixs (l := l) ((2 * k) + 1) st9 rfl rfl (by first | omega | (simp; omega))) ?_
        refine cl trivial rfl (sDigit (c := (l.getD ((2 * k) + 1) 0)) (w := _)) ?_
        rintro _ w4 ⟨rfl, hs4'⟩
        have hs4 : SH w w4 [] [.own Ag4 ((hexN l k).length) cg4 3 1 ((hexN l k).map I)] := hs3.call0 hs4'
        clear hs4'
        refine q trivial rfl rfl (asg (v := .int .i64 (idxB hexDs (l.getD ((2 * k) + 1) 0))) rfl) ?_
        refine nl ?_
        refine nN ?_
        refine sq ?_
        refine sq ?_
        refine rg ?_
        refine q trivial rfl rfl (mv (v := .int .i64 (idxB hexDs (l.getD (2 * k) 0))) rfl) ?_
        refine q trivial rfl rfl (lss (k := .i64) (a := idxB hexDs (l.getD (2 * k) 0)) (b := 0) rfl rfl) ?_
        refine q trivial rfl rfl (mv (v := .bool (decide ((idxB hexDs (l.getD (2 * k) 0)) < 0))) rfl) ?_
        refine spd (p := (idxB hexDs (l.getD (2 * k) 0)) < 0) 36 rfl (fun h4 => ?_) (fun h4 => ?_)
        · refine gk true rfl rfl rfl rfl rfl ?_
          refine gk true rfl rfl rfl rfl rfl ?_
          refine q trivial rfl rfl (pt (v := .bool true) rfl rfl) ?_
          refine nl ?_
          refine nN ?_
          refine cdt rfl ?_
          refine sq ?_
          refine rg ?_
          refine Go.PF.bs hs4 sl22 [] rfl (cs := []) (by kernel_rfl) rfl (by decide) (by decide) trivial rfl (fun b2 w5 (hs5 : SH w w5 [] [.own Ag4 ((hexN l k).length) cg4 3 1 ((hexN l k).map I), .own (some ⟨b2, 0, none⟩) (([] : List Int).length) 0 3 1 (([] : List Int).map I)]) => ?_)
          refine q trivial rfl rfl (asg (v := .slice (some ⟨b2, 0, none⟩) (([] : List Int).length) 0) rfl) ?_
          refine q trivial rfl rfl (asg (v := .bool false) rfl) ?_
          refine nl ?_
          refine nN ?_
          refine rt (tR (bR (tR (tR (bR (tR ?_))))))
          refine fret (v := .tuple #[.slice (some ⟨b2, 0, none⟩) (([] : List Int).length) 0, .bool false]) (.tmp (.tmp .nil)) rfl ?_
          have e9 : ([] : List Int) = (hexFrom l).1 := by rw [hex_bad (k := k) (by omega) (hexOk_no (by omega))]
          have e10 : ([] : List Int).length = ((hexFrom l).1).length := by rw [← e9]
          have e11 : false = (hexFrom l).2 := by rw [hex_bad (k := k) (by omega) (hexOk_no (by omega))]
          exact ⟨(some ⟨b2, 0, none⟩), 0, (tup2 (slv rfl e10 rfl) (congrArg (Value.bool) e11)), ((hs5.pick [1] rfl (by decide)).cast (lc (own_eq (g := I) rfl e10 rfl e9) rfl))⟩
        · refine q ⟨_, rfl, rfl⟩ rfl rfl (mv (v := .int .i64 (idxB hexDs (l.getD ((2 * k) + 1) 0))) rfl) ?_
          refine q ⟨_, rfl, rfl⟩ rfl rfl (lss (k := .i64) (a := idxB hexDs (l.getD ((2 * k) + 1) 0)) (b := 0) rfl rfl) ?_
          refine q trivial rfl rfl (pf (v := .bool (decide ((idxB hexDs (l.getD ((2 * k) + 1) 0)) < 0))) rfl rfl) ?_
          refine nl ?_
          refine nN ?_
          refine cdd (p := (idxB hexDs (l.getD ((2 * k) + 1) 0)) < 0) rfl (fun h5 => ?_) (fun h5 => ?_)
          · refine sq ?_
            refine rg ?_
            refine Go.PF.bs hs4 sl22 [] rfl (cs := []) (by kernel_rfl) rfl (by decide) (by decide) trivial rfl (fun b3 w6 (hs6 : SH w w6 [] [.own Ag4 ((hexN l k).length) cg4 3 1 ((hexN l k).map I), .own (some ⟨b3, 0, none⟩) (([] : List Int).length) 0 3 1 (([] : List Int).map I)]) => ?_)
            refine q trivial rfl rfl (asg (v := .slice (some ⟨b3, 0, none⟩) (([] : List Int).length) 0) rfl) ?_
            refine q trivial rfl rfl (asg (v := .bool false) rfl) ?_
            refine nl ?_
            refine nN ?_
            refine rt (tR (bR (tR (tR (bR (tR ?_))))))
            refine fret (v := .tuple #[.slice (some ⟨b3, 0, none⟩) (([] : List Int).length) 0, .bool false]) (.tmp (.tmp .nil)) rfl ?_
            have e12 : ([] : List Int) = (hexFrom l).1 := by rw [hex_bad (k := k) (by omega) (hexOk_no (by omega))]
            have e13 : ([] : List Int).length = ((hexFrom l).1).length := by rw [← e12]
            have e14 : false = (hexFrom l).2 := by rw [hex_bad (k := k) (by omega) (hexOk_no (by omega))]
            exact ⟨(some ⟨b3, 0, none⟩), 0, (tup2 (slv rfl e13 rfl) (congrArg (Value.bool) e14)), ((hs6.pick [1] rfl (by decide)).cast (lc (own_eq (g := I) rfl e13 rfl e12) rfl))⟩
          · refine sk ?_
            refine nN ?_
            refine rg ?_
            refine q trivial rfl rfl (mv (v := .slice Ag4 ((hexN l k).length) cg4) rfl) ?_
            refine q trivial rfl rfl (mv (v := .int .i64 (idxB hexDs (l.getD (2 * k) 0))) rfl) ?_
            refine q trivial rfl rfl (mul (a := 16) (b := idxB hexDs (l.getD (2 * k) 0)) rfl rfl (by have := dig_bd (l.getD (2 * k) 0); have := dig_bd (l.getD (2 * k + 1) 0); exact ⟨by omega, by omega⟩)) ?_
            refine q trivial rfl rfl (mv (v := .int .i64 (idxB hexDs (l.getD ((2 * k) + 1) 0))) rfl) ?_
            refine q trivial rfl rfl (add (a := 16 * (idxB hexDs (l.getD (2 * k) 0))) (b := idxB hexDs (l.getD ((2 * k) + 1) 0)) rfl rfl (by have := dig_bd (l.getD (2 * k) 0); have := dig_bd (l.getD (2 * k + 1) 0); exact ⟨by omega, by omega⟩)) ?_
            refine Go.PF.bs hs4 sl22 [(0, .int .i64 ((16 * (idxB hexDs (l.getD (2 * k) 0))) + (idxB hexDs (l.getD ((2 * k) + 1) 0))))] rfl (cs := [.int .i64 ((16 * (idxB hexDs (l.getD (2 * k) 0))) + (idxB hexDs (l.getD ((2 * k) + 1) 0)))]) (by kernel_rfl) rfl (by decide) (by decide) trivial rfl (fun b4 w7 (hs7 : SH w w7 [] [.own Ag4 ((hexN l k).length) cg4 3 1 ((hexN l k).map I), .own (some ⟨b4, 0, none⟩) ([(16 * (idxB hexDs (l.getD (2 * k) 0))) + (idxB hexDs (l.getD ((2 * k) + 1) 0))].length) 1 3 1 ([(16 * (idxB hexDs (l.getD (2 * k) 0))) + (idxB hexDs (l.getD ((2 * k) + 1) 0))].map I)]) => ?_)
            refine apm (g := I) (ys := hexN l k) (zs := [(16 * (idxB hexDs (l.getD (2 * k) 0))) + (idxB hexDs (l.getD ((2 * k) + 1) 0))]) hs7 0 rfl sl22 rfl rfl rfl (hs7.sl0 1 rfl) (fun _ => rfl) (by unfold maxLen; first | omega | (simp; omega)) (by first | omega | (simp; omega)) trivial rfl (fun A1 c1 w8 (hs8 : SH w w8 [] [.own (some ⟨b4, 0, none⟩) ([(16 * (idxB hexDs (l.getD (2 * k) 0))) + (idxB hexDs (l.getD ((2 * k) + 1) 0))].length) 1 3 1 ([(16 * (idxB hexDs (l.getD (2 * k) 0))) + (idxB hexDs (l.getD ((2 * k) + 1) 0))].map I), .own A1 (((hexN l k) ++ [(16 * (idxB hexDs (l.getD (2 * k) 0))) + (idxB hexDs (l.getD ((2 * k) + 1) 0))]).length) c1 3 1 (((hexN l k) ++ [(16 * (idxB hexDs (l.getD (2 * k) 0))) + (idxB hexDs (l.getD ((2 * k) + 1) 0))]).map I)]) => ?_)
            refine q trivial rfl rfl (asg (v := .slice A1 (((hexN l k) ++ [(16 * (idxB hexDs (l.getD (2 * k) 0))) + (idxB hexDs (l.getD ((2 * k) + 1) 0))]).length) c1) rfl) ?_
            refine nl ?_
            refine bN ?_
            refine nN ?_
            refine rg ?_
            refine q trivial rfl rfl (mv (v := .int .i64 ((2 * k : Nat) : Int)) rfl) ?_
            refine q trivial rfl rfl (add (a := ((2 * k : Nat) : Int)) (b := 2) rfl rfl (by have := dig_bd (l.getD (2 * k) 0); have := dig_bd (l.getD (2 * k + 1) 0); exact ⟨by omega, by omega⟩)) ?_
            refine q trivial rfl rfl (asg (v := .int .i64 (((2 * k : Nat) : Int) + 2)) rfl) ?_
            refine nl ?_
            refine nN ?_
            have e15 : (hexN l k) ++ [(16 * (idxB hexDs (l.getD (2 * k) 0))) + (idxB hexDs (l.getD ((2 * k) + 1) 0))] = hexN l (k + 1) := by exact hexN_succ l k
            have e16 : ((hexN l k) ++ [(16 * (idxB hexDs (l.getD (2 * k) 0))) + (idxB hexDs (l.getD ((2 * k) + 1) 0))]).length = (hexN l (k + 1)).length := by rw [e15]
            refine ⟨(A1, c1, k + 1), ⟨⟨rfl, (show (.slice A1 (((hexN l k) ++ [(16 * (idxB hexDs (l.getD (2 * k) 0))) + (idxB hexDs (l.getD ((2 * k) + 1) 0))]).length) c1 : Value) = .slice A1 ((hexN l (k + 1)).length) c1 from slv rfl e16 rfl), (show (.int .i64 (((2 * k : Nat) : Int) + 2) : Value) = .int .i64 ((2 * (k + 1) : Nat) : Int) from congrArg (Value.int .i64) (by omega)), trivial⟩, (by omega), (hexOk_step hg (by omega) (by omega)), ((hs8.pick [1] rfl (by decide)).cast (lc (own_eq (g := I) rfl e16 rfl e15) rfl))⟩, ?_⟩
            show l.length - (k + 1) < l.length - k
            omega
      · refine ex (tE (tE (bE ?_)))
        refine nN ?_
        refine sq ?_
        refine rg ?_
        refine q trivial rfl rfl (mv (v := .slice Ag4 ((hexN l k).length) cg4) rfl) ?_
        refine q trivial rfl rfl (asg (v := .slice Ag4 ((hexN l k).length) cg4) rfl) ?_
        refine q trivial rfl rfl (asg (v := .bool true) rfl) ?_
        refine nl ?_
        refine nN ?_
        refine rt ?_
        refine fret (v := .tuple #[.slice Ag4 ((hexN l k).length) cg4, .bool true]) (.tmp (.tmp .nil)) rfl ?_
        have e17 : hexN l k = (hexFrom l).1 := by rw [hex_good (by omega) (by omega) (by omega) hg]
        have e18 : (hexN l k).length = ((hexFrom l).1).length := by rw [← e17]
        have e19 : true = (hexFrom l).2 := by rw [hex_good (by omega) (by omega) (by omega) hg]
        exact ⟨Ag4, cg4, (tup2 (slv rfl e18 rfl) (congrArg (Value.bool) e19)), (hs2.cast (lc (own_eq (g := I) rfl e18 rfl e17) rfl))⟩

theorem iHexFrom (l : List UInt8) (w : World) (hl_n : l.length ≤ 1099511627776) : Does Try.prog 10 [Str l] w (fun v w' => ∃ Ar : Option Addr, ∃ cr : Nat, v = .tuple #[.slice Ar ((hexFrom l).1).length cr, .bool ((hexFrom l).2)] ∧ SH w w' [] [.own Ar (((hexFrom l).1).length) cr 3 1 (((hexFrom l).1).map I)]) := by
  refine fn_enter (N := 46) Try.func10 rfl (by kernel_rfl) rfl rfl rfl ?_
  have hs0 : SH w w [] [] := SH.refl w []
  refine sq ?_
  refine rg ?_
  refine q trivial rfl rfl (asg (v := .slice none 0 0) rfl) ?_
  refine q trivial rfl rfl (asg (v := .bool false) rfl) ?_
  refine nl ?_
  refine nN ?_
  refine sq ?_
  refine sq ?_
  refine rg ?_
  refine q trivial rfl rfl (mv (v := Str l) rfl) ?_
  refine q trivial rfl rfl (lnS (l := l) st9 rfl) ?_
  refine q trivial rfl rfl (rem (a := ((l.length : Nat) : Int)) (b := 2) rfl rfl (by omega) (by omega)) ?_
  refine q trivial rfl rfl (eqi (k := .i64) (a := ((l.length : Nat) : Int) % 2) (b := 1) rfl rfl) ?_
  refine q trivial rfl rfl (mv (v := .bool (decide ((((l.length : Nat) : Int) % 2) = 1))) rfl) ?_
  refine spd (p := (((l.length : Nat) : Int) % 2) = 1) 12 rfl (fun h1 => ?_) (fun h1 => ?_)
  · refine gk true rfl rfl rfl rfl rfl ?_
    refine gk true rfl rfl rfl rfl rfl ?_
    refine gk true rfl rfl rfl rfl rfl ?_
    refine q trivial rfl rfl (pt (v := .bool true) rfl rfl) ?_
    refine nl ?_
    refine nN ?_
    refine cdt rfl ?_
    refine sq ?_
    refine rg ?_
    refine q trivial rfl rfl (asg (v := .slice none 0 0) rfl) ?_
    refine q trivial rfl rfl (asg (v := .bool false) rfl) ?_
    refine nl ?_
    refine nN ?_
    refine rt (tR ?_)
    refine fret (v := .tuple #[.slice none 0 0, .bool false]) (.tmp (.tmp .nil)) rfl ?_
    have e1 : ([] : List Int) = (hexFrom l).1 := by rw [hex_size (by omega)]
    have e2 : 0 = ((hexFrom l).1).length := by rw [← e1]; rfl
    have e3 : false = (hexFrom l).2 := by rw [hex_size (by omega)]
    exact ⟨none, 0, (tup2 (slv rfl e2 rfl) (congrArg (Value.bool) e3)), ((SH.nils (L' := [.own none 0 0 3 1 (([] : List Int).map I)]) (by intro i hi; simp at hi; subst hi; exact nilItem) hs0).cast (lc (own_eq (g := I) rfl e2 rfl e1) rfl))⟩
  · refine q ⟨_, rfl, rfl⟩ rfl rfl (mv (v := Str l) rfl) ?_
    refine q ⟨_, rfl, rfl⟩ rfl rfl (lnS (l := l) st9 rfl) ?_
    refine q ⟨_, rfl, rfl⟩ rfl rfl (gtr (k := .i64) (a := ((l.length : Nat) : Int)) (b := 240) rfl rfl) ?_
    refine q trivial rfl rfl (pf (v := .bool (decide ((240 : Int) < ((l.length : Nat) : Int)))) rfl rfl) ?_
    refine nl ?_
    refine nN ?_
    refine cdd (p := (240 : Int) < ((l.length : Nat) : Int)) rfl (fun h2 => ?_) (fun h2 => ?_)
    · refine sq ?_
      refine rg ?_
      refine q trivial rfl rfl (asg (v := .slice none 0 0) rfl) ?_
      refine q trivial rfl rfl (asg (v := .bool false) rfl) ?_
      refine nl ?_
      refine nN ?_
      refine rt (tR ?_)
      refine fret (v := .tuple #[.slice none 0 0, .bool false]) (.tmp (.tmp .nil)) rfl ?_
      have e4 : ([] : List Int) = (hexFrom l).1 := by rw [hex_size (by omega)]
      have e5 : 0 = ((hexFrom l).1).length := by rw [← e4]; rfl
      have e6 : false = (hexFrom l).2 := by rw [hex_size (by omega)]
      exact ⟨none, 0, (tup2 (slv rfl e5 rfl) (congrArg (Value.bool) e6)), ((SH.nils (L' := [.own none 0 0 3 1 (([] : List Int).map I)]) (by intro i hi; simp at hi; subst hi; exact nilItem) hs0).cast (lc (own_eq (g := I) rfl e5 rfl e4) rfl))⟩
    · refine sk ?_
      refine nN ?_
      refine sq ?_
      refine rg ?_
      refine q trivial rfl rfl (asg (v := .slice none 0 0) rfl) ?_
      refine nl ?_
      refine nN ?_
      refine sq ?_
      refine sq ?_
      refine rg ?_
      refine q trivial rfl rfl (asg (v := .int .i64 0) rfl) ?_
      refine nl ?_
      refine nN ?_
      refine bl ?_
      have hs1 : SH w w [] [.own none (([] : List Int).length) 0 3 1 (([] : List Int).map I)] := SH.nils (by intro i hi; simp at hi; subst hi; exact nilItem) hs0
      have e7 : ([] : List Int) = hexN l 0 := by rfl
      have e8 : ([] : List Int).length = (hexN l 0).length := by rw [e7]
      refine lp (σ := (Option Addr) × Nat × Nat) (fun ⟨Ag4, cg4, k⟩ f w' => Has f [(0, Str l), (4, .slice Ag4 ((hexN l k).length) cg4), (5, .int .i64 ((2 * k : Nat) : Int))] ∧ (k ≤ l.length / 2) ∧ (∀ j, j < k → hexOk l j = true) ∧ SH w w' [] [.own Ag4 ((hexN l k).length) cg4 3 1 ((hexN l k).map I)]) (fun ⟨Ag4, cg4, k⟩ => l.length - k) (none, 0, 0) ⟨⟨rfl, (show (.slice none (([] : List Int).length) 0 : Value) = .slice none ((hexN l 0).length) 0 from slv rfl e8 rfl), (show (.int .i64 0 : Value) = .int .i64 ((2 * 0 : Nat) : Int) from congrArg (Value.int .i64) (by simp)), trivial⟩, (by simp), (by intro j hj; omega), (hs1.cast (lc (own_eq (g := I) rfl e8 rfl e7) rfl))⟩ ?_
      rintro ⟨Ag4, cg4, k⟩ f w1 ⟨hf, hk, hg, hs2⟩
      obtain ⟨g1, rfl⟩ := has_upd hf
      clear hf
      refine sq ?_
      refine sq ?_
      refine rg ?_
      refine q trivial rfl rfl (mv (v := .int .i64 ((2 * k : Nat) : Int)) rfl) ?_
      refine q trivial rfl rfl (mv (v := Str l) rfl) ?_
      refine q trivial rfl rfl (lnS (l := l) st9 rfl) ?_
      refine q trivial rfl rfl (lss (k := .i64) (a := ((2 * k : Nat) : Int)) (b := ((l.length : Nat) : Int)) rfl rfl) ?_
      refine nl ?_
      refine nN ?_
      refine cdd (p := ((2 * k : Nat) : Int) < ((l.length : Nat) : Int)) rfl (fun h3 => ?_) (fun h3 => ?_)
      · refine sk ?_
        refine nN ?_
        refine sq ?_
        refine bl ?_
        refine sq ?_
        refine rq (fun w' => SH w w' [] [.own Ag4 ((hexN l k).length) cg4 3 1 ((hexN l k).map I)]) mixed (by kernel_rfl) hs2.drew ?_
        refine qq trivial rfl rfl (fun wq hsq => mv (v := Str l) rfl) ?_
        refine qq trivial rfl rfl (fun wq hsq => mv (v := .int .i64 ((2 * k : Nat) : Int)) rfl) ?_
        refine qq trivial rfl rfl (fun wq hsq => ixs (l := l) (2 * k) st9 rfl rfl (by first | omega | (simp; omega))) ?_
        refine qc (.int .i64 (idxB hexDs (l.getD (2 * k) 0))) trivial rfl (fun wq hsq => (stIndexByte (l := hexDs) (c := (l.getD (2 * k) 0)) (w := _)).mono (fun v w' h => ⟨h.1, by simpa using hsq.call0 h.2⟩)) ?_
        refine qq trivial rfl rfl (fun wq hsq => mv (v := Str l) rfl) ?_
        refine qq trivial rfl rfl (fun wq hsq => mv (v := .int .i64 ((2 * k : Nat) : Int)) rfl) ?_
        refine qq trivial rfl rfl (fun wq hsq => add (a := ((2 * k : Nat) : Int)) (b := 1) rfl rfl (by have := dig_bd (l.getD (2 * k) 0); have := dig_bd (l.getD (2 * k + 1) 0); exact ⟨by omega, by omega⟩)) ?_
        refine qq trivial rfl rfl (fun wq hsq => ixs (l := l) ((2 * k) + 1) st9 rfl rfl (by first | omega | (simp; omega))) ?_
        refine qc (.int .i64 (idxB hexDs (l.getD ((2 * k) + 1) 0))) trivial rfl (fun wq hsq => (stIndexByte (l := hexDs) (c := (l.getD ((2 * k) + 1) 0)) (w := _)).mono (fun v w' h => ⟨h.1, by simpa using hsq.call0 h.2⟩)) ?_
        refine qq trivial rfl rfl (fun wq hsq => asg (v := .int .i64 (idxB hexDs (l.getD (2 * k) 0))) rfl) ?_
        refine qq trivial rfl rfl (fun wq hsq => asg (v := .int .i64 (idxB hexDs (l.getD ((2 * k) + 1) 0))) rfl) ?_
        refine qn (fun w2 hs3 => ?_)
        refine nN ?_
        refine sq ?_
        refine sq ?_
        refine rg ?_
        refine q trivial rfl rfl (mv (v := .int .i64 (idxB hexDs (l.getD (2 * k) 0))) rfl) ?_
        refine q trivial rfl rfl (lss (k := .i64) (a := idxB hexDs (l.getD (2 * k) 0)) (b := 0) rfl rfl) ?_
        refine q trivial rfl rfl (mv (v := .bool (decide ((idxB hexDs (l.getD (2 * k) 0)) < 0))) rfl) ?_
        refine spd (p := (idxB hexDs (l.getD (2 * k) 0)) < 0) 34 rfl (fun h4 => ?_) (fun h4 => ?_)
        · refine gk true rfl rfl rfl rfl rfl ?_
          refine gk true rfl rfl rfl rfl rfl ?_
          refine q trivial rfl rfl (pt (v := .bool true) rfl rfl) ?_
          refine nl ?_
          refine nN ?_
          refine cdt rfl ?_
          refine sq ?_
          refine rg ?_
          refine q trivial rfl rfl (asg (v := .slice none 0 0) rfl) ?_
          refine q trivial rfl rfl (asg (v := .bool false) rfl) ?_
          refine nl ?_
          refine nN ?_
          refine rt (tR (bR (tR (tR (bR (tR ?_))))))
          refine fret (v := .tuple #[.slice none 0 0, .bool false]) (.tmp (.tmp .nil)) rfl ?_
          have e9 : ([] : List Int) = (hexFrom l).1 := by rw [hex_bad (k := k) (by omega) (hexOk_no (by omega))]
          have e10 : 0 = ((hexFrom l).1).length := by rw [← e9]; rfl
          have e11 : false = (hexFrom l).2 := by rw [hex_bad (k := k) (by omega) (hexOk_no (by omega))]
          exact ⟨none, 0, (tup2 (slv rfl e10 rfl) (congrArg (Value.bool) e11)), ((SH.nils (L' := [.own none 0 0 3 1 (([] : List Int).map I)]) (by intro i hi; simp at hi; subst hi; exact nilItem) (hs3.pick (L' := []) [] rfl (by decide))).cast (lc (own_eq (g := I) rfl e10 rfl e9) rfl))⟩
        · refine q ⟨_, rfl, rfl⟩ rfl rfl (mv (v := .int .i64 (idxB hexDs (l.getD ((2 * k) + 1) 0))) rfl) ?_
          refine q ⟨_, rfl, rfl⟩ rfl rfl (lss (k := .i64) (a := idxB hexDs (l.getD ((2 * k) + 1) 0)) (b := 0) rfl rfl) ?_
          refine q trivial rfl rfl (pf (v := .bool (decide ((idxB hexDs (l.getD ((2 * k) + 1) 0)) < 0))) rfl rfl) ?_
          refine nl ?_
          refine nN ?_
          refine cdd (p := (idxB hexDs (l.getD ((2 * k) + 1) 0)) < 0) rfl (fun h5 => ?_) (fun h5 => ?_)
          · refine sq ?_
            refine rg ?_
            refine q trivial rfl rfl (asg (v := .slice none 0 0) rfl) ?_
            refine q trivial rfl rfl (asg (v := .bool false) rfl) ?_
            refine nl ?_
            refine nN ?_
            refine rt (tR (bR (tR (tR (bR (tR ?_))))))
            refine fret (v := .tuple #[.slice none 0 0, .bool false]) (.tmp (.tmp .nil)) rfl ?_
            have e12 : ([] : List Int) = (hexFrom l).1 := by rw [hex_bad (k := k) (by omega) (hexOk_no (by omega))]
            have e13 : 0 = ((hexFrom l).1).length := by rw [← e12]; rfl
            have e14 : false = (hexFrom l).2 := by rw [hex_bad (k := k) (by omega) (hexOk_no (by omega))]
            exact ⟨none, 0, (tup2 (slv rfl e13 rfl) (congrArg (Value.bool) e14)), ((SH.nils (L' := [.own none 0 0 3 1 (([] : List Int).map I)]) (by intro i hi; simp at hi; subst hi; exact nilItem) (hs3.pick (L' := []) [] rfl (by decide))).cast (lc (own_eq (g := I) rfl e13 rfl e12) rfl))⟩
          · refine sk ?_
            refine nN ?_
            refine rg ?_
            refine q trivial rfl rfl (mv (v := .slice Ag4 ((hexN l k).length) cg4) rfl) ?_
            refine q trivial rfl rfl (mv (v := .int .i64 (idxB hexDs (l.getD (2 * k) 0))) rfl) ?_
            refine q trivial rfl rfl (mul (a := 16) (b := idxB hexDs (l.getD (2 * k) 0)) rfl rfl (by have := dig_bd (l.getD (2 * k) 0); have := dig_bd (l.getD (2 * k + 1) 0); exact ⟨by omega, by omega⟩)) ?_
            refine q trivial rfl rfl (mv (v := .int .i64 (idxB hexDs (l.getD ((2 * k) + 1) 0))) rfl) ?_
            refine q trivial rfl rfl (add (a := 16 * (idxB hexDs (l.getD (2 * k) 0))) (b := idxB hexDs (l.getD ((2 * k) + 1) 0)) rfl rfl (by have := dig_bd (l.getD (2 * k) 0); have := dig_bd (l.getD (2 * k + 1) 0); exact ⟨by omega, by omega⟩)) ?_
            refine Go.PF.bs hs3 sl22 [(0, .int .i64 ((16 * (idxB hexDs (l.getD (2 * k) 0))) + (idxB hexDs (l.getD ((2 * k) + 1) 0))))] rfl (cs := [.int .i64 ((16 * (idxB hexDs (l.getD (2 * k) 0))) + (idxB hexDs (l.getD ((2 * k) + 1) 0)))]) (by kernel_rfl) rfl (by decide) (by decide) trivial rfl (fun b1 w3 (hs4 : SH w w3 [] [.own Ag4 ((hexN l k).length) cg4 3 1 ((hexN l k).map I), .own (some ⟨b1, 0, none⟩) ([(16 * (idxB hexDs (l.getD (2 * k) 0))) + (idxB hexDs (l.getD ((2 * k) + 1) 0))].length) 1 3 1 ([(16 * (idxB hexDs (l.getD (2 * k) 0))) + (idxB hexDs (l.getD ((2 * k) + 1) 0))].map I)]) => ?_)
            refine apm (g := I) (ys := hexN l k) (zs := [(16 * (idxB hexDs (l.getD (2 * k) 0))) + (idxB hexDs (l.getD ((2 * k) + 1) 0))]) hs4 0 rfl sl22 rfl rfl rfl (hs4.sl0 1 rfl) (fun _ => rfl) (by unfold maxLen; first | omega | (simp; omega)) (by first | omega | (simp; omega)) trivial rfl (fun A1 c1 w4 (hs5 : SH w w4 [] [.own (some ⟨b1, 0, none⟩) ([(16 * (idxB hexDs (l.getD (2 * k) 0))) + (idxB hexDs (l.getD ((2 * k) + 1) 0))].length) 1 3 1 ([(16 * (idxB hexDs (l.getD (2 * k) 0))) + (idxB hexDs (l.getD ((2 * k) + 1) 0))].map I), .own A1 (((hexN l k) ++ [(16 * (idxB hexDs (l.getD (2 * k) 0))) + (idxB hexDs (l.getD ((2 * k) + 1) 0))]).length) c1 3 1 (((hexN l k) ++ [(16 * (idxB hexDs (l.getD (2 * k) 0))) + (idxB hexDs (l.getD ((2 * k) + 1) 0))]).map I)]) => ?_)
            refine q trivial rfl rfl (asg (v := .slice A1 (((hexN l k) ++ [(16 * (idxB hexDs (l.getD (2 * k) 0))) + (idxB hexDs (l.getD ((2 * k) + 1) 0))]).length) c1) rfl) ?_
            refine nl ?_
            refine bN ?_
            refine nN ?_
            refine rg ?_
            refine q trivial rfl rfl (mv (v := .int .i64 ((2 * k : Nat) : Int)) rfl) ?_
            refine q trivial rfl rfl (add (a := ((2 * k : Nat) : Int)) (b := 2) rfl rfl (by have := dig_bd (l.getD (2 * k) 0); have := dig_bd (l.getD (2 * k + 1) 0); exact ⟨by omega, by omega⟩)) ?_
            refine q trivial rfl rfl (asg (v := .int .i64 (((2 * k : Nat) : Int) + 2)) rfl) ?_
            refine nl ?_
            refine nN ?_
            have e15 : (hexN l k) ++ [(16 * (idxB hexDs (l.getD (2 * k) 0))) + (idxB hexDs (l.getD ((2 * k) + 1) 0))] = hexN l (k + 1) := by exact hexN_succ l k
            have e16 : ((hexN l k) ++ [(16 * (idxB hexDs (l.getD (2 * k) 0))) + (idxB hexDs (l.getD ((2 * k) + 1) 0))]).length = (hexN l (k + 1)).length := by rw [e15]
            refine ⟨(A1, c1, k + 1), ⟨⟨rfl, (show (.slice A1 (((hexN l k) ++ [(16 * (idxB hexDs (l.getD (2 * k) 0))) + (idxB hexDs (l.getD ((2 * k) + 1) 0))]).length) c1 : Value) = .slice A1 ((hexN l (k + 1)).length) c1 from slv rfl e16 rfl), (show (.int .i64 (((2 * k : Nat) : Int) + 2) : Value) = .int .i64 ((2 * (k + 1) : Nat) : Int) from congrArg (Value.int .i64) (by omega)), trivial⟩, (by omega), (hexOk_step hg (by omega) (by omega)), ((hs5.pick [1] rfl (by decide)).cast (lc (own_eq (g := I) rfl e16 rfl e15) rfl))⟩, ?_⟩
            show l.length - (k + 1) < l.length - k
            omega
      · refine ex (tE (tE (bE ?_)))
        refine nN ?_
        refine sq ?_
        refine rg ?_
        refine q trivial rfl rfl (mv (v := .slice Ag4 ((hexN l k).length) cg4) rfl) ?_
        refine q trivial rfl rfl (asg (v := .slice Ag4 ((hexN l k).length) cg4) rfl) ?_
        refine q trivial rfl rfl (asg (v := .bool true) rfl) ?_
        refine nl ?_
        refine nN ?_
        refine rt ?_
        refine fret (v := .tuple #[.slice Ag4 ((hexN l k).length) cg4, .bool true]) (.tmp (.tmp .nil)) rfl ?_
        have e17 : hexN l k = (hexFrom l).1 := by rw [hex_good (by omega) (by omega) (by omega) hg]
        have e18 : (hexN l k).length = ((hexFrom l).1).length := by rw [← e17]
        have e19 : true = (hexFrom l).2 := by rw [hex_good (by omega) (by omega) (by omega) hg]
        exact ⟨Ag4, cg4, (tup2 (slv rfl e18 rfl) (congrArg (Value.bool) e19)), (hs2.cast (lc (own_eq (g := I) rfl e18 rfl e17) rfl))⟩

theorem sHexText {Axs : Option Addr} {cxs : Nat} (xs : List Int) (w : World) (hxs : Sl w [] 1 Axs xs.length cxs (xs.map I)) : Does Try.prog 14 [.slice Axs xs.length cxs] w (fun v w' => v = Str (hexText xs) ∧ SH w w' [] []) := by
  refine fn_enter (N := 45) Try.func14 rfl (by kernel_rfl) rfl rfl rfl ?_
  have hs0 : SH w w [] [] := SH.refl w []
  have hxs_m : xs.length ≤ 9223372036854775807 := Nat.le_trans hxs.cap hxs.capMax
  refine sq ?_
  refine rg ?_
  refine q trivial rfl rfl (asg (v := Str []) rfl) ?_
  refine nl ?_
  refine nN ?_
  refine sq ?_
  refine rg ?_
  refine q trivial rfl rfl (asg (v := Str []) rfl) ?_
  refine nl ?_
  refine nN ?_
  refine sq ?_
  refine sq ?_
  refine rg ?_
  refine q trivial rfl rfl (asg (v := .int .i64 0) rfl) ?_
  refine nl ?_
  refine nN ?_
  refine bl ?_
  refine lp (σ := Nat) (fun (k : Nat) f w' => Has f [(0, .slice Axs xs.length cxs), (3, Str (hexT xs k)), (4, .int .i64 ((k : Nat) : Int))] ∧ (k ≤ xs.length) ∧ (0 < k → isBytes xs = true) ∧ SH w w' [] []) (fun k => xs.length - k) 0 ⟨⟨rfl, (show (Str [] : Value) = Str (hexT xs 0) from congrArg (Str) (by rfl)), rfl, trivial⟩, (by simp), (by intro h; omega), hs0⟩ ?_
  rintro k f w1 ⟨hf, hk, hb, hs1⟩
  obtain ⟨g1, rfl⟩ := has_upd hf
  clear hf
  refine sq ?_
  refine sq ?_
  refine rg ?_
  refine q trivial rfl rfl (mv (v := .int .i64 ((k : Nat) : Int)) rfl) ?_
  refine q trivial rfl rfl (mv (v := .slice Axs xs.length cxs) rfl) ?_
  refine q trivial rfl rfl (lnA (n := xs.length) sl22 rfl) ?_
  refine q trivial rfl rfl (lss (k := .i64) (a := ((k : Nat) : Int)) (b := ((xs.length : Nat) : Int)) rfl rfl) ?_
  refine q trivial rfl rfl (mv (v := .bool (decide (((k : Nat) : Int) < ((xs.length : Nat) : Int)))) rfl) ?_
  refine spd (p := ((k : Nat) : Int) < ((xs.length : Nat) : Int)) 9 rfl (fun h1 => ?_) (fun h1 => ?_)
  · refine q ⟨_, rfl, rfl⟩ rfl rfl (mv (v := .slice Axs xs.length cxs) rfl) ?_
    refine cl ⟨_, rfl, rfl⟩ rfl (sBytesValid (Azs := Axs) (czs := cxs) (zs := xs) (w := _) (hzs := (hxs.up0 hs1))) ?_
    rintro _ w2 ⟨rfl, hs2'⟩
    have hs2 : SH w w2 [] [] := hs1.call0 hs2'
    clear hs2'
    refine q trivial rfl rfl (pt (v := .bool (isBytes xs)) rfl rfl) ?_
    refine nl ?_
    refine nN ?_
    refine cd (b := isBytes xs) rfl (fun h2 => ?_) (fun h2 => ?_)
    · refine sk ?_
      refine nN ?_
      refine sq ?_
      refine bl ?_
      refine rq (fun w' => SH w w' [] []) mixed (by kernel_rfl) hs2.drew ?_
      refine qq trivial rfl rfl (fun wq hsq => mv (v := Str (hexT xs k)) rfl) ?_
      refine qc (Str hexDs) trivial rfl (fun wq hsq => (sDigits (w := _)).mono (fun v w' h => ⟨h.1, by simpa using hsq.call0 h.2⟩)) ?_
      refine qq trivial rfl rfl (fun wq hsq => mv (v := .slice Axs xs.length cxs) rfl) ?_
      refine qq trivial rfl rfl (fun wq hsq => mv (v := .int .i64 ((k : Nat) : Int)) rfl) ?_
      refine ixq1 k sl22 rfl rfl hxs (by first | omega | (simp; omega)) (getm I 0 (by first | omega | (simp; omega))) trivial rfl (fun a1 ha1 => ?_)
      refine qq trivial rfl rfl (fun wq hsq => lda (v := .int .i64 (xs.getD k 0)) hsq ha1 (fun _ h => h) rfl rfl one3) ?_
      refine qq trivial rfl rfl (fun wq hsq => quo (a := xs.getD k 0) (b := 16) rfl rfl (by have hy := isBytes_get (by assumption : isBytes xs = true) (k := k) (by omega); omega) (by have hy := isBytes_get (by assumption : isBytes xs = true) (k := k) (by omega); omega) (by have hy := isBytes_get (by assumption : isBytes xs = true) (k := k) (by omega); omega)) ?_
      refine qq trivial rfl rfl (fun wq hsq => mv (v := .slice Axs xs.length cxs) rfl) ?_
      refine qq trivial rfl rfl (fun wq hsq => mv (v := .int .i64 ((k : Nat) : Int)) rfl) ?_
      refine ixq1 k sl22 rfl rfl hxs (by first | omega | (simp; omega)) (getm I 0 (by first | omega | (simp; omega))) trivial rfl (fun a2 ha2 => ?_)
      refine qq trivial rfl rfl (fun wq hsq => lda (v := .int .i64 (xs.getD k 0)) hsq ha2 (fun _ h => h) rfl rfl one3) ?_
      refine qq trivial rfl rfl (fun wq hsq => quo (a := xs.getD k 0) (b := 16) rfl rfl (by have hy := isBytes_get (by assumption : isBytes xs = true) (k := k) (by omega); omega) (by have hy := isBytes_get (by assumption : isBytes xs = true) (k := k) (by omega); omega) (by have hy := isBytes_get (by assumption : isBytes xs = true) (k := k) (by omega); omega)) ?_
      refine qq trivial rfl rfl (fun wq hsq => add (a := (xs.getD k 0) / 16) (b := 1) rfl rfl (by have hy := isBytes_get (by assumption : isBytes xs = true) (k := k) (by omega); exact ⟨by omega, by omega⟩)) ?_
      refine qq trivial rfl rfl (fun wq hsq => cus (l := hexDs) (((xs.getD k 0) / 16).toNat) ((((xs.getD k 0) / 16) + 1).toNat) st9 rfl (ieq (x := (xs.getD k 0) / 16) (by have hy := isBytes_get (by assumption : isBytes xs = true) (k := k) (by omega); omega)) (ieq (x := ((xs.getD k 0) / 16) + 1) (by have hy := isBytes_get (by assumption : isBytes xs = true) (k := k) (by omega); omega)) (by have hy := isBytes_get (by assumption : isBytes xs = true) (k := k) (by omega); have := hexDs_len; omega) (by have hy := isBytes_get (by assumption : isBytes xs = true) (k := k) (by omega); have := hexDs_len; omega)) ?_
      refine qq trivial rfl rfl (fun wq hsq => cat (l := hexT xs k) (m := (hexDs.take ((((xs.getD k 0) / 16) + 1).toNat)).drop (((xs.getD k 0) / 16).toNat)) rfl rfl (by have := hexT_len xs k; have := isBytes_len (by assumption : isBytes xs = true); simp [hexDs_len]; omega)) ?_
      refine qc (Str hexDs) trivial rfl (fun wq hsq => (sDigits (w := _)).mono (fun v w' h => ⟨h.1, by simpa using hsq.call0 h.2⟩)) ?_
      refine qq trivial rfl rfl (fun wq hsq => mv (v := .slice Axs xs.length cxs) rfl) ?_
      refine qq trivial rfl rfl (fun wq hsq => mv (v := .int .i64 ((k : Nat) : Int)) rfl) ?_
      refine ixq1 k sl22 rfl rfl hxs (by first | omega | (simp; omega)) (getm I 0 (by first | omega | (simp; omega))) trivial rfl (fun a3 ha3 => ?_)
      refine qq trivial rfl rfl (fun wq hsq => lda (v := .int .i64 (xs.getD k 0)) hsq ha3 (fun _ h => h) rfl rfl one3) ?_
      refine qq trivial rfl rfl (fun wq hsq => rem (a := xs.getD k 0) (b := 16) rfl rfl (by have hy := isBytes_get (by assumption : isBytes xs = true) (k := k) (by omega); omega) (by have hy := isBytes_get (by assumption : isBytes xs = true) (k := k) (by omega); omega)) ?_
      refine qq trivial rfl rfl (fun wq hsq => mv (v := .slice Axs xs.length cxs) rfl) ?_
      refine qq trivial rfl rfl (fun wq hsq => mv (v := .int .i64 ((k : Nat) : Int)) rfl) ?_
      refine ixq1 k sl22 rfl rfl hxs (by first | omega | (simp; omega)) (getm I 0 (by first | omega | (simp; omega))) trivial rfl (fun a4 ha4 => ?_)
      refine qq trivial rfl rfl (fun wq hsq => lda (v := .int .i64 (xs.getD k 0)) hsq ha4 (fun _ h => h) rfl rfl one3) ?_
      refine qq trivial rfl rfl (fun wq hsq => rem (a := xs.getD k 0) (b := 16) rfl rfl (by have hy := isBytes_get (by assumption : isBytes xs = true) (k := k) (by omega); omega) (by have hy := isBytes_get (by assumption : isBytes xs = true) (k := k) (by omega); omega)) ?_
      refine qq trivial rfl rfl (fun wq hsq => add (a := (xs.getD k 0) % 16) (b := 1) rfl rfl (by have hy := isBytes_get (by assumption : isBytes xs = true) (k := k) (by omega); exact ⟨by omega, by omega⟩)) ?_
      refine qq trivial rfl rfl (fun wq hsq => cus (l := hexDs) (((xs.getD k 0) % 16).toNat) ((((xs.getD k 0) % 16) + 1).toNat) st9 rfl (ieq (x := (xs.getD k 0) % 16) (by have hy := isBytes_get (by assumption : isBytes xs = true) (k := k) (by omega); omega)) (ieq (x := ((xs.getD k 0) % 16) + 1) (by have hy := isBytes_get (by assumption : isBytes xs = true) (k := k) (by omega); omega)) (by have hy := isBytes_get (by assumption : isBytes xs = true) (k := k) (by omega); have := hexDs_len; omega) (by have hy := isBytes_get (by assumption : isBytes xs = true) (k := k) (by omega); have := hexDs_len; omega)) ?_
      refine qq trivial rfl rfl (fun wq hsq => cat (l := (hexT xs k) ++ ((hexDs.take ((((xs.getD k 0) / 16) + 1).toNat)).drop (((xs.getD k 0) / 16).toNat))) (m := (hexDs.take ((((xs.getD k 0) % 16) + 1).toNat)).drop (((xs.getD k 0) % 16).toNat)) rfl rfl (by have := hexT_len xs k; have := isBytes_len (by assumption : isBytes xs = true); simp [hexDs_len]; omega)) ?_
      refine qq trivial rfl rfl (fun wq hsq => asg (v := Str (((hexT xs k) ++ ((hexDs.take ((((xs.getD k 0) / 16) + 1).toNat)).drop (((xs.getD k 0) / 16).toNat))) ++ ((hexDs.take ((((xs.getD k 0) % 16) + 1).toNat)).drop (((xs.getD k 0) % 16).toNat)))) rfl) ?_
      refine qn (fun w3 hs3 => ?_)
      refine bN ?_
      refine nN ?_
      refine rg ?_
      refine q trivial rfl rfl (mv (v := .int .i64 ((k : Nat) : Int)) rfl) ?_
      refine q trivial rfl rfl (add (a := ((k : Nat) : Int)) (b := 1) rfl rfl (by have hy := isBytes_get (by assumption : isBytes xs = true) (k := k) (by omega); exact ⟨by omega, by omega⟩)) ?_
      refine q trivial rfl rfl (asg (v := .int .i64 (((k : Nat) : Int) + 1)) rfl) ?_
      refine nl ?_
      refine nN ?_
      refine ⟨(k + 1), ⟨⟨rfl, (show (Str (((hexT xs k) ++ ((hexDs.take ((((xs.getD k 0) / 16) + 1).toNat)).drop (((xs.getD k 0) / 16).toNat))) ++ ((hexDs.take ((((xs.getD k 0) % 16) + 1).toNat)).drop (((xs.getD k 0) % 16).toNat))) : Value) = Str (hexT xs (k + 1)) from congrArg (Str) (by exact hexT_succ xs k)), rfl, trivial⟩, (by omega), (fun _ => h2), hs3⟩, ?_⟩
      omega
    · refine ex (tE (tE (bE ?_)))
      refine nN ?_
      refine sq ?_
      refine rg ?_
      refine q trivial rfl rfl (mv (v := Str (hexT xs k)) rfl) ?_
      refine q trivial rfl rfl (asg (v := Str (hexT xs k)) rfl) ?_
      refine nl ?_
      refine nN ?_
      refine rt ?_
      refine fret (v := Str (hexT xs k)) (.tmp .nil) rfl ?_
      have e1 : hexT xs k = hexText xs := by exact hexText_at hk hb (by first | exact .inl (by omega) | exact .inr (by simpa using h2))
      exact ⟨(congrArg (Str) e1), hs2⟩
  · refine gk false rfl rfl rfl rfl rfl ?_
    refine gk false rfl rfl rfl rfl rfl ?_
    refine q trivial rfl rfl (pf (v := .bool false) rfl rfl) ?_
    refine nl ?_
    refine nN ?_
    refine cdf rfl ?_
    refine ex (tE (tE (bE ?_)))
    refine nN ?_
    refine sq ?_
    refine rg ?_
    refine q trivial rfl rfl (mv (v := Str (hexT xs k)) rfl) ?_
    refine q trivial rfl rfl (asg (v := Str (hexT xs k)) rfl) ?_
    refine nl ?_
    refine nN ?_
    refine rt ?_
    refine fret (v := Str (hexT xs k)) (.tmp .nil) rfl ?_
    have e2 : hexT xs k = hexText xs := by exact hexText_at hk hb (by first | exact .inl (by omega) | exact .inr (by simpa using h2))
    exact ⟨(congrArg (Str) e2), hs1⟩

theorem pick {rb : Nat} {Ab : Option Addr} {cb : Nat} {bs : List UInt8} {p : Nat} (n : Int) (w : World) (hr : w.heap[rb]? = some (.cells [.slice Ab bs.length cb, .int .i64 ((p : Nat) : Int)].toArray 55 (0, 0))) (hb : Sl w [rb] 1 Ab bs.length cb (bs.map U)) (hbn : bs.length ≤ 2000) (hp : p ≤ 1099511627776) : Does Try.prog 36 [.pointer (some ⟨rb, 0, none⟩), .int .i64 n] w (fun v w' => ∃ r : Int, ∃ q : Nat, v = .int .i64 r ∧ (0 ≤ r ∧ (r < n ∨ r = 0)) ∧ (q ≤ p + 1) ∧ SH w w' [rb] [.blk rb 55 [.slice Ab bs.length cb, .int .i64 ((q : Nat) : Int)]]) := by
  refine fn_enter (N := 99) Try.func36 rfl (by kernel_rfl) rfl rfl rfl ?_
  have hs0 : SH w w [rb] [.blk rb 55 [.slice Ab bs.length cb, .int .i64 ((p : Nat) : Int)]] := SH.entry1 hr
  refine sq ?_
  refine rg ?_
  refine q trivial rfl rfl (asg (v := .int .i64 0) rfl) ?_
  refine nl ?_
  refine nN ?_
  refine sq ?_
  refine rg ?_
  refine q trivial rfl rfl (mv (v := .pointer (some ⟨rb, 0, none⟩)) rfl) ?_
  refine q trivial rfl rfl (mv (v := .pointer (some ⟨rb, 0, none⟩)) rfl) ?_
  refine q trivial rfl rfl (nc rfl) ?_
  refine q trivial rfl rfl (fa 1 fo55_1 rfl) ?_
  refine q trivial rfl rfl (ld (v := .int .i64 ((p : Nat) : Int)) hs0 0 rfl rfl rfl one3) ?_
  refine q trivial rfl rfl (add (a := ((p : Nat) : Int)) (b := 1) rfl rfl (by have h1_ := u8_bd (bs.getD ((p + 1 - 1) % bs.length) 0); have h2_ := u8_bd (bs.getD (((p + 1 - 1) * 7 + 3) % bs.length) 0); have h3_ := div_bd (p + 1 - 1) bs.length; exact ⟨by omega, by omega⟩)) ?_
  refine q trivial rfl rfl (nc rfl) ?_
  refine q trivial rfl rfl (fa 1 fo55_1 rfl) ?_
  refine st (v := .int .i64 (((p : Nat) : Int) + 1)) hs0 0 rfl rfl rfl rfl rfl one3 trivial (fun w1 (hs1 : SH w w1 [rb] [.blk rb 55 [.slice Ab bs.length cb, .int .i64 (((p : Nat) : Int) + 1)]]) => ?_)
  refine nl ?_
  refine nN ?_
  refine sq ?_
  refine sq ?_
  refine rg ?_
  refine q trivial rfl rfl (mv (v := .int .i64 n) rfl) ?_
  refine q trivial rfl rfl (lss (k := .i64) (a := n) (b := 1) rfl rfl) ?_
  refine q trivial rfl rfl (mv (v := .bool (decide (n < 1))) rfl) ?_
  refine spd (p := n < 1) 17 rfl (fun h1 => ?_) (fun h1 => ?_)
  · refine gk true rfl rfl rfl rfl rfl ?_
    refine gk true rfl rfl rfl rfl rfl ?_
    refine gk true rfl rfl rfl rfl rfl ?_
    refine gk true rfl rfl rfl rfl rfl ?_
    refine gk true rfl rfl rfl rfl rfl ?_
    refine gk true rfl rfl rfl rfl rfl ?_
    refine q trivial rfl rfl (pt (v := .bool true) rfl rfl) ?_
    refine nl ?_
    refine nN ?_
    refine cdt rfl ?_
    refine sq ?_
    refine rg ?_
    refine q trivial rfl rfl (asg (v := .int .i64 0) rfl) ?_
    refine nl ?_
    refine nN ?_
    refine rt (tR ?_)
    refine fret (v := .int .i64 0) (.tmp .nil) rfl ?_
    exact ⟨0, p + 1, rfl, (by simp), (by omega), hs1⟩
  · refine q ⟨_, rfl, rfl⟩ rfl rfl (mv (v := .pointer (some ⟨rb, 0, none⟩)) rfl) ?_
    refine q ⟨_, rfl, rfl⟩ rfl rfl (nc rfl) ?_
    refine q ⟨_, rfl, rfl⟩ rfl rfl (fa 0 fo55_0 rfl) ?_
    refine q ⟨_, rfl, rfl⟩ rfl rfl (ld (v := .slice Ab bs.length cb) hs1 0 rfl rfl rfl one31) ?_
    refine q ⟨_, rfl, rfl⟩ rfl rfl (lnA (n := bs.length) sl31 rfl) ?_
    refine q ⟨_, rfl, rfl⟩ rfl rfl (eqi (k := .i64) (a := ((bs.length : Nat) : Int)) (b := 0) rfl rfl) ?_
    refine q trivial rfl rfl (pf (v := .bool (decide (((bs.length : Nat) : Int) = 0))) rfl rfl) ?_
    refine nl ?_
    refine nN ?_
    refine cdd (p := ((bs.length : Nat) : Int) = 0) rfl (fun h2 => ?_) (fun h2 => ?_)
    · refine sq ?_
      refine rg ?_
      refine q trivial rfl rfl (asg (v := .int .i64 0) rfl) ?_
      refine nl ?_
      refine nN ?_
      refine rt (tR ?_)
      refine fret (v := .int .i64 0) (.tmp .nil) rfl ?_
      exact ⟨0, p + 1, rfl, (by simp), (by omega), hs1⟩
    · refine sk ?_
      refine nN ?_
      refine sq ?_
      refine rg ?_
      refine q trivial rfl rfl (mv (v := .pointer (some ⟨rb, 0, none⟩)) rfl) ?_
      refine q trivial rfl rfl (nc rfl) ?_
      refine q trivial rfl rfl (fa 1 fo55_1 rfl) ?_
      refine q trivial rfl rfl (ld (v := .int .i64 (((p : Nat) : Int) + 1)) hs1 0 rfl rfl rfl one3) ?_
      refine q trivial rfl rfl (subN (a := p + 1) (b := 1) rfl rfl (by omega) (by omega)) ?_
      refine q trivial rfl rfl (asg (v := .int .i64 (((p + 1) - 1 : Nat) : Int)) rfl) ?_
      refine nl ?_
      refine nN ?_
      refine sq ?_
      refine sq ?_
      refine rg ?_
      refine q trivial rfl rfl (mv (v := .int .i64 (((p + 1) - 1 : Nat) : Int)) rfl) ?_
      refine q trivial rfl rfl (mv (v := .pointer (some ⟨rb, 0, none⟩)) rfl) ?_
      refine q trivial rfl rfl (nc rfl) ?_
      refine q trivial rfl rfl (fa 0 fo55_0 rfl) ?_
      refine q trivial rfl rfl (ld (v := .slice Ab bs.length cb) hs1 0 rfl rfl rfl one31) ?_
      refine q trivial rfl rfl (lnA (n := bs.length) sl31 rfl) ?_
      refine q trivial rfl rfl (lss (k := .i64) (a := (((p + 1) - 1 : Nat) : Int)) (b := ((bs.length : Nat) : Int)) rfl rfl) ?_
      refine nl ?_
      refine nN ?_
      refine cdd (p := (((p + 1) - 1 : Nat) : Int) < ((bs.length : Nat) : Int)) rfl (fun h3 => ?_) (fun h3 => ?_)
      · refine sq ?_
        refine rg ?_
        refine q trivial rfl rfl (mv (v := .pointer (some ⟨rb, 0, none⟩)) rfl) ?_
        refine q trivial rfl rfl (nc rfl) ?_
        refine q trivial rfl rfl (fa 0 fo55_0 rfl) ?_
        refine q trivial rfl rfl (ld (v := .slice Ab bs.length cb) hs1 0 rfl rfl rfl one31) ?_
        refine q trivial rfl rfl (mv (v := .int .i64 (((p + 1) - 1 : Nat) : Int)) rfl) ?_
        refine ixw1 ((p + 1) - 1) sl31 rfl rfl hb (by first | omega | exact Nat.mod_lt _ (by omega)) (getm U 0 (by first | omega | exact Nat.mod_lt _ (by omega))) trivial rfl (fun a1 ha1 => ?_)
        refine q trivial rfl rfl (lda (v := .int .u8 (((bs.getD ((p + 1) - 1) 0).toNat : Nat) : Int)) hs1 ha1 (fun _ h => h) rfl rfl one5) ?_
        refine q trivial rfl rfl (cvI (a := (((bs.getD ((p + 1) - 1) 0).toNat : Nat) : Int)) (s := .u8) ti5 ti3 rfl (by have := u8_bd ((bs.getD ((p + 1) - 1) 0)); exact ⟨by omega, by omega⟩)) ?_
        refine q trivial rfl rfl (mv (v := .int .i64 n) rfl) ?_
        refine q trivial rfl rfl (rem (a := (((bs.getD ((p + 1) - 1) 0).toNat : Nat) : Int)) (b := n) rfl rfl (by have h1_ := u8_bd (bs.getD ((p + 1 - 1) % bs.length) 0); have h2_ := u8_bd (bs.getD (((p + 1 - 1) * 7 + 3) % bs.length) 0); have h3_ := div_bd (p + 1 - 1) bs.length; omega) (by omega)) ?_
        refine q trivial rfl rfl (asg (v := .int .i64 ((((bs.getD ((p + 1) - 1) 0).toNat : Nat) : Int) % n)) rfl) ?_
        refine nl ?_
        refine nN ?_
        refine rt (tR ?_)
        refine fret (v := .int .i64 ((((bs.getD ((p + 1) - 1) 0).toNat : Nat) : Int) % n)) (.tmp .nil) rfl ?_
        exact ⟨(((bs.getD ((p + 1) - 1) 0).toNat : Nat) : Int) % n, p + 1, rfl, (mod_pos (by omega)), (by omega), hs1⟩
      · refine sk ?_
        refine nN ?_
        refine sq ?_
        refine rq (fun w' => SH w w' [rb] [.blk rb 55 [.slice Ab bs.length cb, .int .i64 (((p : Nat) : Int) + 1)]]) mixed (by kernel_rfl) hs1.drew ?_
        refine qq trivial rfl rfl (fun wq hsq => mv (v := .pointer (some ⟨rb, 0, none⟩)) rfl) ?_
        refine qq trivial rfl rfl (fun wq hsq => nc rfl) ?_
        refine qq trivial rfl rfl (fun wq hsq => fa 0 fo55_0 rfl) ?_
        refine qq trivial rfl rfl (fun wq hsq => ld (v := .slice Ab bs.length cb) hsq 0 rfl rfl rfl one31) ?_
        refine qq trivial rfl rfl (fun wq hsq => mv (v := .int .i64 (((p + 1) - 1 : Nat) : Int)) rfl) ?_
        refine qq trivial rfl rfl (fun wq hsq => mv (v := .pointer (some ⟨rb, 0, none⟩)) rfl) ?_
        refine qq trivial rfl rfl (fun wq hsq => nc rfl) ?_
        refine qq trivial rfl rfl (fun wq hsq => fa 0 fo55_0 rfl) ?_
        refine qq trivial rfl rfl (fun wq hsq => ld (v := .slice Ab bs.length cb) hsq 0 rfl rfl rfl one31) ?_
        refine qq trivial rfl rfl (fun wq hsq => lnA (n := bs.length) sl31 rfl) ?_
        refine qq trivial rfl rfl (fun wq hsq => rem (a := (((p + 1) - 1 : Nat) : Int)) (b := ((bs.length : Nat) : Int)) rfl rfl (by have h1_ := u8_bd (bs.getD ((p + 1 - 1) % bs.length) 0); have h2_ := u8_bd (bs.getD (((p + 1 - 1) * 7 + 3) % bs.length) 0); have h3_ := div_bd (p + 1 - 1) bs.length; omega) (by omega)) ?_
        refine ixq1 (((p + 1) - 1) % bs.length) sl31 rfl rfl hb (by first | omega | exact Nat.mod_lt _ (by omega)) (getm U 0 (by first | omega | exact Nat.mod_lt _ (by omega))) trivial rfl (fun a2 ha2 => ?_)
        refine qq trivial rfl rfl (fun wq hsq => lda (v := .int .u8 (((bs.getD (((p + 1) - 1) % bs.length) 0).toNat : Nat) : Int)) hsq ha2 (fun _ h => h) rfl rfl one5) ?_
        refine qq trivial rfl rfl (fun wq hsq => cvI (a := (((bs.getD (((p + 1) - 1) % bs.length) 0).toNat : Nat) : Int)) (s := .u8) ti5 ti3 rfl (by have := u8_bd ((bs.getD (((p + 1) - 1) % bs.length) 0)); exact ⟨by omega, by omega⟩)) ?_
        refine qq trivial rfl rfl (fun wq hsq => mul (a := (((bs.getD (((p + 1) - 1) % bs.length) 0).toNat : Nat) : Int)) (b := 131) rfl rfl (by have h1_ := u8_bd (bs.getD ((p + 1 - 1) % bs.length) 0); have h2_ := u8_bd (bs.getD (((p + 1 - 1) * 7 + 3) % bs.length) 0); have h3_ := div_bd (p + 1 - 1) bs.length; exact ⟨by omega, by omega⟩)) ?_
        refine qq trivial rfl rfl (fun wq hsq => mv (v := .pointer (some ⟨rb, 0, none⟩)) rfl) ?_
        refine qq trivial rfl rfl (fun wq hsq => nc rfl) ?_
        refine qq trivial rfl rfl (fun wq hsq => fa 0 fo55_0 rfl) ?_
        refine qq trivial rfl rfl (fun wq hsq => ld (v := .slice Ab bs.length cb) hsq 0 rfl rfl rfl one31) ?_
        refine qq trivial rfl rfl (fun wq hsq => mv (v := .int .i64 (((p + 1) - 1 : Nat) : Int)) rfl) ?_
        refine qq trivial rfl rfl (fun wq hsq => mul (a := (((p + 1) - 1 : Nat) : Int)) (b := 7) rfl rfl (by have h1_ := u8_bd (bs.getD ((p + 1 - 1) % bs.length) 0); have h2_ := u8_bd (bs.getD (((p + 1 - 1) * 7 + 3) % bs.length) 0); have h3_ := div_bd (p + 1 - 1) bs.length; exact ⟨by omega, by omega⟩)) ?_
        refine qq trivial rfl rfl (fun wq hsq => add (a := (((p + 1) - 1 : Nat) : Int) * 7) (b := 3) rfl rfl (by have h1_ := u8_bd (bs.getD ((p + 1 - 1) % bs.length) 0); have h2_ := u8_bd (bs.getD (((p + 1 - 1) * 7 + 3) % bs.length) 0); have h3_ := div_bd (p + 1 - 1) bs.length; exact ⟨by omega, by omega⟩)) ?_
        refine qq trivial rfl rfl (fun wq hsq => mv (v := .pointer (some ⟨rb, 0, none⟩)) rfl) ?_
        refine qq trivial rfl rfl (fun wq hsq => nc rfl) ?_
        refine qq trivial rfl rfl (fun wq hsq => fa 0 fo55_0 rfl) ?_
        refine qq trivial rfl rfl (fun wq hsq => ld (v := .slice Ab bs.length cb) hsq 0 rfl rfl rfl one31) ?_
        refine qq trivial rfl rfl (fun wq hsq => lnA (n := bs.length) sl31 rfl) ?_
        refine qq trivial rfl rfl (fun wq hsq => rem (a := ((((p + 1) - 1 : Nat) : Int) * 7) + 3) (b := ((bs.length : Nat) : Int)) rfl rfl (by have h1_ := u8_bd (bs.getD ((p + 1 - 1) % bs.length) 0); have h2_ := u8_bd (bs.getD (((p + 1 - 1) * 7 + 3) % bs.length) 0); have h3_ := div_bd (p + 1 - 1) bs.length; omega) (by omega)) ?_
        refine ixq1 (((((p + 1) - 1) * 7) + 3) % bs.length) sl31 rfl rfl hb (by first | omega | exact Nat.mod_lt _ (by omega)) (getm U 0 (by first | omega | exact Nat.mod_lt _ (by omega))) trivial rfl (fun a3 ha3 => ?_)
        refine qq trivial rfl rfl (fun wq hsq => lda (v := .int .u8 (((bs.getD (((((p + 1) - 1) * 7) + 3) % bs.length) 0).toNat : Nat) : Int)) hsq ha3 (fun _ h => h) rfl rfl one5) ?_
        refine qq trivial rfl rfl (fun wq hsq => cvI (a := (((bs.getD (((((p + 1) - 1) * 7) + 3) % bs.length) 0).toNat : Nat) : Int)) (s := .u8) ti5 ti3 rfl (by have := u8_bd ((bs.getD (((((p + 1) - 1) * 7) + 3) % bs.length) 0)); exact ⟨by omega, by omega⟩)) ?_
        refine qq trivial rfl rfl (fun wq hsq => mul (a := (((bs.getD (((((p + 1) - 1) * 7) + 3) % bs.length) 0).toNat : Nat) : Int)) (b := 1117) rfl rfl (by have h1_ := u8_bd (bs.getD ((p + 1 - 1) % bs.length) 0); have h2_ := u8_bd (bs.getD (((p + 1 - 1) * 7 + 3) % bs.length) 0); have h3_ := div_bd (p + 1 - 1) bs.length; exact ⟨by omega, by omega⟩)) ?_
        refine qq trivial rfl rfl (fun wq hsq => add (a := (((bs.getD (((p + 1) - 1) % bs.length) 0).toNat : Nat) : Int) * 131) (b := (((bs.getD (((((p + 1) - 1) * 7) + 3) % bs.length) 0).toNat : Nat) : Int) * 1117) rfl rfl (by have h1_ := u8_bd (bs.getD ((p + 1 - 1) % bs.length) 0); have h2_ := u8_bd (bs.getD (((p + 1 - 1) * 7 + 3) % bs.length) 0); have h3_ := div_bd (p + 1 - 1) bs.length; exact ⟨by omega, by omega⟩)) ?_
        refine qq trivial rfl rfl (fun wq hsq => mv (v := .int .i64 (((p + 1) - 1 : Nat) : Int)) rfl) ?_
        refine qq trivial rfl rfl (fun wq hsq => mul (a := (((p + 1) - 1 : Nat) : Int)) (b := 29) rfl rfl (by have h1_ := u8_bd (bs.getD ((p + 1 - 1) % bs.length) 0); have h2_ := u8_bd (bs.getD (((p + 1 - 1) * 7 + 3) % bs.length) 0); have h3_ := div_bd (p + 1 - 1) bs.length; exact ⟨by omega, by omega⟩)) ?_
        refine qq trivial rfl rfl (fun wq hsq => add (a := ((((bs.getD (((p + 1) - 1) % bs.length) 0).toNat : Nat) : Int) * 131) + ((((bs.getD (((((p + 1) - 1) * 7) + 3) % bs.length) 0).toNat : Nat) : Int) * 1117)) (b := (((p + 1) - 1 : Nat) : Int) * 29) rfl rfl (by have h1_ := u8_bd (bs.getD ((p + 1 - 1) % bs.length) 0); have h2_ := u8_bd (bs.getD (((p + 1 - 1) * 7 + 3) % bs.length) 0); have h3_ := div_bd (p + 1 - 1) bs.length; exact ⟨by omega, by omega⟩)) ?_
        refine qq trivial rfl rfl (fun wq hsq => mv (v := .int .i64 (((p + 1) - 1 : Nat) : Int)) rfl) ?_
        refine qq trivial rfl rfl (fun wq hsq => mv (v := .pointer (some ⟨rb, 0, none⟩)) rfl) ?_
        refine qq trivial rfl rfl (fun wq hsq => nc rfl) ?_
        refine qq trivial rfl rfl (fun wq hsq => fa 0 fo55_0 rfl) ?_
        refine qq trivial rfl rfl (fun wq hsq => ld (v := .slice Ab bs.length cb) hsq 0 rfl rfl rfl one31) ?_
        refine qq trivial rfl rfl (fun wq hsq => lnA (n := bs.length) sl31 rfl) ?_
        refine qq trivial rfl rfl (fun wq hsq => quo (a := (((p + 1) - 1 : Nat) : Int)) (b := ((bs.length : Nat) : Int)) rfl rfl (by have h1_ := u8_bd (bs.getD ((p + 1 - 1) % bs.length) 0); have h2_ := u8_bd (bs.getD (((p + 1 - 1) * 7 + 3) % bs.length) 0); have h3_ := div_bd (p + 1 - 1) bs.length; omega) (by have h1_ := u8_bd (bs.getD ((p + 1 - 1) % bs.length) 0); have h2_ := u8_bd (bs.getD (((p + 1 - 1) * 7 + 3) % bs.length) 0); have h3_ := div_bd (p + 1 - 1) bs.length; omega) (by have h1_ := u8_bd (bs.getD ((p + 1 - 1) % bs.length) 0); have h2_ := u8_bd (bs.getD (((p + 1 - 1) * 7 + 3) % bs.length) 0); have h3_ := div_bd (p + 1 - 1) bs.length; omega)) ?_
        refine qq trivial rfl rfl (fun wq hsq => mul (a := (((p + 1) - 1 : Nat) : Int) / ((bs.length : Nat) : Int)) (b := 53) rfl rfl (by have h1_ := u8_bd (bs.getD ((p + 1 - 1) % bs.length) 0); have h2_ := u8_bd (bs.getD (((p + 1 - 1) * 7 + 3) % bs.length) 0); have h3_ := div_bd (p + 1 - 1) bs.length; exact ⟨by omega, by omega⟩)) ?_
        refine qq trivial rfl rfl (fun wq hsq => add (a := (((((bs.getD (((p + 1) - 1) % bs.length) 0).toNat : Nat) : Int) * 131) + ((((bs.getD (((((p + 1) - 1) * 7) + 3) % bs.length) 0).toNat : Nat) : Int) * 1117)) + ((((p + 1) - 1 : Nat) : Int) * 29)) (b := ((((p + 1) - 1 : Nat) : Int) / ((bs.length : Nat) : Int)) * 53) rfl rfl (by have h1_ := u8_bd (bs.getD ((p + 1 - 1) % bs.length) 0); have h2_ := u8_bd (bs.getD (((p + 1 - 1) * 7 + 3) % bs.length) 0); have h3_ := div_bd (p + 1 - 1) bs.length; exact ⟨by omega, by omega⟩)) ?_
        refine qq trivial rfl rfl (fun wq hsq => asg (v := .int .i64 (((((((bs.getD (((p + 1) - 1) % bs.length) 0).toNat : Nat) : Int) * 131) + ((((bs.getD (((((p + 1) - 1) * 7) + 3) % bs.length) 0).toNat : Nat) : Int) * 1117)) + ((((p + 1) - 1 : Nat) : Int) * 29)) + (((((p + 1) - 1 : Nat) : Int) / ((bs.length : Nat) : Int)) * 53))) rfl) ?_
        refine qn (fun w2 hs2 => ?_)
        refine nN ?_
        refine sq ?_
        refine rg ?_
        refine q trivial rfl rfl (mv (v := .int .i64 (((((((bs.getD (((p + 1) - 1) % bs.length) 0).toNat : Nat) : Int) * 131) + ((((bs.getD (((((p + 1) - 1) * 7) + 3) % bs.length) 0).toNat : Nat) : Int) * 1117)) + ((((p + 1) - 1 : Nat) : Int) * 29)) + (((((p + 1) - 1 : Nat) : Int) / ((bs.length : Nat) : Int)) * 53))) rfl) ?_
        refine q trivial rfl rfl (mv (v := .int .i64 (((((((bs.getD (((p + 1) - 1) % bs.length) 0).toNat : Nat) : Int) * 131) + ((((bs.getD (((((p + 1) - 1) * 7) + 3) % bs.length) 0).toNat : Nat) : Int) * 1117)) + ((((p + 1) - 1 : Nat) : Int) * 29)) + (((((p + 1) - 1 : Nat) : Int) / ((bs.length : Nat) : Int)) * 53))) rfl) ?_
        refine q trivial rfl rfl (quo (a := ((((((bs.getD (((p + 1) - 1) % bs.length) 0).toNat : Nat) : Int) * 131) + ((((bs.getD (((((p + 1) - 1) * 7) + 3) % bs.length) 0).toNat : Nat) : Int) * 1117)) + ((((p + 1) - 1 : Nat) : Int) * 29)) + (((((p + 1) - 1 : Nat) : Int) / ((bs.length : Nat) : Int)) * 53)) (b := 64) rfl rfl (by have h1_ := u8_bd (bs.getD ((p + 1 - 1) % bs.length) 0); have h2_ := u8_bd (bs.getD (((p + 1 - 1) * 7 + 3) % bs.length) 0); have h3_ := div_bd (p + 1 - 1) bs.length; omega) (by have h1_ := u8_bd (bs.getD ((p + 1 - 1) % bs.length) 0); have h2_ := u8_bd (bs.getD (((p + 1 - 1) * 7 + 3) % bs.length) 0); have h3_ := div_bd (p + 1 - 1) bs.length; omega) (by have h1_ := u8_bd (bs.getD ((p + 1 - 1) % bs.length) 0); have h2_ := u8_bd (bs.getD (((p + 1 - 1) * 7 + 3) % bs.length) 0); have h3_ := div_bd (p + 1 - 1) bs.length; omega)) ?_
        refine q trivial rfl rfl (xr (a := (((((bs.getD (((p + 1) - 1) % bs.length) 0).toNat) * 131) + (((bs.getD (((((p + 1) - 1) * 7) + 3) % bs.length) 0).toNat) * 1117)) + (((p + 1) - 1) * 29)) + ((((p + 1) - 1) / bs.length) * 53)) (b := ((((((bs.getD (((p + 1) - 1) % bs.length) 0).toNat) * 131) + (((bs.getD (((((p + 1) - 1) * 7) + 3) % bs.length) 0).toNat) * 1117)) + (((p + 1) - 1) * 29)) + ((((p + 1) - 1) / bs.length) * 53)) / 64) rfl rfl (by have h1_ := u8_bd (bs.getD ((p + 1 - 1) % bs.length) 0); have h2_ := u8_bd (bs.getD (((p + 1 - 1) * 7 + 3) % bs.length) 0); have h3_ := div_bd (p + 1 - 1) bs.length; omega) (by have h1_ := u8_bd (bs.getD ((p + 1 - 1) % bs.length) 0); have h2_ := u8_bd (bs.getD (((p + 1 - 1) * 7 + 3) % bs.length) 0); have h3_ := div_bd (p + 1 - 1) bs.length; omega)) ?_
        refine q trivial rfl rfl (asg (v := .int .i64 ((((((((bs.getD (((p + 1) - 1) % bs.length) 0).toNat) * 131) + (((bs.getD (((((p + 1) - 1) * 7) + 3) % bs.length) 0).toNat) * 1117)) + (((p + 1) - 1) * 29)) + ((((p + 1) - 1) / bs.length) * 53)) ^^^ (((((((bs.getD (((p + 1) - 1) % bs.length) 0).toNat) * 131) + (((bs.getD (((((p + 1) - 1) * 7) + 3) % bs.length) 0).toNat) * 1117)) + (((p + 1) - 1) * 29)) + ((((p + 1) - 1) / bs.length) * 53)) / 64) : Nat) : Int)) rfl) ?_
        refine nl ?_
        refine nN ?_
        refine sq ?_
        refine rg ?_
        refine q trivial rfl rfl (mv (v := .int .i64 ((((((((bs.getD (((p + 1) - 1) % bs.length) 0).toNat) * 131) + (((bs.getD (((((p + 1) - 1) * 7) + 3) % bs.length) 0).toNat) * 1117)) + (((p + 1) - 1) * 29)) + ((((p + 1) - 1) / bs.length) * 53)) ^^^ (((((((bs.getD (((p + 1) - 1) % bs.length) 0).toNat) * 131) + (((bs.getD (((((p + 1) - 1) * 7) + 3) % bs.length) 0).toNat) * 1117)) + (((p + 1) - 1) * 29)) + ((((p + 1) - 1) / bs.length) * 53)) / 64) : Nat) : Int)) rfl) ?_
        refine q trivial rfl rfl (mv (v := .int .i64 n) rfl) ?_
        refine q trivial rfl rfl (rem (a := ((((((((bs.getD (((p + 1) - 1) % bs.length) 0).toNat) * 131) + (((bs.getD (((((p + 1) - 1) * 7) + 3) % bs.length) 0).toNat) * 1117)) + (((p + 1) - 1) * 29)) + ((((p + 1) - 1) / bs.length) * 53)) ^^^ (((((((bs.getD (((p + 1) - 1) % bs.length) 0).toNat) * 131) + (((bs.getD (((((p + 1) - 1) * 7) + 3) % bs.length) 0).toNat) * 1117)) + (((p + 1) - 1) * 29)) + ((((p + 1) - 1) / bs.length) * 53)) / 64) : Nat) : Int)) (b := n) rfl rfl (by have h1_ := u8_bd (bs.getD ((p + 1 - 1) % bs.length) 0); have h2_ := u8_bd (bs.getD (((p + 1 - 1) * 7 + 3) % bs.length) 0); have h3_ := div_bd (p + 1 - 1) bs.length; omega) (by omega)) ?_
        refine q trivial rfl rfl (asg (v := .int .i64 (((((((((bs.getD (((p + 1) - 1) % bs.length) 0).toNat) * 131) + (((bs.getD (((((p + 1) - 1) * 7) + 3) % bs.length) 0).toNat) * 1117)) + (((p + 1) - 1) * 29)) + ((((p + 1) - 1) / bs.length) * 53)) ^^^ (((((((bs.getD (((p + 1) - 1) % bs.length) 0).toNat) * 131) + (((bs.getD (((((p + 1) - 1) * 7) + 3) % bs.length) 0).toNat) * 1117)) + (((p + 1) - 1) * 29)) + ((((p + 1) - 1) / bs.length) * 53)) / 64) : Nat) : Int) % n)) rfl) ?_
        refine nl ?_
        refine nN ?_
        refine rt ?_
        refine fret (v := .int .i64 (((((((((bs.getD (((p + 1) - 1) % bs.length) 0).toNat) * 131) + (((bs.getD (((((p + 1) - 1) * 7) + 3) % bs.length) 0).toNat) * 1117)) + (((p + 1) - 1) * 29)) + ((((p + 1) - 1) / bs.length) * 53)) ^^^ (((((((bs.getD (((p + 1) - 1) % bs.length) 0).toNat) * 131) + (((bs.getD (((((p + 1) - 1) * 7) + 3) % bs.length) 0).toNat) * 1117)) + (((p + 1) - 1) * 29)) + ((((p + 1) - 1) / bs.length) * 53)) / 64) : Nat) : Int) % n)) (.tmp .nil) rfl ?_
        exact ⟨((((((((bs.getD (((p + 1) - 1) % bs.length) 0).toNat) * 131) + (((bs.getD (((((p + 1) - 1) * 7) + 3) % bs.length) 0).toNat) * 1117)) + (((p + 1) - 1) * 29)) + ((((p + 1) - 1) / bs.length) * 53)) ^^^ (((((((bs.getD (((p + 1) - 1) % bs.length) 0).toNat) * 131) + (((bs.getD (((((p + 1) - 1) * 7) + 3) % bs.length) 0).toNat) * 1117)) + (((p + 1) - 1) * 29)) + ((((p + 1) - 1) / bs.length) * 53)) / 64) : Nat) : Int) % n, p + 1, rfl, (mod_pos (by omega)), (by omega), hs2⟩

theorem l6Open {Acs : Option Addr} {ccs : Nat} (cs : List UInt8) (w : World) (hcs : Sl w [] 1 Acs cs.length ccs (cs.map U)) : Does Try.prog 27 [.slice Acs cs.length ccs] w (fun v w' => ∃ gr : Nat, v = .pointer (some ⟨gr, 0, none⟩) ∧ SH w w' [] [.blk gr 55 [.slice Acs ((cs.take 2000).length) ccs, .int .i64 0]]) := by
  refine fn_enter (N := 11) Try.func27 rfl (by kernel_rfl) rfl rfl rfl ?_
  have hs0 : SH w w [] [] := SH.refl w []
  have hcs_m : cs.length ≤ 9223372036854775807 := Nat.le_trans hcs.cap hcs.capMax
  refine sq ?_
  refine rg ?_
  refine q trivial rfl rfl (asg (v := .pointer none) rfl) ?_
  refine nl ?_
  refine nN ?_
  refine sq ?_
  refine sq ?_
  refine rg ?_
  refine q trivial rfl rfl (mv (v := .slice Acs cs.length ccs) rfl) ?_
  refine q trivial rfl rfl (lnA (n := cs.length) sl31 rfl) ?_
  refine q trivial rfl rfl (gtr (k := .i64) (a := ((cs.length : Nat) : Int)) (b := 2000) rfl rfl) ?_
  refine nl ?_
  refine nN ?_
  refine cdd (p := (2000 : Int) < ((cs.length : Nat) : Int)) rfl (fun h1 => ?_) (fun h1 => ?_)
  · refine rg ?_
    refine q trivial rfl rfl (mv (v := .slice Acs cs.length ccs) rfl) ?_
    refine q trivial rfl rfl (cuhm_ (zs := cs) 2000 sl31 rfl rfl (by first | omega | (simp; omega)) hcs.cap) ?_
    refine q trivial rfl rfl (asg (v := .slice Acs ((cs.take 2000).length) ccs) rfl) ?_
    refine nl ?_
    refine nN ?_
    refine sq ?_
    refine rg ?_
    refine q trivial rfl rfl (mv (v := .slice Acs ((cs.take 2000).length) ccs) rfl) ?_
    refine q trivial rfl rfl (bdv (v := .agg #[.slice Acs ((cs.take 2000).length) ccs, .int .i64 0]) [(0, .slice Acs ((cs.take 2000).length) ccs)] rfl (fun _ => by kernel_rfl)) ?_
    refine bx (v := .agg #[.slice Acs ((cs.take 2000).length) ccs, .int .i64 0]) (cs := [.slice Acs ((cs.take 2000).length) ccs, .int .i64 0]) hs0 rfl rfl trivial rfl (fun b1 w1 (hs1 : SH w w1 [] [.blk b1 55 [.slice Acs ((cs.take 2000).length) ccs, .int .i64 0]]) => ?_)
    refine q trivial rfl rfl (asg (v := .pointer (some ⟨b1, 0, none⟩)) rfl) ?_
    refine nl ?_
    refine nN ?_
    refine rt ?_
    refine fret (v := .pointer (some ⟨b1, 0, none⟩)) (.tmp .nil) rfl ?_
    exact ⟨b1, rfl, hs1⟩
  · refine sk ?_
    refine nN ?_
    refine sq ?_
    refine rg ?_
    refine q trivial rfl rfl (mv (v := .slice Acs cs.length ccs) rfl) ?_
    refine q trivial rfl rfl (bdv (v := .agg #[.slice Acs cs.length ccs, .int .i64 0]) [(0, .slice Acs cs.length ccs)] rfl (fun _ => by kernel_rfl)) ?_
    refine bx (v := .agg #[.slice Acs cs.length ccs, .int .i64 0]) (cs := [.slice Acs cs.length ccs, .int .i64 0]) hs0 rfl rfl trivial rfl (fun b2 w2 (hs2 : SH w w2 [] [.blk b2 55 [.slice Acs cs.length ccs, .int .i64 0]]) => ?_)
    refine q trivial rfl rfl (asg (v := .pointer (some ⟨b2, 0, none⟩)) rfl) ?_
    refine nl ?_
    refine nN ?_
    refine rt ?_
    refine fret (v := .pointer (some ⟨b2, 0, none⟩)) (.tmp .nil) rfl ?_
    have e1 : cs.length = (cs.take 2000).length := by rw [List.take_of_length_le (by omega)]
    exact ⟨b2, rfl, (hs2.cast (lc (congrArg (It.blk b2 55) (lc (slv rfl e1 rfl) (lc rfl rfl))) rfl))⟩

theorem rdOf {rb : Nat} {Ab : Option Addr} {cb : Nat} {bs : List UInt8} {p : Nat} {Ass : Option Addr} {css : Nat} (ss : List (List UInt8)) (w : World) (hr : w.heap[rb]? = some (.cells [.slice Ab bs.length cb, .int .i64 ((p : Nat) : Int)].toArray 55 (0, 0))) (hb : Sl w [rb] 1 Ab bs.length cb (bs.map U)) (hbn : bs.length ≤ 2000) (hp : p ≤ 549755813888) (hss : Sl w [rb] 1 Ass ss.length css (ss.map Str)) (hne : 0 < ss.length) : Does Try.prog 29 [.pointer (some ⟨rb, 0, none⟩), .slice Ass ss.length css] w (fun v w' => ∃ s : List UInt8, ∃ q : Nat, v = Str s ∧ (s ∈ ss) ∧ (q ≤ p + 1) ∧ SH w w' [rb] [.blk rb 55 [.slice Ab bs.length cb, .int .i64 ((q : Nat) : Int)]]) := by
  refine fn_enter (N := 12) Try.func29 rfl (by kernel_rfl) rfl rfl rfl ?_
  have hs0 : SH w w [rb] [.blk rb 55 [.slice Ab bs.length cb, .int .i64 ((p : Nat) : Int)]] := SH.entry1 hr
  have hss_m : ss.length ≤ 9223372036854775807 := Nat.le_trans hss.cap hss.capMax
  refine sq ?_
  refine rg ?_
  refine q trivial rfl rfl (asg (v := Str []) rfl) ?_
  refine nl ?_
  refine nN ?_
  refine sq ?_
  refine rg ?_
  refine q trivial rfl rfl (mv (v := .slice Ass ss.length css) rfl) ?_
  refine q trivial rfl rfl (mv (v := .pointer (some ⟨rb, 0, none⟩)) rfl) ?_
  refine q trivial rfl rfl (mv (v := .slice Ass ss.length css) rfl) ?_
  refine q trivial rfl rfl (lnA (n := ss.length) sl49 rfl) ?_
  refine cl trivial rfl (pick (rb := rb) (Ab := Ab) (cb := cb) (bs := bs) (p := p) (n := ((ss.length : Nat) : Int)) (w := _) (hr := (blk_heap hs0 0 rfl)) (hb := (hb.up hs0 (fun _ h => h) (fun _ h => .inl h))) (hbn := (by first | assumption | (simp; omega))) (hp := (by omega))) ?_
  rintro _ w1 ⟨r1, q1, rfl, p1, p2, hs1'⟩
  have hs1 : SH w w1 [rb] [.blk rb 55 [.slice Ab bs.length cb, .int .i64 ((q1 : Nat) : Int)]] := hs0.callM 0 rfl hs1' (by intro k hk; simp at hk; exact hk.symm)
  clear hs1'
  refine ixw1 r1.toNat sl49 rfl (ieq (x := r1) (by omega)) hss (by first | omega | (simp; omega)) (getm Str [] (by first | omega | (simp; omega))) trivial rfl (fun a1 ha1 => ?_)
  refine q trivial rfl rfl (lda (v := Str (ss.getD r1.toNat [])) hs1 ha1 (fun _ h => h) rfl rfl one9) ?_
  refine q trivial rfl rfl (asg (v := Str (ss.getD r1.toNat [])) rfl) ?_
  refine nl ?_
  refine nN ?_
  refine rt ?_
  refine fret (v := Str (ss.getD r1.toNat [])) (.tmp .nil) rfl ?_
  exact ⟨ss.getD r1.toNat [], q1, rfl, (getD_mem (by omega)), (by omega), hs1⟩

theorem l91Bytes {rb : Nat} {Ab : Option Addr} {cb : Nat} {bs : List UInt8} {p : Nat} (n : Int) (w : World) (hr : w.heap[rb]? = some (.cells [.slice Ab bs.length cb, .int .i64 ((p : Nat) : Int)].toArray 55 (0, 0))) (hb : Sl w [rb] 1 Ab bs.length cb (bs.map U)) (hbn : bs.length ≤ 2000) (hp : p ≤ 549755813888) (hn : 0 ≤ n ∧ n ≤ 100000) : Does Try.prog 28 [.pointer (some ⟨rb, 0, none⟩), .int .i64 n] w (fun v w' => ∃ Ar : Option Addr, ∃ cr : Nat, ∃ r : List Int, ∃ q : Nat, v = .slice Ar r.length cr ∧ (((r.length : Nat) : Int) ≤ n) ∧ (q ≤ p + 5 + 4 * n.toNat) ∧ SH w w' [rb] [.blk rb 55 [.slice Ab bs.length cb, .int .i64 ((q : Nat) : Int)], .own Ar r.length cr 3 1 (r.map I)]) := by
  refine fn_enter (N := 48) Try.func28 rfl (by kernel_rfl) rfl rfl rfl ?_
  have hs0 : SH w w [rb] [.blk rb 55 [.slice Ab bs.length cb, .int .i64 ((p : Nat) : Int)]] := SH.entry1 hr
  refine sq ?_
  refine rg ?_
  refine q trivial rfl rfl (asg (v := .slice none 0 0) rfl) ?_
  refine nl ?_
  refine nN ?_
  refine sq ?_
  refine rg ?_
  refine Go.PF.bs hs0 sl22 [] rfl (cs := []) (by kernel_rfl) rfl (by decide) (by decide) trivial rfl (fun b1 w1 (hs1 : SH w w1 [rb] [.blk rb 55 [.slice Ab bs.length cb, .int .i64 ((p : Nat) : Int)], .own (some ⟨b1, 0, none⟩) (([] : List Int).length) 0 3 1 (([] : List Int).map I)]) => ?_)
  refine q trivial rfl rfl (asg (v := .slice (some ⟨b1, 0, none⟩) (([] : List Int).length) 0) rfl) ?_
  refine nl ?_
  refine nN ?_
  refine sq ?_
  refine rg ?_
  refine q trivial rfl rfl (mv (v := .pointer (some ⟨rb, 0, none⟩)) rfl) ?_
  refine q trivial rfl rfl (mv (v := .int .i64 n) rfl) ?_
  refine q trivial rfl rfl (add (a := n) (b := 1) rfl rfl (by exact ⟨by omega, by omega⟩)) ?_
  refine cl trivial rfl (pick (rb := rb) (Ab := Ab) (cb := cb) (bs := bs) (p := p) (n := n + 1) (w := _) (hr := (blk_heap hs1 0 rfl)) (hb := (hb.up hs1 (fun _ h => h) (fun _ h => .inl h))) (hbn := (by first | assumption | (simp; omega))) (hp := (by omega))) ?_
  rintro _ w2 ⟨r1, q1, rfl, p1, p2, hs2'⟩
  have hs2 : SH w w2 [rb] [.own (some ⟨b1, 0, none⟩) (([] : List Int).length) 0 3 1 (([] : List Int).map I), .blk rb 55 [.slice Ab bs.length cb, .int .i64 ((q1 : Nat) : Int)]] := hs1.callM 0 rfl hs2' (by intro k hk; simp at hk; exact hk.symm)
  clear hs2'
  refine q trivial rfl rfl (asg (v := .int .i64 r1) rfl) ?_
  refine nl ?_
  refine nN ?_
  refine sq ?_
  refine sq ?_
  refine rg ?_
  refine q trivial rfl rfl (asg (v := .int .i64 0) rfl) ?_
  refine nl ?_
  refine nN ?_
  refine bl ?_
  refine lp (σ := (Option Addr) × Nat × Nat × Nat × (List Int)) (fun ⟨Ag5, cg5, q0, k, zs⟩ f w' => Has f [(0, .pointer (some ⟨rb, 0, none⟩)), (5, .slice Ag5 zs.length cg5), (6, .int .i64 r1), (7, .int .i64 ((k : Nat) : Int))] ∧ (((k : Nat) : Int) ≤ r1) ∧ (zs.length = k) ∧ (q0 ≤ p + 1 + 3 * k) ∧ SH w w' [rb] [.own Ag5 zs.length cg5 3 1 (zs.map I), .blk rb 55 [.slice Ab bs.length cb, .int .i64 ((q0 : Nat) : Int)]]) (fun ⟨Ag5, cg5, q0, k, zs⟩ => (r1 - k).toNat) ((some ⟨b1, 0, none⟩), 0, q1, 0, ([] : List Int)) ⟨⟨rfl, rfl, rfl, rfl, trivial⟩, (by omega), (rfl), (by omega), hs2⟩ ?_
  rintro ⟨Ag5, cg5, q0, k, zs⟩ f w3 ⟨hf, hk, hz, hq, hs3⟩
  obtain ⟨g1, rfl⟩ := has_upd hf
  clear hf
  refine sq ?_
  refine sq ?_
  refine rg ?_
  refine q trivial rfl rfl (mv (v := .int .i64 ((k : Nat) : Int)) rfl) ?_
  refine q trivial rfl rfl (mv (v := .int .i64 r1) rfl) ?_
  refine q trivial rfl rfl (lss (k := .i64) (a := ((k : Nat) : Int)) (b := r1) rfl rfl) ?_
  refine nl ?_
  refine nN ?_
  refine cdd (p := ((k : Nat) : Int) < r1) rfl (fun h1 => ?_) (fun h1 => ?_)
  · refine sk ?_
    refine nN ?_
    refine sq ?_
    refine bl ?_
    refine rg ?_
    refine q trivial rfl rfl (mv (v := .slice Ag5 zs.length cg5) rfl) ?_
    refine q trivial rfl rfl (mv (v := .pointer (some ⟨rb, 0, none⟩)) rfl) ?_
    refine cl trivial rfl (pick (rb := rb) (Ab := Ab) (cb := cb) (bs := bs) (p := q0) (n := 6) (w := _) (hr := (blk_heap hs3 1 rfl)) (hb := (hb.up hs3 (fun _ h => h) (fun _ h => .inl h))) (hbn := (by first | assumption | (simp; omega))) (hp := (by omega))) ?_
    rintro _ w4 ⟨r2, q2, rfl, p3, p4, hs4'⟩
    have hs4 : SH w w4 [rb] [.own Ag5 zs.length cg5 3 1 (zs.map I), .blk rb 55 [.slice Ab bs.length cb, .int .i64 ((q2 : Nat) : Int)]] := hs3.callM 1 rfl hs4' (by intro k hk; simp at hk; exact hk.symm)
    clear hs4'
    refine q trivial rfl rfl (mv (v := .pointer (some ⟨rb, 0, none⟩)) rfl) ?_
    refine cl trivial rfl (pick (rb := rb) (Ab := Ab) (cb := cb) (bs := bs) (p := q2) (n := 256) (w := _) (hr := (blk_heap hs4 1 rfl)) (hb := (hb.up hs4 (fun _ h => h) (fun _ h => .inl h))) (hbn := (by first | assumption | (simp; omega))) (hp := (by omega))) ?_
    rintro _ w5 ⟨r3, q3, rfl, p5, p6, hs5'⟩
    have hs5 : SH w w5 [rb] [.own Ag5 zs.length cg5 3 1 (zs.map I), .blk rb 55 [.slice Ab bs.length cb, .int .i64 ((q3 : Nat) : Int)]] := hs4.callM 1 rfl hs5' (by intro k hk; simp at hk; exact hk.symm)
    clear hs5'
    refine Go.PF.bs hs5 sl22 [(0, .int .i64 r2), (1, .int .i64 r3)] rfl (cs := [.int .i64 r2, .int .i64 r3]) (by kernel_rfl) rfl (by decide) (by decide) trivial rfl (fun b2 w6 (hs6 : SH w w6 [rb] [.own Ag5 zs.length cg5 3 1 (zs.map I), .blk rb 55 [.slice Ab bs.length cb, .int .i64 ((q3 : Nat) : Int)], .own (some ⟨b2, 0, none⟩) ([r2, r3].length) 2 3 1 ([r2, r3].map I)]) => ?_)
    refine q trivial rfl rfl (mv (v := .pointer (some ⟨rb, 0, none⟩)) rfl) ?_
    refine cl trivial rfl (pick (rb := rb) (Ab := Ab) (cb := cb) (bs := bs) (p := q3) (n := 2) (w := _) (hr := (blk_heap hs6 1 rfl)) (hb := (hb.up hs6 (fun _ h => h) (fun _ h => .inl h))) (hbn := (by first | assumption | (simp; omega))) (hp := (by omega))) ?_
    rintro _ w7 ⟨r4, q4, rfl, p7, p8, hs7'⟩
    have hs7 : SH w w7 [rb] [.own Ag5 zs.length cg5 3 1 (zs.map I), .own (some ⟨b2, 0, none⟩) ([r2, r3].length) 2 3 1 ([r2, r3].map I), .blk rb 55 [.slice Ab bs.length cb, .int .i64 ((q4 : Nat) : Int)]] := hs6.callM 1 rfl hs7' (by intro k hk; simp at hk; exact hk.symm)
    clear hs7'
    refine q trivial rfl rfl (ixo r4.toNat sl22 rfl (ieq (x := r4) (by omega)) (by first | omega | (simp; omega))) ?_
    refine q trivial rfl rfl (ldo1n (g := I) (ys := [r2, r3]) (o := r4.toNat) 0 hs7 1 rfl rfl (by first | omega | (simp; omega)) one3) ?_
    refine Go.PF.bs hs7 sl22 [(0, .int .i64 ([r2, r3].getD r4.toNat 0))] rfl (cs := [.int .i64 ([r2, r3].getD r4.toNat 0)]) (by kernel_rfl) rfl (by decide) (by decide) trivial rfl (fun b3 w8 (hs8 : SH w w8 [rb] [.own Ag5 zs.length cg5 3 1 (zs.map I), .own (some ⟨b2, 0, none⟩) ([r2, r3].length) 2 3 1 ([r2, r3].map I), .blk rb 55 [.slice Ab bs.length cb, .int .i64 ((q4 : Nat) : Int)], .own (some ⟨b3, 0, none⟩) ([[r2, r3].getD r4.toNat 0].length) 1 3 1 ([[r2, r3].getD r4.toNat 0].map I)]) => ?_)
    refine apm (g := I) (ys := zs) (zs := [[r2, r3].getD r4.toNat 0]) hs8 0 rfl sl22 rfl rfl rfl (hs8.sl0 3 rfl) (fun _ => rfl) (by unfold maxLen; first | omega | (simp; omega)) (by first | omega | (simp; omega)) trivial rfl (fun A1 c1 w9 (hs9 : SH w w9 [rb] [.own (some ⟨b2, 0, none⟩) ([r2, r3].length) 2 3 1 ([r2, r3].map I), .blk rb 55 [.slice Ab bs.length cb, .int .i64 ((q4 : Nat) : Int)], .own (some ⟨b3, 0, none⟩) ([[r2, r3].getD r4.toNat 0].length) 1 3 1 ([[r2, r3].getD r4.toNat 0].map I), .own A1 ((zs ++ [[r2, r3].getD r4.toNat 0]).length) c1 3 1 ((zs ++ [[r2, r3].getD r4.toNat 0]).map I)]) => ?_)
    refine q trivial rfl rfl (asg (v := .slice A1 ((zs ++ [[r2, r3].getD r4.toNat 0]).length) c1) rfl) ?_
    refine nl ?_
    refine bN ?_
    refine nN ?_
    refine rg ?_
    refine q trivial rfl rfl (mv (v := .int .i64 ((k : Nat) : Int)) rfl) ?_
    refine q trivial rfl rfl (add (a := ((k : Nat) : Int)) (b := 1) rfl rfl (by exact ⟨by omega, by omega⟩)) ?_
    refine q trivial rfl rfl (asg (v := .int .i64 (((k : Nat) : Int) + 1)) rfl) ?_
    refine nl ?_
    refine nN ?_
    refine ⟨(A1, c1, q4, k + 1, (zs ++ [[r2, r3].getD r4.toNat 0])), ⟨⟨rfl, rfl, rfl, rfl, trivial⟩, (by omega), (by simp; omega), (by omega), (hs9.pick [3, 1] rfl (by decide))⟩, ?_⟩
    show (r1 - (k + 1)).toNat < (r1 - k).toNat
    omega
  · refine ex (tE (tE (bE ?_)))
    refine nN ?_
    refine sq ?_
    refine sq ?_
    refine rg ?_
    refine q trivial rfl rfl (mv (v := .int .i64 r1) rfl) ?_
    refine q trivial rfl rfl (gtr (k := .i64) (a := r1) (b := 0) rfl rfl) ?_
    refine q trivial rfl rfl (mv (v := .bool (decide ((0 : Int) < r1))) rfl) ?_
    refine spd (p := (0 : Int) < r1) 32 rfl (fun h2 => ?_) (fun h2 => ?_)
    · refine q ⟨_, rfl, rfl⟩ rfl rfl (mv (v := .pointer (some ⟨rb, 0, none⟩)) rfl) ?_
      refine cl ⟨_, rfl, rfl⟩ rfl (pick (rb := rb) (Ab := Ab) (cb := cb) (bs := bs) (p := q0) (n := 50) (w := _) (hr := (blk_heap hs3 1 rfl)) (hb := (hb.up hs3 (fun _ h => h) (fun _ h => .inl h))) (hbn := (by first | assumption | (simp; omega))) (hp := (by omega))) ?_
      rintro _ w10 ⟨r5, q5, rfl, p9, p10, hs10'⟩
      have hs10 : SH w w10 [rb] [.own Ag5 zs.length cg5 3 1 (zs.map I), .blk rb 55 [.slice Ab bs.length cb, .int .i64 ((q5 : Nat) : Int)]] := hs3.callM 1 rfl hs10' (by intro k hk; simp at hk; exact hk.symm)
      clear hs10'
      refine q ⟨_, rfl, rfl⟩ rfl rfl (eqi (k := .i64) (a := r5) (b := 0) rfl rfl) ?_
      refine q trivial rfl rfl (pt (v := .bool (decide (r5 = 0))) rfl rfl) ?_
      refine nl ?_
      refine nN ?_
      refine cdd (p := r5 = 0) rfl (fun h3 => ?_) (fun h3 => ?_)
      · refine rg ?_
        refine q trivial rfl rfl (mv (v := .slice Ag5 zs.length cg5) rfl) ?_
        refine q trivial rfl rfl (mv (v := .pointer (some ⟨rb, 0, none⟩)) rfl) ?_
        refine q trivial rfl rfl (mv (v := .int .i64 r1) rfl) ?_
        refine cl trivial rfl (pick (rb := rb) (Ab := Ab) (cb := cb) (bs := bs) (p := q5) (n := r1) (w := _) (hr := (blk_heap hs10 1 rfl)) (hb := (hb.up hs10 (fun _ h => h) (fun _ h => .inl h))) (hbn := (by first | assumption | (simp; omega))) (hp := (by omega))) ?_
        rintro _ w11 ⟨r6, q6, rfl, p11, p12, hs11'⟩
        have hs11 : SH w w11 [rb] [.own Ag5 zs.length cg5 3 1 (zs.map I), .blk rb 55 [.slice Ab bs.length cb, .int .i64 ((q6 : Nat) : Int)]] := hs10.callM 1 rfl hs11' (by intro k hk; simp at hk; exact hk.symm)
        clear hs11'
        refine Go.PF.bs hs11 sl22 [(0, .int .i64 (-1)), (1, .int .i64 256)] rfl (cs := [.int .i64 (-1), .int .i64 256]) (by kernel_rfl) rfl (by decide) (by decide) trivial rfl (fun b4 w12 (hs12 : SH w w12 [rb] [.own Ag5 zs.length cg5 3 1 (zs.map I), .blk rb 55 [.slice Ab bs.length cb, .int .i64 ((q6 : Nat) : Int)], .own (some ⟨b4, 0, none⟩) ([(-1), 256].length) 2 3 1 ([(-1), 256].map I)]) => ?_)
        refine q trivial rfl rfl (mv (v := .pointer (some ⟨rb, 0, none⟩)) rfl) ?_
        refine cl trivial rfl (pick (rb := rb) (Ab := Ab) (cb := cb) (bs := bs) (p := q6) (n := 2) (w := _) (hr := (blk_heap hs12 1 rfl)) (hb := (hb.up hs12 (fun _ h => h) (fun _ h => .inl h))) (hbn := (by first | assumption | (simp; omega))) (hp := (by omega))) ?_
        rintro _ w13 ⟨r7, q7, rfl, p13, p14, hs13'⟩
        have hs13 : SH w w13 [rb] [.own Ag5 zs.length cg5 3 1 (zs.map I), .own (some ⟨b4, 0, none⟩) ([(-1), 256].length) 2 3 1 ([(-1), 256].map I), .blk rb 55 [.slice Ab bs.length cb, .int .i64 ((q7 : Nat) : Int)]] := hs12.callM 1 rfl hs13' (by intro k hk; simp at hk; exact hk.symm)
        clear hs13'
        refine q trivial rfl rfl (ixo r7.toNat sl22 rfl (ieq (x := r7) (by omega)) (by first | omega | (simp; omega))) ?_
        refine q trivial rfl rfl (ldo1n (g := I) (ys := [(-1), 256]) (o := r7.toNat) 0 hs13 1 rfl rfl (by first | omega | (simp; omega)) one3) ?_
        obtain ⟨b5, rfl⟩ := own_form hs13 0 rfl (by first | omega | (simp; omega))
        refine q trivial rfl rfl (ixo r6.toNat sl22 rfl (ieq (x := r6) (by omega)) (by first | omega | (simp; omega))) ?_
        refine stomn (g := I) (ys := zs) (o := r6.toNat) (u := [(-1), 256].getD r7.toNat 0) hs13 0 rfl rfl rfl rfl (by omega) rfl one3 trivial (fun w14 (hs14 : SH w w14 [rb] [.own (some ⟨b4, 0, none⟩) ([(-1), 256].length) 2 3 1 ([(-1), 256].map I), .blk rb 55 [.slice Ab bs.length cb, .int .i64 ((q7 : Nat) : Int)], .own (some ⟨b5, 0, none⟩) zs.length cg5 3 1 ((zs.set r6.toNat ([(-1), 256].getD r7.toNat 0)).map I)]) => ?_)
        refine nl ?_
        refine nN ?_
        refine sq ?_
        refine rg ?_
        refine q trivial rfl rfl (mv (v := .slice (some ⟨b5, 0, none⟩) zs.length cg5) rfl) ?_
        refine q trivial rfl rfl (asg (v := .slice (some ⟨b5, 0, none⟩) zs.length cg5) rfl) ?_
        refine nl ?_
        refine nN ?_
        refine rt ?_
        refine fret (v := .slice (some ⟨b5, 0, none⟩) zs.length cg5) (.tmp .nil) rfl ?_
        have e1 : zs.length = (zs.set r6.toNat ([(-1), 256].getD r7.toNat 0)).length := by first | rfl | (simp; done) | (simp; omega) | omega
        exact ⟨(some ⟨b5, 0, none⟩), cg5, zs.set r6.toNat ([(-1), 256].getD r7.toNat 0), q7, (slv rfl e1 rfl), (by (try simp); omega), (by omega), ((hs14.pick [1, 2] rfl (by decide)).cast (lc rfl (lc (own_eq (g := I) rfl e1 rfl rfl) rfl)))⟩
      · refine sk ?_
        refine nN ?_
        refine sq ?_
        refine rg ?_
        refine q trivial rfl rfl (mv (v := .slice Ag5 zs.length cg5) rfl) ?_
        refine q trivial rfl rfl (asg (v := .slice Ag5 zs.length cg5) rfl) ?_
        refine nl ?_
        refine nN ?_
        refine rt ?_
        refine fret (v := .slice Ag5 zs.length cg5) (.tmp .nil) rfl ?_
        exact ⟨Ag5, cg5, zs, q5, rfl, (by (try simp); omega), (by omega), (hs10.pick [1, 0] rfl (by decide))⟩
    · refine gk false rfl rfl rfl rfl rfl ?_
      refine gk false rfl rfl rfl rfl rfl ?_
      refine gk false rfl rfl rfl rfl rfl ?_
      refine q trivial rfl rfl (pf (v := .bool false) rfl rfl) ?_
      refine nl ?_
      refine nN ?_
      refine cdf rfl ?_
      refine sk ?_
      refine nN ?_
      refine sq ?_
      refine rg ?_
      refine q trivial rfl rfl (mv (v := .slice Ag5 zs.length cg5) rfl) ?_
      refine q trivial rfl rfl (asg (v := .slice Ag5 zs.length cg5) rfl) ?_
      refine nl ?_
      refine nN ?_
      refine rt ?_
      refine fret (v := .slice Ag5 zs.length cg5) (.tmp .nil) rfl ?_
      exact ⟨Ag5, cg5, zs, q0, rfl, (by (try simp); omega), (by omega), (hs3.pick [1, 0] rfl (by decide))⟩

theorem drawHexText {Acs : Option Addr} {ccs : Nat} (cs : List UInt8) (w : World) (hcs : Sl w [] 1 Acs cs.length ccs (cs.map U)) : Does Try.prog 19 [.slice Acs cs.length ccs] w (fun v w' => ∃ Ar : Option Addr, ∃ cr : Nat, ∃ r : List Int, v = .slice Ar r.length cr ∧ (r.length ≤ 9) ∧ SH w w' [] [.own Ar r.length cr 3 1 (r.map I)]) := by
  refine fn_enter (N := 8) Try.func19 rfl (by kernel_rfl) rfl rfl rfl ?_
  have hs0 : SH w w [] [] := SH.refl w []
  have hcs_m : cs.length ≤ 9223372036854775807 := Nat.le_trans hcs.cap hcs.capMax
  refine sq ?_
  refine rg ?_
  refine q trivial rfl rfl (asg (v := .slice none 0 0) rfl) ?_
  refine nl ?_
  refine nN ?_
  refine sq ?_
  refine rg ?_
  refine q trivial rfl rfl (mv (v := .slice Acs cs.length ccs) rfl) ?_
  refine cl trivial rfl (l6Open (Acs := Acs) (ccs := ccs) (cs := cs) (w := _) (hcs := (hcs.up0 hs0))) ?_
  rintro _ w1 ⟨g1, rfl, hs1'⟩
  have hs1 : SH w w1 [] [.blk g1 55 [.slice Acs ((cs.take 2000).length) ccs, .int .i64 0]] := hs0.call0 hs1'
  clear hs1'
  refine q trivial rfl rfl (asg (v := .pointer (some ⟨g1, 0, none⟩)) rfl) ?_
  refine nl ?_
  refine nN ?_
  refine sq ?_
  refine rg ?_
  refine q trivial rfl rfl (mv (v := .pointer (some ⟨g1, 0, none⟩)) rfl) ?_
  refine cl trivial rfl (l91Bytes (rb := g1) (Ab := Acs) (cb := ccs) (bs := cs.take 2000) (p := 0) (n := 9) (w := _) (hr := (blk_heap hs1 0 rfl)) (hb := (Sl.take_ (hcs.up hs1 (by simp) (fun k h => .inr (hs1.lo1 0 rfl k h))) 2000)) (hbn := (by first | assumption | (simp; omega))) (hp := (by omega)) (hn := (by first | omega | assumption | (simp; done) | (simp; omega)))) ?_
  rintro _ w2 ⟨A1, c1, r1, q1, rfl, p1, p2, hs2'⟩
  have hs2 : SH w w2 [] [.blk g1 55 [.slice Acs ((cs.take 2000).length) ccs, .int .i64 ((q1 : Nat) : Int)], .own A1 r1.length c1 3 1 (r1.map I)] := hs1.callM 0 rfl hs2' (by intro k hk; simp at hk; exact hk.symm)
  clear hs2'
  refine q trivial rfl rfl (asg (v := .slice A1 r1.length c1) rfl) ?_
  refine nl ?_
  refine nN ?_
  refine rt ?_
  refine fret (v := .slice A1 r1.length c1) (.tmp .nil) rfl ?_
  exact ⟨A1, c1, r1, rfl, (by omega), (hs2.pick [1] rfl (by decide))⟩

theorem drawHexFrom {Acs : Option Addr} {ccs : Nat} (cs : List UInt8) (w : World) (hcs : Sl w [] 1 Acs cs.length ccs (cs.map U)) : Does Try.prog 17 [.slice Acs cs.length ccs] w (fun v w' => ∃ s : List UInt8, v = Str s ∧ (s.length ≤ 300) ∧ SH w w' [] []) := by
  refine fn_enter (N := 24) Try.func17 rfl (by kernel_rfl) rfl rfl rfl ?_
  have hs0 : SH w w [] [] := SH.refl w []
  have hcs_m : cs.length ≤ 9223372036854775807 := Nat.le_trans hcs.cap hcs.capMax
  refine sq ?_
  refine rg ?_
  refine q trivial rfl rfl (asg (v := Str []) rfl) ?_
  refine nl ?_
  refine nN ?_
  refine sq ?_
  refine rg ?_
  refine q trivial rfl rfl (mv (v := .slice Acs cs.length ccs) rfl) ?_
  refine cl trivial rfl (l6Open (Acs := Acs) (ccs := ccs) (cs := cs) (w := _) (hcs := (hcs.up0 hs0))) ?_
  rintro _ w1 ⟨g1, rfl, hs1'⟩
  have hs1 : SH w w1 [] [.blk g1 55 [.slice Acs ((cs.take 2000).length) ccs, .int .i64 0]] := hs0.call0 hs1'
  clear hs1'
  refine q trivial rfl rfl (asg (v := .pointer (some ⟨g1, 0, none⟩)) rfl) ?_
  refine nl ?_
  refine nN ?_
  refine sq ?_
  refine rg ?_
  refine q trivial rfl rfl (mv (v := .pointer (some ⟨g1, 0, none⟩)) rfl) ?_
  refine cl trivial rfl (l91Bytes (rb := g1) (Ab := Acs) (cb := ccs) (bs := cs.take 2000) (p := 0) (n := 9) (w := _) (hr := (blk_heap hs1 0 rfl)) (hb := (Sl.take_ (hcs.up hs1 (by simp) (fun k h => .inr (hs1.lo1 0 rfl k h))) 2000)) (hbn := (by first | assumption | (simp; omega))) (hp := (by omega)) (hn := (by first | omega | assumption | (simp; done) | (simp; omega)))) ?_
  rintro _ w2 ⟨A1, c1, r1, q1, rfl, p1, p2, hs2'⟩
  have hs2 : SH w w2 [] [.blk g1 55 [.slice Acs ((cs.take 2000).length) ccs, .int .i64 ((q1 : Nat) : Int)], .own A1 r1.length c1 3 1 (r1.map I)] := hs1.callM 0 rfl hs2' (by intro k hk; simp at hk; exact hk.symm)
  clear hs2'
  refine cl trivial rfl (sHexText (Axs := A1) (cxs := c1) (xs := r1) (w := _) (hxs := (hs2.sl0 1 rfl))) ?_
  rintro _ w3 ⟨rfl, hs3'⟩
  have hs3 : SH w w3 [] [.blk g1 55 [.slice Acs ((cs.take 2000).length) ccs, .int .i64 ((q1 : Nat) : Int)], .own A1 r1.length c1 3 1 (r1.map I)] := hs2.call0 hs3'
  clear hs3'
  refine q trivial rfl rfl (asg (v := Str (hexText r1)) rfl) ?_
  refine nl ?_
  refine nN ?_
  refine sq ?_
  refine rg ?_
  refine q trivial rfl rfl (mv (v := .pointer (some ⟨g1, 0, none⟩)) rfl) ?_
  refine q trivial rfl rfl (mv (v := Str (hexText r1)) rfl) ?_
  refine q trivial rfl rfl (mv (v := Str (hexText r1)) rfl) ?_
  refine q trivial rfl rfl (mv (v := Str (hexText r1)) rfl) ?_
  refine q trivial rfl rfl (mv (v := Str (hexText r1)) rfl) ?_
  refine q trivial rfl rfl (cat (l := hexText r1) (m := [48]) rfl rfl (by have := hexText_len r1; simp; omega)) ?_
  refine q trivial rfl rfl (mv (v := Str (hexText r1)) rfl) ?_
  refine q trivial rfl rfl (cat (l := hexText r1) (m := [48, 103]) rfl rfl (by have := hexText_len r1; simp; omega)) ?_
  refine q trivial rfl rfl (mv (v := Str (hexText r1)) rfl) ?_
  refine q trivial rfl rfl (cat (l := [65, 48]) (m := hexText r1) rfl rfl (by have := hexText_len r1; simp; omega)) ?_
  refine q trivial rfl rfl (mv (v := Str (hexText r1)) rfl) ?_
  refine q trivial rfl rfl (cat (l := hexText r1) (m := [48, 48]) rfl rfl (by have := hexText_len r1; simp; omega)) ?_
  refine Go.PF.bs hs3 sl49 [(0, Str (hexText r1)), (1, Str (hexText r1)), (2, Str (hexText r1)), (3, Str ((hexText r1) ++ [48])), (4, Str ((hexText r1) ++ [48, 103])), (5, Str ([65, 48] ++ (hexText r1))), (6, Str ((hexText r1) ++ [48, 48]))] rfl (cs := [Str (hexText r1), Str (hexText r1), Str (hexText r1), Str ((hexText r1) ++ [48]), Str ((hexText r1) ++ [48, 103]), Str ([65, 48] ++ (hexText r1)), Str ((hexText r1) ++ [48, 48])]) (by kernel_rfl) rfl (by decide) (by decide) trivial rfl (fun b1 w4 (hs4 : SH w w4 [] [.blk g1 55 [.slice Acs ((cs.take 2000).length) ccs, .int .i64 ((q1 : Nat) : Int)], .own A1 r1.length c1 3 1 (r1.map I), .own (some ⟨b1, 0, none⟩) ([hexText r1, hexText r1, hexText r1, (hexText r1) ++ [48], (hexText r1) ++ [48, 103], [65, 48] ++ (hexText r1), (hexText r1) ++ [48, 48]].length) 7 9 1 ([hexText r1, hexText r1, hexText r1, (hexText r1) ++ [48], (hexText r1) ++ [48, 103], [65, 48] ++ (hexText r1), (hexText r1) ++ [48, 48]].map Str)]) => ?_)
  refine cl trivial rfl (rdOf (rb := g1) (Ab := Acs) (cb := ccs) (bs := cs.take 2000) (p := q1) (Ass := (some ⟨b1, 0, none⟩)) (css := 7) (ss := [hexText r1, hexText r1, hexText r1, (hexText r1) ++ [48], (hexText r1) ++ [48, 103], [65, 48] ++ (hexText r1), (hexText r1) ++ [48, 48]]) (w := _) (hr := (blk_heap hs4 0 rfl)) (hb := (Sl.take_ (hcs.up hs4 (by simp) (fun k h => .inr (hs4.lo1 0 rfl k h))) 2000)) (hbn := (by first | assumption | (simp; omega))) (hp := (by omega)) (hss := (hs4.sl 2 rfl (by intro k hk; simp at hk; subst hk; exact ⟨_, memi 0 rfl, rfl⟩))) (hne := (by first | omega | assumption | (simp; done) | (simp; omega)))) ?_
  rintro _ w5 ⟨s1, q2, rfl, p3, p4, hs5'⟩
  have hs5 : SH w w5 [] [.own A1 r1.length c1 3 1 (r1.map I), .own (some ⟨b1, 0, none⟩) ([hexText r1, hexText r1, hexText r1, (hexText r1) ++ [48], (hexText r1) ++ [48, 103], [65, 48] ++ (hexText r1), (hexText r1) ++ [48, 48]].length) 7 9 1 ([hexText r1, hexText r1, hexText r1, (hexText r1) ++ [48], (hexText r1) ++ [48, 103], [65, 48] ++ (hexText r1), (hexText r1) ++ [48, 48]].map Str), .blk g1 55 [.slice Acs ((cs.take 2000).length) ccs, .int .i64 ((q2 : Nat) : Int)]] := hs4.callM 0 rfl hs5' (by intro k hk; simp at hk; exact hk.symm)
  clear hs5'
  refine q trivial rfl rfl (asg (v := Str s1) rfl) ?_
  refine nl ?_
  refine nN ?_
  refine rt ?_
  refine fret (v := Str s1) (.tmp .nil) rfl ?_
  exact ⟨s1, rfl, (by have := hexText_len r1; simp only [List.mem_cons, List.not_mem_nil, or_false] at p3; rcases p3 with h | h | h | h | h | h | h <;> subst h <;> (try simp) <;> omega), (hs5.pick [] rfl (by decide))⟩

theorem copyCheckF {bb : Nat} {Abb : Option Addr} {cbb nbb : Nat} (w : World) (hbd : w.heap[bb]? = some (.cells [.pointer none, .slice Abb nbb cbb].toArray 41 (0, 0))) : Does Try.prog 35 [.pointer (some ⟨bb, 0, none⟩)] w (fun v w' => v = .tuple #[] ∧ SH w w' [bb] [.blk bb 41 [.pointer (some ⟨bb, 0, none⟩), .slice Abb nbb cbb]]) := by
  refine fn_enter (N := 20) Try.func35 rfl (by kernel_rfl) rfl rfl rfl ?_
  have hs0 : SH w w [bb] [.blk bb 41 [.pointer none, .slice Abb nbb cbb]] := SH.entry1 hbd
  refine sq ?_
  refine rg ?_
  refine q trivial rfl rfl (mv (v := .pointer (some ⟨bb, 0, none⟩)) rfl) ?_
  refine q trivial rfl rfl (nc rfl) ?_
  refine q trivial rfl rfl (fa 0 fo41_0 rfl) ?_
  refine q trivial rfl rfl (ld (v := .pointer none) hs0 0 rfl rfl rfl one39) ?_
  refine q trivial rfl rfl (pnil0 tp39 rfl rfl) ?_
  refine nl ?_
  refine nN ?_
  refine cdt rfl ?_
  refine rg ?_
  refine q trivial rfl rfl (mv (v := .pointer (some ⟨bb, 0, none⟩)) rfl) ?_
  refine q trivial rfl rfl (mv (v := .pointer (some ⟨bb, 0, none⟩)) rfl) ?_
  refine q trivial rfl rfl (toU hs0 0 rfl tp39 tu58 tz_41 (by simp) rfl) ?_
  refine q trivial rfl rfl (nesc (v := .pointer (some ⟨bb, 0, none⟩)) Try.func39 (by kernel_rfl) rfl (by kernel_rfl) (by kernel_rfl) rfl) ?_
  refine q trivial rfl rfl (frU hs0 0 rfl tu58 tp39 tz_41 (by kernel_rfl) rfl) ?_
  refine q trivial rfl rfl (nc rfl) ?_
  refine q trivial rfl rfl (fa 0 fo41_0 rfl) ?_
  refine st (v := .pointer (some ⟨bb, 0, none⟩)) hs0 0 rfl rfl rfl rfl rfl one39 trivial (fun w1 (hs1 : SH w w1 [bb] [.blk bb 41 [.pointer (some ⟨bb, 0, none⟩), .slice Abb nbb cbb]]) => ?_)
  refine nl ?_
  refine fnor (v := .tuple #[]) .nil rfl ?_
  exact ⟨rfl, hs1⟩

theorem copyCheckU {bb : Nat} {Abb : Option Addr} {cbb nbb : Nat} (w : World) (hbd : w.heap[bb]? = some (.cells [.pointer (some ⟨bb, 0, none⟩), .slice Abb nbb cbb].toArray 41 (0, 0))) : Does Try.prog 35 [.pointer (some ⟨bb, 0, none⟩)] w (fun v w' => v = .tuple #[] ∧ SH w w' [bb] [.blk bb 41 [.pointer (some ⟨bb, 0, none⟩), .slice Abb nbb cbb]]) := by
  refine fn_enter (N := 20) Try.func35 rfl (by kernel_rfl) rfl rfl rfl ?_
  have hs0 : SH w w [bb] [.blk bb 41 [.pointer (some ⟨bb, 0, none⟩), .slice Abb nbb cbb]] := SH.entry1 hbd
  refine sq ?_
  refine rg ?_
  refine q trivial rfl rfl (mv (v := .pointer (some ⟨bb, 0, none⟩)) rfl) ?_
  refine q trivial rfl rfl (nc rfl) ?_
  refine q trivial rfl rfl (fa 0 fo41_0 rfl) ?_
  refine q trivial rfl rfl (ld (v := .pointer (some ⟨bb, 0, none⟩)) hs0 0 rfl rfl rfl one39) ?_
  refine q trivial rfl rfl (pnil1 tp39 rfl rfl) ?_
  refine nl ?_
  refine nN ?_
  refine cdf rfl ?_
  refine sq ?_
  refine rg ?_
  refine q trivial rfl rfl (mv (v := .pointer (some ⟨bb, 0, none⟩)) rfl) ?_
  refine q trivial rfl rfl (nc rfl) ?_
  refine q trivial rfl rfl (fa 0 fo41_0 rfl) ?_
  refine q trivial rfl rfl (ld (v := .pointer (some ⟨bb, 0, none⟩)) hs0 0 rfl rfl rfl one39) ?_
  refine q trivial rfl rfl (mv (v := .pointer (some ⟨bb, 0, none⟩)) rfl) ?_
  refine q trivial rfl rfl (pnesz tp39 tz_41 rfl rfl) ?_
  refine nl ?_
  refine nN ?_
  refine cdf rfl ?_
  refine sk ?_
  refine fnor (v := .tuple #[]) .nil rfl ?_
  exact ⟨rfl, hs0⟩

theorem copyCheck {bb : Nat} {Abb : Option Addr} {cbb nbb : Nat} {pb : Option Addr} (w : World) (hbd : w.heap[bb]? = some (.cells [.pointer pb, .slice Abb nbb cbb].toArray 41 (0, 0))) (hpb : pb = none ∨ pb = some ⟨bb, 0, none⟩) : Does Try.prog 35 [.pointer (some ⟨bb, 0, none⟩)] w (fun v w' => v = .tuple #[] ∧ SH w w' [bb] [.blk bb 41 [.pointer (some ⟨bb, 0, none⟩), .slice Abb nbb cbb]]) := by
  rcases hpb with rfl | rfl
  · exact copyCheckF w hbd
  · exact copyCheckU w hbd

theorem writeByte {bb : Nat} {pb : Option Addr} {Abb : Option Addr} {cbb : Nat} (l : List UInt8) (c : UInt8) (w : World) (hbd : w.heap[bb]? = some (.cells [.pointer pb, .slice Abb l.length cbb].toArray 41 (0, 0))) (hpb : pb = none ∨ pb = some ⟨bb, 0, none⟩) (hbo : OwnR w Abb l.length cbb 5 1 (l.map U)) (hbx : ∀ k, (It.own Abb l.length cbb 5 1 (l.map U)).has k → ¬ (It.blk bb 41 [.pointer pb, .slice Abb l.length cbb]).has k) (hl : l.length ≤ 1099511627776) : Does Try.prog 25 [.pointer (some ⟨bb, 0, none⟩), .int .u8 ((c.toNat : Nat) : Int)] w (fun v w' => ∃ Aor : Option Addr, ∃ cor : Nat, v = .nilIface ∧ SH w w' ([bb] ++ (ownM Abb cbb ++ [])) [.blk bb 41 [.pointer (some ⟨bb, 0, none⟩), .slice Aor ((l ++ [c]).length) cor], .own Aor ((l ++ [c]).length) cor 5 1 ((l ++ [c]).map U)]) := by
  refine fn_enter (N := 17) Try.func25 rfl (by kernel_rfl) rfl rfl rfl ?_
  have hs0 : SH w w ([bb] ++ (ownM Abb cbb ++ [])) [.blk bb 41 [.pointer pb, .slice Abb l.length cbb], .own Abb l.length cbb 5 1 (l.map U)] := entryB hbd hbo hbx
  refine sq ?_
  refine rg ?_
  refine q trivial rfl rfl (asg (v := .nilIface) rfl) ?_
  refine nl ?_
  refine nN ?_
  refine sq ?_
  refine rg ?_
  refine q trivial rfl rfl (mv (v := .pointer (some ⟨bb, 0, none⟩)) rfl) ?_
  refine cl trivial rfl (copyCheck (bb := bb) (Abb := Abb) (cbb := cbb) (nbb := l.length) (pb := pb) (w := _) (hbd := (blk_heap hs0 0 rfl)) (hpb := (by assumption))) ?_
  rintro _ w1 ⟨rfl, hs1'⟩
  have hs1 : SH w w1 ([bb] ++ (ownM Abb cbb ++ [])) [.own Abb l.length cbb 5 1 (l.map U), .blk bb 41 [.pointer (some ⟨bb, 0, none⟩), .slice Abb l.length cbb]] := SH.callK (K := [.blk bb 41 [.pointer pb, .slice Abb l.length cbb]]) (R := [.own Abb l.length cbb 5 1 (l.map U)]) hs0 hs1' rfl
  clear hs1'
  refine nl ?_
  refine nN ?_
  refine sq ?_
  refine rg ?_
  refine q trivial rfl rfl (mv (v := .pointer (some ⟨bb, 0, none⟩)) rfl) ?_
  refine q trivial rfl rfl (mv (v := .pointer (some ⟨bb, 0, none⟩)) rfl) ?_
  refine q trivial rfl rfl (nc rfl) ?_
  refine q trivial rfl rfl (fa 1 fo41_1 rfl) ?_
  refine q trivial rfl rfl (ld (v := .slice Abb l.length cbb) hs1 1 rfl rfl rfl one31) ?_
  refine q trivial rfl rfl (mv (v := .int .u8 ((c.toNat : Nat) : Int)) rfl) ?_
  refine Go.PF.bs hs1 sl31 [(0, .int .u8 ((c.toNat : Nat) : Int))] rfl (cs := [.int .u8 ((c.toNat : Nat) : Int)]) (by kernel_rfl) rfl (by decide) (by decide) trivial rfl (fun b1 w2 (hs2 : SH w w2 ([bb] ++ (ownM Abb cbb ++ [])) [.own Abb l.length cbb 5 1 (l.map U), .blk bb 41 [.pointer (some ⟨bb, 0, none⟩), .slice Abb l.length cbb], .own (some ⟨b1, 0, none⟩) ([c].length) 1 5 1 ([c].map U)]) => ?_)
  refine apm (g := U) (ys := l) (zs := [c]) hs2 0 rfl sl31 rfl rfl rfl (hs2.sl0 2 rfl) (fun _ => rfl) (by unfold maxLen; first | omega | (simp; omega)) (by first | omega | (simp; omega)) trivial rfl (fun A1 c1 w3 (hs3 : SH w w3 ([bb] ++ (ownM Abb cbb ++ [])) [.blk bb 41 [.pointer (some ⟨bb, 0, none⟩), .slice Abb l.length cbb], .own (some ⟨b1, 0, none⟩) ([c].length) 1 5 1 ([c].map U), .own A1 ((l ++ [c]).length) c1 5 1 ((l ++ [c]).map U)]) => ?_)
  refine q trivial rfl rfl (nc rfl) ?_
  refine q trivial rfl rfl (fa 1 fo41_1 rfl) ?_
  refine st (v := .slice A1 ((l ++ [c]).length) c1) hs3 0 rfl rfl rfl rfl rfl one31 trivial (fun w4 (hs4 : SH w w4 ([bb] ++ (ownM Abb cbb ++ [])) [.own (some ⟨b1, 0, none⟩) ([c].length) 1 5 1 ([c].map U), .own A1 ((l ++ [c]).length) c1 5 1 ((l ++ [c]).map U), .blk bb 41 [.pointer (some ⟨bb, 0, none⟩), .slice A1 ((l ++ [c]).length) c1]]) => ?_)
  refine nl ?_
  refine nN ?_
  refine sq ?_
  refine rg ?_
  refine q trivial rfl rfl (asg (v := .nilIface) rfl) ?_
  refine nl ?_
  refine nN ?_
  refine rt ?_
  refine fret (v := .nilIface) (.tmp .nil) rfl ?_
  exact ⟨A1, c1, rfl, (hs4.pick [2, 1] rfl (by decide))⟩

theorem bStringN {bb : Nat} {pb : Option Addr} (w : World) (hbd : w.heap[bb]? = some (.cells [.pointer pb, .slice none 0 0].toArray 41 (0, 0))) : Does Try.prog 26 [.pointer (some ⟨bb, 0, none⟩)] w (fun v w' => v = Str [] ∧ SH w w' [bb] []) := by
  refine fn_enter (N := 14) Try.func26 rfl (by kernel_rfl) rfl rfl rfl ?_
  have hs0 : SH w w [bb] [.blk bb 41 [.pointer pb, .slice none 0 0]] := SH.entry1 hbd
  refine sq ?_
  refine rg ?_
  refine q trivial rfl rfl (asg (v := Str []) rfl) ?_
  refine nl ?_
  refine nN ?_
  refine sq ?_
  refine ra (fun w' => ∃ L, SH w w' [bb] L ∧ (.blk bb 41 [.pointer pb, .slice none 0 0]) ∈ L ∧ True) mixed ?_
  have hs1 := hs0.drew
  refine tk (fuel := 2) (is := [0, 1, 2, 3, 4, 5, 6, 7, 8, 9]) (.cons rfl (.cons rfl (.cons rfl (.cons rfl (.cons rfl (.cons rfl (.cons rfl (.cons rfl (.cons rfl (.cons rfl (.nil))))))))))) (by kernel_rfl) (by kernel_rfl) ⟨_, hs1, memi 0 rfl, trivial⟩ ?_
  refine .op trivial rfl rfl (fun wq _ => mv (v := .pointer (some ⟨bb, 0, none⟩)) rfl) ?_
  refine .op trivial rfl rfl (fun wq _ => nc rfl) ?_
  refine .op trivial rfl rfl (fun wq _ => fa 1 fo41_1 rfl) ?_
  refine .op trivial rfl rfl (fun wq ⟨Lq, hsq, m0, _⟩ => ldm (v := .slice none 0 0) hsq m0 rfl rfl one31) ?_
  refine .op trivial rfl rfl (fun wq _ => usd0 rfl) ?_
  refine .op trivial rfl rfl (fun wq _ => mv (v := .pointer (some ⟨bb, 0, none⟩)) rfl) ?_
  refine .op trivial rfl rfl (fun wq _ => nc rfl) ?_
  refine .op trivial rfl rfl (fun wq _ => fa 1 fo41_1 rfl) ?_
  refine .op trivial rfl rfl (fun wq ⟨Lq, hsq, m0, _⟩ => ldm (v := .slice none 0 0) hsq m0 rfl rfl one31) ?_
  refine .op trivial rfl rfl (fun wq _ => lnA (n := 0) sl31 rfl) ?_
  refine .nil ?_
  refine a1 (i := 10) (by kernel_rfl) ?_
  refine one_ rfl ?_
  refine q trivial rfl rfl (ust0 (p := none) rfl rfl) ?_
  refine nl (kq ⟨_, hs1, memi 0 rfl, trivial⟩ ?_)
  refine tk (fuel := 0) (is := [11]) (.cons rfl (.nil)) (by kernel_rfl) (by kernel_rfl) ⟨_, hs1, memi 0 rfl, trivial⟩ ?_
  refine .op trivial rfl rfl (fun wq _ => asg (v := Str []) rfl) ?_
  refine .nil ?_
  refine ad (by kernel_rfl) ?_
  refine nN ?_
  refine rt ?_
  refine fret (v := Str []) (.tmp .nil) rfl ?_
  exact ⟨rfl, (hs1.pick [] rfl (by decide))⟩

theorem bStringR {bb gb : Nat} {pb : Option Addr} {cbb : Nat} (l : List UInt8) (w : World) (hbd : w.heap[bb]? = some (.cells [.pointer pb, .slice (some ⟨gb, 0, none⟩) l.length cbb].toArray 41 (0, 0))) (hbo : OwnR w (some ⟨gb, 0, none⟩) l.length cbb 5 1 (l.map U)) (hbx : ∀ k, (It.own (some ⟨gb, 0, none⟩) l.length cbb 5 1 (l.map U)).has k → ¬ (It.blk bb 41 [.pointer pb, .slice (some ⟨gb, 0, none⟩) l.length cbb]).has k) (hl0 : 0 < l.length) (hlc : cbb ≠ 0) : Does Try.prog 26 [.pointer (some ⟨bb, 0, none⟩)] w (fun v w' => v = Str l ∧ SH w w' ([bb] ++ (ownM (some ⟨gb, 0, none⟩) cbb ++ [])) []) := by
  refine fn_enter (N := 14) Try.func26 rfl (by kernel_rfl) rfl rfl rfl ?_
  have hs0 : SH w w ([bb] ++ (ownM (some ⟨gb, 0, none⟩) cbb ++ [])) [.blk bb 41 [.pointer pb, .slice (some ⟨gb, 0, none⟩) l.length cbb], .own (some ⟨gb, 0, none⟩) l.length cbb 5 1 (l.map U)] := entryB hbd hbo hbx
  refine sq ?_
  refine rg ?_
  refine q trivial rfl rfl (asg (v := Str []) rfl) ?_
  refine nl ?_
  refine nN ?_
  refine sq ?_
  refine ra (fun w' => ∃ L, SH w w' ([bb] ++ (ownM (some ⟨gb, 0, none⟩) cbb ++ [])) L ∧ (.blk bb 41 [.pointer pb, .slice (some ⟨gb, 0, none⟩) l.length cbb]) ∈ L ∧ True) mixed ?_
  have hs1 := hs0.drew
  refine tk (fuel := 2) (is := [0, 1, 2, 3, 4, 5, 6, 7, 8, 9]) (.cons rfl (.cons rfl (.cons rfl (.cons rfl (.cons rfl (.cons rfl (.cons rfl (.cons rfl (.cons rfl (.cons rfl (.nil))))))))))) (by kernel_rfl) (by kernel_rfl) ⟨_, hs1, memi 0 rfl, trivial⟩ ?_
  refine .op trivial rfl rfl (fun wq _ => mv (v := .pointer (some ⟨bb, 0, none⟩)) rfl) ?_
  refine .op trivial rfl rfl (fun wq _ => nc rfl) ?_
  refine .op trivial rfl rfl (fun wq _ => fa 1 fo41_1 rfl) ?_
  refine .op trivial rfl rfl (fun wq ⟨Lq, hsq, m0, _⟩ => ldm (v := .slice (some ⟨gb, 0, none⟩) l.length cbb) hsq m0 rfl rfl one31) ?_
  refine .op trivial rfl rfl (fun wq _ => usd (a := ⟨gb, 0, none⟩) rfl (by exact hlc)) ?_
  refine .op trivial rfl rfl (fun wq _ => mv (v := .pointer (some ⟨bb, 0, none⟩)) rfl) ?_
  refine .op trivial rfl rfl (fun wq _ => nc rfl) ?_
  refine .op trivial rfl rfl (fun wq _ => fa 1 fo41_1 rfl) ?_
  refine .op trivial rfl rfl (fun wq ⟨Lq, hsq, m0, _⟩ => ldm (v := .slice (some ⟨gb, 0, none⟩) l.length cbb) hsq m0 rfl rfl one31) ?_
  refine .op trivial rfl rfl (fun wq _ => lnA (n := l.length) sl31 rfl) ?_
  refine .nil ?_
  refine a1 (i := 10) (by kernel_rfl) ?_
  refine one_ rfl ?_
  refine ust (l := l) hs1 1 rfl tp53 (by kernel_rfl) rfl rfl (by omega) trivial rfl (fun w1 (hs2 : SH w w1 ([bb] ++ (ownM (some ⟨gb, 0, none⟩) cbb ++ [])) [.blk bb 41 [.pointer pb, .slice (some ⟨gb, 0, none⟩) l.length cbb]]) => ?_)
  refine nl (kq ⟨_, hs2, memi 0 rfl, trivial⟩ ?_)
  refine tk (fuel := 0) (is := [11]) (.cons rfl (.nil)) (by kernel_rfl) (by kernel_rfl) ⟨_, hs2, memi 0 rfl, trivial⟩ ?_
  refine .op trivial rfl rfl (fun wq _ => asg (v := Str l) rfl) ?_
  refine .nil ?_
  refine ad (by kernel_rfl) ?_
  refine nN ?_
  refine rt ?_
  refine fret (v := Str l) (.tmp .nil) rfl ?_
  exact ⟨rfl, (hs2.pick [] rfl (by decide))⟩

theorem bString {bb : Nat} {pb : Option Addr} {Abb : Option Addr} {cbb : Nat} (l : List UInt8) (w : World) (hbd : w.heap[bb]? = some (.cells [.pointer pb, .slice Abb l.length cbb].toArray 41 (0, 0))) (hpb : pb = none ∨ pb = some ⟨bb, 0, none⟩) (hbo : OwnR w Abb l.length cbb 5 1 (l.map U)) (hbx : ∀ k, (It.own Abb l.length cbb 5 1 (l.map U)).has k → ¬ (It.blk bb 41 [.pointer pb, .slice Abb l.length cbb]).has k) (hA : l.length = 0 → Abb = none ∧ cbb = 0) : Does Try.prog 26 [.pointer (some ⟨bb, 0, none⟩)] w (fun v w' => v = Str l ∧ SH w w' ([bb] ++ (ownM Abb cbb ++ [])) []) := by
  rcases Nat.eq_zero_or_pos l.length with h0 | h0
  · obtain ⟨rfl, rfl⟩ := hA h0
    have hl : l = [] := List.eq_nil_of_length_eq_zero h0
    subst hl
    exact (bStringN w hbd).mono fun v w' h => ⟨h.1, h.2.monoM (by intro k hk; simp at hk; subst hk; simp)⟩
  · obtain ⟨gb, rfl⟩ := ownR_form hbo h0
    exact bStringR l w hbd hbo hbx h0 (by have := hbo.2.1; omega)

theorem iHexText {Axs : Option Addr} {cxs : Nat} (xs : List Int) (w : World) (hxs : Sl w [] 1 Axs xs.length cxs (xs.map I)) : Does Try.prog 16 [.slice Axs xs.length cxs] w (fun v w' => v = Str (hexText xs) ∧ SH w w' [] []) := by
  refine fn_enter (N := 25) Try.func16 rfl (by kernel_rfl) rfl rfl rfl ?_
  have hs0 : SH w w [] [] := SH.refl w []
  have hxs_m : xs.length ≤ 9223372036854775807 := Nat.le_trans hxs.cap hxs.capMax
  refine sq ?_
  refine rg ?_
  refine q trivial rfl rfl (asg (v := Str []) rfl) ?_
  refine nl ?_
  refine nN ?_
  refine sq ?_
  refine sq ?_
  refine rg ?_
  refine q trivial rfl rfl (mv (v := .slice Axs xs.length cxs) rfl) ?_
  refine cl trivial rfl (iBytesValid (Azs := Axs) (czs := cxs) (zs := xs) (w := _) (hzs := (hxs.up0 hs0))) ?_
  rintro _ w1 ⟨rfl, hs1'⟩
  have hs1 : SH w w1 [] [] := hs0.call0 hs1'
  clear hs1'
  refine q trivial rfl rfl (nt (b := isBytes xs) rfl) ?_
  refine nl ?_
  refine nN ?_
  refine cd (b := !(isBytes xs)) rfl (fun h1 => ?_) (fun h1 => ?_)
  · refine sq ?_
    refine rg ?_
    refine q trivial rfl rfl (asg (v := Str []) rfl) ?_
    refine nl ?_
    refine nN ?_
    refine rt (tR ?_)
    refine fret (v := Str []) (.tmp .nil) rfl ?_
    have e1 : [] = hexText xs := by have h0 : isBytes xs = false := (by simpa using h1); simp [hexText, h0]
    exact ⟨(congrArg (Str) e1), hs1⟩
  · refine sk ?_
    refine nN ?_
    refine sq ?_
    refine rg ?_
    refine al (v := .agg #[.pointer none, .slice none 0 0]) (cs := [.pointer none, .slice none 0 0]) hs1 tz41 rfl trivial rfl (fun b1 w2 (hs2 : SH w w2 [] [.blk b1 41 [.pointer none, .slice none 0 0]]) => ?_)
    refine nl ?_
    refine nN ?_
    refine sq ?_
    refine sq ?_
    refine rg ?_
    refine q trivial rfl rfl (mv (v := .slice Axs xs.length cxs) rfl) ?_
    refine q trivial rfl rfl (lnA (n := xs.length) sl22 rfl) ?_
    refine q trivial rfl rfl (mv (v := .int .i64 0) rfl) ?_
    refine nl ?_
    refine nN ?_
    refine bl ?_
    have hs3 : SH w w2 [] [.blk b1 41 [.pointer none, .slice none 0 0], .own none (([] : List UInt8).length) 0 5 1 (([] : List UInt8).map U)] := SH.nils (by intro i hi; simp at hi; subst hi; exact nilItem) hs2
    have hbz : isBytes xs = true := by simpa using h1
    have e2 : ([] : List UInt8) = hexT xs 0 := by rfl
    have e3 : ([] : List UInt8).length = (hexT xs 0).length := by rw [e2]
    refine lp (σ := (Option Addr) × Nat × (Option Addr) × Nat) (fun ⟨Ab_, cb_, pb_, k⟩ f w' => Has f [(3, .pointer (some ⟨b1, 0, none⟩)), (9, .slice Axs xs.length cxs), (10, .int .i64 ((xs.length : Nat) : Int)), (11, .int .i64 ((k : Nat) : Int))] ∧ (k ≤ xs.length) ∧ (pb_ = none ∨ pb_ = some ⟨b1, 0, none⟩) ∧ (k = 0 → Ab_ = none ∧ cb_ = 0) ∧ SH w w' [] [.blk b1 41 [.pointer pb_, .slice Ab_ ((hexT xs k).length) cb_], .own Ab_ ((hexT xs k).length) cb_ 5 1 ((hexT xs k).map U)]) (fun ⟨Ab_, cb_, pb_, k⟩ => xs.length - k) (none, 0, none, 0) ⟨⟨rfl, rfl, rfl, rfl, trivial⟩, (by simp), (.inl rfl), (fun _ => ⟨rfl, rfl⟩), (hs3.cast (lc (congrArg (It.blk b1 41) (lc rfl (lc (slv rfl e3 rfl) rfl))) (lc (own_eq (g := U) rfl e3 rfl e2) rfl)))⟩ ?_
    rintro ⟨Ab_, cb_, pb_, k⟩ f w3 ⟨hf, hk, hpb_, hA, hs4⟩
    obtain ⟨g1, rfl⟩ := has_upd hf
    clear hf
    refine sq ?_
    refine rg ?_
    refine q trivial rfl rfl (lss (k := .i64) (a := ((k : Nat) : Int)) (b := ((xs.length : Nat) : Int)) rfl rfl) ?_
    refine nl ?_
    refine nN ?_
    refine sq ?_
    refine cdd (p := ((k : Nat) : Int) < ((xs.length : Nat) : Int)) rfl (fun h2 => ?_) (fun h2 => ?_)
    · refine sk ?_
      refine nN ?_
      refine sq ?_
      refine bl ?_
      refine sq ?_
      refine rg ?_
      refine ixw1 k sl22 rfl rfl hxs (by first | omega | (simp; omega)) (getm I 0 (by first | omega | (simp; omega))) trivial rfl (fun a1 ha1 => ?_)
      refine q trivial rfl rfl (lda (v := .int .i64 (xs.getD k 0)) hs4 ha1 (fun _ h => h) rfl rfl one3) ?_
      refine q trivial rfl rfl (asg (v := .int .i64 (xs.getD k 0)) rfl) ?_
      refine nl ?_
      refine nN ?_
      refine sq ?_
      refine rg ?_
      refine q trivial rfl rfl (mv (v := .int .i64 (xs.getD k 0)) rfl) ?_
      refine q trivial rfl rfl (quo (a := xs.getD k 0) (b := 16) rfl rfl (by have hy := isBytes_get hbz (k := k) (by omega); omega) (by have hy := isBytes_get hbz (k := k) (by omega); omega) (by have hy := isBytes_get hbz (k := k) (by omega); omega)) ?_
      refine q trivial rfl rfl (ixs (l := hexDs) (((xs.getD k 0) / 16).toNat) st9 rfl (ieq (x := (xs.getD k 0) / 16) (by have hy := isBytes_get hbz (k := k) (by omega); omega)) (by have hy := isBytes_get hbz (k := k) (by omega); have := hexDs_len; omega)) ?_
      refine cl trivial rfl (writeByte (bb := b1) (pb := pb_) (Abb := Ab_) (cbb := cb_) (l := hexT xs k) (c := (hexDs.getD (((xs.getD k 0) / 16).toNat) 0)) (w := _) (hbd := (blk_heap hs4 0 rfl)) (hpb := (by assumption)) (hbo := (own_ok hs4 1 rfl)) (hbx := (it_dis hs4 1 0 (by decide) rfl rfl)) (hl := (by have := hexT_len xs k; have := isBytes_len hbz; (try simp); omega))) ?_
      rintro _ w4 ⟨Ao1, co1, rfl, hs5'⟩
      have hs5 : SH w w4 [] [.blk b1 41 [.pointer (some ⟨b1, 0, none⟩), .slice Ao1 (((hexT xs k) ++ [(hexDs.getD (((xs.getD k 0) / 16).toNat) 0)]).length) co1], .own Ao1 (((hexT xs k) ++ [(hexDs.getD (((xs.getD k 0) / 16).toNat) 0)]).length) co1 5 1 (((hexT xs k) ++ [(hexDs.getD (((xs.getD k 0) / 16).toNat) 0)]).map U)] := SH.callK (K := [.blk b1 41 [.pointer pb_, .slice Ab_ ((hexT xs k).length) cb_], .own Ab_ ((hexT xs k).length) cb_ 5 1 ((hexT xs k).map U)]) (R := []) hs4 hs5' rfl
      clear hs5'
      refine nl ?_
      refine nN ?_
      refine rg ?_
      refine q trivial rfl rfl (mv (v := .int .i64 (xs.getD k 0)) rfl) ?_
      refine q trivial rfl rfl (rem (a := xs.getD k 0) (b := 16) rfl rfl (by have hy := isBytes_get hbz (k := k) (by omega); omega) (by have hy := isBytes_get hbz (k := k) (by omega); omega)) ?_
      refine q trivial rfl rfl (ixs (l := hexDs) (((xs.getD k 0) % 16).toNat) st9 rfl (ieq (x := (xs.getD k 0) % 16) (by have hy := isBytes_get hbz (k := k) (by omega); omega)) (by have hy := isBytes_get hbz (k := k) (by omega); have := hexDs_len; omega)) ?_
      refine cl trivial rfl (writeByte (bb := b1) (pb := (some ⟨b1, 0, none⟩)) (Abb := Ao1) (cbb := co1) (l := (hexT xs k) ++ [(hexDs.getD (((xs.getD k 0) / 16).toNat) 0)]) (c := (hexDs.getD (((xs.getD k 0) % 16).toNat) 0)) (w := _) (hbd := (blk_heap hs5 0 rfl)) (hpb := (.inr rfl)) (hbo := (own_ok hs5 1 rfl)) (hbx := (it_dis hs5 1 0 (by decide) rfl rfl)) (hl := (by have := hexT_len xs k; have := isBytes_len hbz; (try simp); omega))) ?_
      rintro _ w5 ⟨Ao2, co2, rfl, hs6'⟩
      have hs6 : SH w w5 [] [.blk b1 41 [.pointer (some ⟨b1, 0, none⟩), .slice Ao2 ((((hexT xs k) ++ [(hexDs.getD (((xs.getD k 0) / 16).toNat) 0)]) ++ [(hexDs.getD (((xs.getD k 0) % 16).toNat) 0)]).length) co2], .own Ao2 ((((hexT xs k) ++ [(hexDs.getD (((xs.getD k 0) / 16).toNat) 0)]) ++ [(hexDs.getD (((xs.getD k 0) % 16).toNat) 0)]).length) co2 5 1 ((((hexT xs k) ++ [(hexDs.getD (((xs.getD k 0) / 16).toNat) 0)]) ++ [(hexDs.getD (((xs.getD k 0) % 16).toNat) 0)]).map U)] := SH.callK (K := [.blk b1 41 [.pointer (some ⟨b1, 0, none⟩), .slice Ao1 (((hexT xs k) ++ [(hexDs.getD (((xs.getD k 0) / 16).toNat) 0)]).length) co1], .own Ao1 (((hexT xs k) ++ [(hexDs.getD (((xs.getD k 0) / 16).toNat) 0)]).length) co1 5 1 (((hexT xs k) ++ [(hexDs.getD (((xs.getD k 0) / 16).toNat) 0)]).map U)]) (R := []) hs5 hs6' rfl
      clear hs6'
      refine nl ?_
      refine bN ?_
      refine nN ?_
      refine rg ?_
      refine q trivial rfl rfl (add (a := ((k : Nat) : Int)) (b := 1) rfl rfl (by exact ⟨by omega, by omega⟩)) ?_
      refine q trivial rfl rfl (mv (v := .int .i64 (((k : Nat) : Int) + 1)) rfl) ?_
      refine nl ?_
      refine nN ?_
      have e4 : ((hexT xs k) ++ [(hexDs.getD (((xs.getD k 0) / 16).toNat) 0)]) ++ [(hexDs.getD (((xs.getD k 0) % 16).toNat) 0)] = hexT xs (k + 1) := by exact hexT_succ2 hbz (by omega)
      have e5 : (((hexT xs k) ++ [(hexDs.getD (((xs.getD k 0) / 16).toNat) 0)]) ++ [(hexDs.getD (((xs.getD k 0) % 16).toNat) 0)]).length = (hexT xs (k + 1)).length := by rw [e4]
      refine ⟨(Ao2, co2, (some ⟨b1, 0, none⟩), k + 1), ⟨⟨rfl, rfl, rfl, rfl, trivial⟩, (by omega), (.inr rfl), (fun h => by omega), (hs6.cast (lc (congrArg (It.blk b1 41) (lc rfl (lc (slv rfl e5 rfl) rfl))) (lc (own_eq (g := U) rfl e5 rfl e4) rfl)))⟩, ?_⟩
      show xs.length - (k + 1) < xs.length - k
      omega
    · refine ex (tE (tE (bE ?_)))
      refine nN ?_
      refine sq ?_
      refine rg ?_
      refine cl trivial rfl (bString (bb := b1) (pb := pb_) (Abb := Ab_) (cbb := cb_) (l := hexT xs k) (w := _) (hbd := (blk_heap hs4 0 rfl)) (hpb := (by assumption)) (hbo := (own_ok hs4 1 rfl)) (hbx := (it_dis hs4 1 0 (by decide) rfl rfl)) (hA := (by intro h0; rw [hexT_len2 hbz k hk] at h0; exact hA (by omega)))) ?_
      rintro _ w6 ⟨rfl, hs7'⟩
      have hs7 : SH w w6 [] [] := SH.callK (K := [.blk b1 41 [.pointer pb_, .slice Ab_ ((hexT xs k).length) cb_], .own Ab_ ((hexT xs k).length) cb_ 5 1 ((hexT xs k).map U)]) (R := []) hs4 hs7' rfl
      clear hs7'
      refine q trivial rfl rfl (asg (v := Str (hexT xs k)) rfl) ?_
      refine nl ?_
      refine nN ?_
      refine rt ?_
      refine fret (v := Str (hexT xs k)) (.tmp .nil) rfl ?_
      have e6 : (hexT xs k) = hexText xs := by have h0 : k = xs.length := (by omega); subst h0; rw [hexText, if_pos hbz]
      exact ⟨(congrArg (Str) e6), hs7⟩

theorem lExactHexFrom (l : List UInt8) (w : World)  : Does Try.prog 3 [Str l] w (fun v w' => v = .bool true ∧ SH w w' [] []) := by
  refine fn_enter (N := 66) Try.func3 rfl (by kernel_rfl) rfl rfl rfl ?_
  have hs0 : SH w w [] [] := SH.refl w []
  refine sq ?_
  refine rg ?_
  refine q trivial rfl rfl (asg (v := .bool false) rfl) ?_
  refine nl ?_
  refine nN ?_
  refine sq ?_
  refine sq ?_
  refine rg ?_
  refine q trivial rfl rfl (mv (v := Str l) rfl) ?_
  refine q trivial rfl rfl (lnS (l := l) st9 rfl) ?_
  refine q trivial rfl rfl (gtr (k := .i64) (a := ((l.length : Nat) : Int)) (b := 1048576) rfl rfl) ?_
  refine nl ?_
  refine nN ?_
  refine cdd (p := (1048576 : Int) < ((l.length : Nat) : Int)) rfl (fun h1 => ?_) (fun h1 => ?_)
  · refine sq ?_
    refine rg ?_
    refine q trivial rfl rfl (asg (v := .bool true) rfl) ?_
    refine nl ?_
    refine nN ?_
    refine rt (tR ?_)
    refine fret (v := .bool true) (.tmp .nil) rfl ?_
    exact ⟨rfl, hs0⟩
  · refine sk ?_
    refine nN ?_
    refine sq ?_
    refine rg ?_
    refine q trivial rfl rfl (mv (v := Str l) rfl) ?_
    refine cl trivial rfl (sHexFrom (l := l) (w := _) (hl_n := (by have := hexFrom_len l; first | omega | (simp; omega)))) ?_
    rintro _ w1 ⟨A1, c1, rfl, hs1'⟩
    have hs1 : SH w w1 [] [.own A1 (((hexFrom l).1).length) c1 3 1 (((hexFrom l).1).map I)] := hs0.call0 hs1'
    clear hs1'
    refine q trivial rfl rfl (mv (v := .tuple #[.slice A1 (((hexFrom l).1).length) c1, .bool ((hexFrom l).2)]) rfl) ?_
    refine q trivial rfl rfl (xt 0 (v := .slice A1 (((hexFrom l).1).length) c1) rfl rfl) ?_
    refine q trivial rfl rfl (xt 1 (v := .bool ((hexFrom l).2)) rfl rfl) ?_
    refine q trivial rfl rfl (asg (v := .slice A1 (((hexFrom l).1).length) c1) rfl) ?_
    refine q trivial rfl rfl (asg (v := .bool ((hexFrom l).2)) rfl) ?_
    refine nl ?_
    refine nN ?_
    refine sq ?_
    refine rg ?_
    refine q trivial rfl rfl (mv (v := Str l) rfl) ?_
    refine cl trivial rfl (iHexFrom (l := l) (w := _) (hl_n := (by have := hexFrom_len l; first | omega | (simp; omega)))) ?_
    rintro _ w2 ⟨A2, c2, rfl, hs2'⟩
    have hs2 : SH w w2 [] [.own A1 (((hexFrom l).1).length) c1 3 1 (((hexFrom l).1).map I), .own A2 (((hexFrom l).1).length) c2 3 1 (((hexFrom l).1).map I)] := hs1.call0 hs2'
    clear hs2'
    refine q trivial rfl rfl (mv (v := .tuple #[.slice A2 (((hexFrom l).1).length) c2, .bool ((hexFrom l).2)]) rfl) ?_
    refine q trivial rfl rfl (xt 0 (v := .slice A2 (((hexFrom l).1).length) c2) rfl rfl) ?_
    refine q trivial rfl rfl (xt 1 (v := .bool ((hexFrom l).2)) rfl rfl) ?_
    refine q trivial rfl rfl (asg (v := .slice A2 (((hexFrom l).1).length) c2) rfl) ?_
    refine q trivial rfl rfl (asg (v := .bool ((hexFrom l).2)) rfl) ?_
    refine nl ?_
    refine nN ?_
    refine sq ?_
    refine sq ?_
    refine rg ?_
    refine q trivial rfl rfl (mv (v := .slice A2 (((hexFrom l).1).length) c2) rfl) ?_
    refine q trivial rfl rfl (mv (v := .slice A1 (((hexFrom l).1).length) c1) rfl) ?_
    refine cl trivial rfl (eqIntS (Axs := A2) (cxs := c2) (xs := (hexFrom l).1) (Abs := A1) (cbs := c1) (bs := (hexFrom l).1) (w := _) (hxs := (hs2.sl0 1 rfl)) (hbs := (hs2.sl0 0 rfl))) ?_
    rintro _ w3 ⟨rfl, hs3'⟩
    have hs3 : SH w w3 [] [.own A1 (((hexFrom l).1).length) c1 3 1 (((hexFrom l).1).map I), .own A2 (((hexFrom l).1).length) c2 3 1 (((hexFrom l).1).map I)] := hs2.call0 hs3'
    clear hs3'
    refine q trivial rfl rfl (nd (p := ((hexFrom l).1) = ((hexFrom l).1)) rfl) ?_
    refine q trivial rfl rfl (mv (v := .bool (decide (¬ (((hexFrom l).1) = ((hexFrom l).1))))) rfl) ?_
    refine spd (p := ¬ (((hexFrom l).1) = ((hexFrom l).1))) 28 rfl (fun h2 => absurd h2 (by exact fun h => h rfl)) (fun h2 => ?_)
    refine q ⟨_, rfl, rfl⟩ rfl rfl (mv (v := .bool ((hexFrom l).2)) rfl) ?_
    refine q ⟨_, rfl, rfl⟩ rfl rfl (mv (v := .bool ((hexFrom l).2)) rfl) ?_
    refine q ⟨_, rfl, rfl⟩ rfl rfl (neb (a := ((hexFrom l).2)) (b := ((hexFrom l).2)) tb4 rfl rfl) ?_
    refine q trivial rfl rfl (pf (v := .bool (decide (((hexFrom l).2) ≠ ((hexFrom l).2)))) rfl rfl) ?_
    refine nl ?_
    refine nN ?_
    refine cdd (p := ((hexFrom l).2) ≠ ((hexFrom l).2)) rfl (fun h3 => absurd h3 (by exact fun h => h rfl)) (fun h3 => ?_)
    refine sk ?_
    refine nN ?_
    refine sq ?_
    refine rg ?_
    refine q trivial rfl rfl (asg (v := .int .i64 1) rfl) ?_
    refine nl ?_
    refine nN ?_
    refine sq ?_
    refine rg ?_
    refine q trivial rfl rfl (mv (v := .slice A2 (((hexFrom l).1).length) c2) rfl) ?_
    refine q trivial rfl rfl (mv (v := .int .i64 1) rfl) ?_
    refine cl trivial rfl (markIntS (Axs := A2) (cxs := c2) (xs := (hexFrom l).1) (k0 := 1) (w := _) (hxs := (own_ok hs3 1 rfl)) (hxs_n := (by have := hexFrom_len l; first | omega | (simp; omega))) (hk0 := (by first | omega | assumption | (simp; done) | (simp; omega)))) ?_
    rintro _ w4 ⟨rfl, hs4'⟩
    have hs4 : SH w w4 [] [.own A1 (((hexFrom l).1).length) c1 3 1 (((hexFrom l).1).map I), .own A2 (((hexFrom l).1).length) c2 3 1 ((marks 1 ((hexFrom l).1).length).map I)] := SH.callK (K := [.own A2 (((hexFrom l).1).length) c2 3 1 (((hexFrom l).1).map I)]) (R := [.own A1 (((hexFrom l).1).length) c1 3 1 (((hexFrom l).1).map I)]) (hs3.pick [1, 0] rfl (by decide)) hs4' rfl
    clear hs4'
    have e1 : ((hexFrom l).1).length = (marks 1 ((hexFrom l).1).length).length := by first | rfl | (simp; done) | (simp; omega)
    have hs5 : SH w w4 [] [.own A1 (((hexFrom l).1).length) c1 3 1 (((hexFrom l).1).map I), .own A2 ((marks 1 ((hexFrom l).1).length).length) c2 3 1 ((marks 1 ((hexFrom l).1).length).map I)] := (hs4.cast (lc rfl (lc (own_eq (g := I) rfl e1 rfl rfl) rfl)))
    clear hs4
    refine q trivial rfl rfl (asg (v := .int .i64 (1 + (((hexFrom l).1).length : Nat))) rfl) ?_
    refine nl ?_
    refine nN ?_
    refine sq ?_
    refine rg ?_
    refine q trivial rfl rfl (asg (v := .int .i64 1) rfl) ?_
    refine nl ?_
    refine nN ?_
    refine sq ?_
    refine rg ?_
    refine q trivial rfl rfl (mv (v := .slice A2 (((hexFrom l).1).length) c2) rfl) ?_
    refine q trivial rfl rfl (mv (v := .int .i64 1) rfl) ?_
    refine cl trivial rfl (Does.castA (lc (slv rfl e1.symm rfl) (lc rfl rfl)) (heldIntS (Axs := A2) (cxs := c2) (xs := marks 1 ((hexFrom l).1).length) (k0 := 1) (w := _) (hxs := (hs5.sl0 1 rfl)) (hxs_n := (by have := hexFrom_len l; first | omega | (simp; omega))) (hk0 := (by first | omega | assumption | (simp; done) | (simp; omega))))) ?_
    rintro _ w5 ⟨rfl, hs6'⟩
    have hs6 : SH w w5 [] [.own A1 (((hexFrom l).1).length) c1 3 1 (((hexFrom l).1).map I), .own A2 ((marks 1 ((hexFrom l).1).length).length) c2 3 1 ((marks 1 ((hexFrom l).1).length).map I)] := hs5.call0 hs6'
    clear hs6'
    refine q trivial rfl rfl (asg (v := .int .i64 (heldI (marks 1 ((hexFrom l).1).length) 1)) rfl) ?_
    refine nl ?_
    refine nN ?_
    refine sq ?_
    refine sq ?_
    refine rg ?_
    refine q trivial rfl rfl (mv (v := .int .i64 (heldI (marks 1 ((hexFrom l).1).length) 1)) rfl) ?_
    refine q trivial rfl rfl (lss (k := .i64) (a := heldI (marks 1 ((hexFrom l).1).length) 1) (b := 0) rfl rfl) ?_
    refine nl ?_
    refine nN ?_
    refine cdd (p := (heldI (marks 1 ((hexFrom l).1).length) 1) < 0) rfl (fun h4 => absurd h4 (by rw [held_marks]; omega)) (fun h4 => ?_)
    refine sk ?_
    refine nN ?_
    refine sq ?_
    refine sq ?_
    refine rg ?_
    refine q trivial rfl rfl (mv (v := .int .i64 (heldI (marks 1 ((hexFrom l).1).length) 1)) rfl) ?_
    refine q trivial rfl rfl (mv (v := .int .i64 (1 + (((hexFrom l).1).length : Nat))) rfl) ?_
    refine q trivial rfl rfl (nei (k := .i64) (a := heldI (marks 1 ((hexFrom l).1).length) 1) (b := 1 + (((hexFrom l).1).length : Nat)) rfl rfl) ?_
    refine nl ?_
    refine nN ?_
    refine cdd (p := (heldI (marks 1 ((hexFrom l).1).length) 1) ≠ (1 + (((hexFrom l).1).length : Nat))) rfl (fun h5 => absurd h5 (by rw [held_marks]; exact fun h => h rfl)) (fun h5 => ?_)
    refine sk ?_
    refine nN ?_
    refine sq ?_
    refine rg ?_
    refine q trivial rfl rfl (mv (v := Str l) rfl) ?_
    refine cl trivial rfl (iHexFrom (l := l) (w := _) (hl_n := (by have := hexFrom_len l; first | omega | (simp; omega)))) ?_
    rintro _ w6 ⟨A3, c3, rfl, hs7'⟩
    have hs7 : SH w w6 [] [.own A1 (((hexFrom l).1).length) c1 3 1 (((hexFrom l).1).map I), .own A2 ((marks 1 ((hexFrom l).1).length).length) c2 3 1 ((marks 1 ((hexFrom l).1).length).map I), .own A3 (((hexFrom l).1).length) c3 3 1 (((hexFrom l).1).map I)] := hs6.call0 hs7'
    clear hs7'
    refine q trivial rfl rfl (mv (v := .tuple #[.slice A3 (((hexFrom l).1).length) c3, .bool ((hexFrom l).2)]) rfl) ?_
    refine q trivial rfl rfl (xt 0 (v := .slice A3 (((hexFrom l).1).length) c3) rfl rfl) ?_
    refine q trivial rfl rfl (xt 1 (v := .bool ((hexFrom l).2)) rfl rfl) ?_
    refine q trivial rfl rfl (asg (v := .slice A3 (((hexFrom l).1).length) c3) rfl) ?_
    refine q trivial rfl rfl (asg (v := .bool ((hexFrom l).2)) rfl) ?_
    refine nl ?_
    refine nN ?_
    refine sq ?_
    refine sq ?_
    refine rg ?_
    refine q trivial rfl rfl (mv (v := .slice A3 (((hexFrom l).1).length) c3) rfl) ?_
    refine q trivial rfl rfl (mv (v := .slice A1 (((hexFrom l).1).length) c1) rfl) ?_
    refine cl trivial rfl (eqIntS (Axs := A3) (cxs := c3) (xs := (hexFrom l).1) (Abs := A1) (cbs := c1) (bs := (hexFrom l).1) (w := _) (hxs := (hs7.sl0 2 rfl)) (hbs := (hs7.sl0 0 rfl))) ?_
    rintro _ w7 ⟨rfl, hs8'⟩
    have hs8 : SH w w7 [] [.own A1 (((hexFrom l).1).length) c1 3 1 (((hexFrom l).1).map I), .own A2 ((marks 1 ((hexFrom l).1).length).length) c2 3 1 ((marks 1 ((hexFrom l).1).length).map I), .own A3 (((hexFrom l).1).length) c3 3 1 (((hexFrom l).1).map I)] := hs7.call0 hs8'
    clear hs8'
    refine q trivial rfl rfl (nd (p := ((hexFrom l).1) = ((hexFrom l).1)) rfl) ?_
    refine q trivial rfl rfl (mv (v := .bool (decide (¬ (((hexFrom l).1) = ((hexFrom l).1))))) rfl) ?_
    refine spd (p := ¬ (((hexFrom l).1) = ((hexFrom l).1))) 53 rfl (fun h6 => absurd h6 (by exact fun h => h rfl)) (fun h6 => ?_)
    refine q ⟨_, rfl, rfl⟩ rfl rfl (mv (v := .bool ((hexFrom l).2)) rfl) ?_
    refine q ⟨_, rfl, rfl⟩ rfl rfl (mv (v := .bool ((hexFrom l).2)) rfl) ?_
    refine q ⟨_, rfl, rfl⟩ rfl rfl (neb (a := ((hexFrom l).2)) (b := ((hexFrom l).2)) tb4 rfl rfl) ?_
    refine q trivial rfl rfl (pf (v := .bool (decide (((hexFrom l).2) ≠ ((hexFrom l).2)))) rfl rfl) ?_
    refine nl ?_
    refine nN ?_
    refine cdd (p := ((hexFrom l).2) ≠ ((hexFrom l).2)) rfl (fun h7 => absurd h7 (by exact fun h => h rfl)) (fun h7 => ?_)
    refine sk ?_
    refine nN ?_
    refine sq ?_
    refine rg ?_
    refine q trivial rfl rfl (asg (v := .int .i64 1) rfl) ?_
    refine nl ?_
    refine nN ?_
    refine sq ?_
    refine rg ?_
    refine q trivial rfl rfl (mv (v := .slice A2 (((hexFrom l).1).length) c2) rfl) ?_
    refine q trivial rfl rfl (mv (v := .int .i64 1) rfl) ?_
    refine cl trivial rfl (Does.castA (lc (slv rfl e1.symm rfl) (lc rfl rfl)) (heldIntS (Axs := A2) (cxs := c2) (xs := marks 1 ((hexFrom l).1).length) (k0 := 1) (w := _) (hxs := (hs8.sl0 1 rfl)) (hxs_n := (by have := hexFrom_len l; first | omega | (simp; omega))) (hk0 := (by first | omega | assumption | (simp; done) | (simp; omega))))) ?_
    rintro _ w8 ⟨rfl, hs9'⟩
    have hs9 : SH w w8 [] [.own A1 (((hexFrom l).1).length) c1 3 1 (((hexFrom l).1).map I), .own A2 ((marks 1 ((hexFrom l).1).length).length) c2 3 1 ((marks 1 ((hexFrom l).1).length).map I), .own A3 (((hexFrom l).1).length) c3 3 1 (((hexFrom l).1).map I)] := hs8.call0 hs9'
    clear hs9'
    refine q trivial rfl rfl (asg (v := .int .i64 (heldI (marks 1 ((hexFrom l).1).length) 1)) rfl) ?_
    refine nl ?_
    refine nN ?_
    refine sq ?_
    refine sq ?_
    refine rg ?_
    refine q trivial rfl rfl (mv (v := .int .i64 (heldI (marks 1 ((hexFrom l).1).length) 1)) rfl) ?_
    refine q trivial rfl rfl (lss (k := .i64) (a := heldI (marks 1 ((hexFrom l).1).length) 1) (b := 0) rfl rfl) ?_
    refine nl ?_
    refine nN ?_
    refine cdd (p := (heldI (marks 1 ((hexFrom l).1).length) 1) < 0) rfl (fun h8 => absurd h8 (by rw [held_marks]; omega)) (fun h8 => ?_)
    refine sk ?_
    refine nN ?_
    refine sq ?_
    refine sq ?_
    refine rg ?_
    refine q trivial rfl rfl (mv (v := .int .i64 (heldI (marks 1 ((hexFrom l).1).length) 1)) rfl) ?_
    refine q trivial rfl rfl (mv (v := .int .i64 (1 + (((hexFrom l).1).length : Nat))) rfl) ?_
    refine q trivial rfl rfl (nei (k := .i64) (a := heldI (marks 1 ((hexFrom l).1).length) 1) (b := 1 + (((hexFrom l).1).length : Nat)) rfl rfl) ?_
    refine nl ?_
    refine nN ?_
    refine cdd (p := (heldI (marks 1 ((hexFrom l).1).length) 1) ≠ (1 + (((hexFrom l).1).length : Nat))) rfl (fun h9 => absurd h9 (by rw [held_marks]; exact fun h => h rfl)) (fun h9 => ?_)
    refine sk ?_
    refine nN ?_
    refine sq ?_
    refine rg ?_
    refine q trivial rfl rfl (asg (v := .bool true) rfl) ?_
    refine nl ?_
    refine nN ?_
    refine rt ?_
    refine fret (v := .bool true) (.tmp .nil) rfl ?_
    exact ⟨rfl, (hs9.pick [] rfl (by decide))⟩

theorem lExactHexText {Axs : Option Addr} {cxs : Nat} (xs : List Int) (w : World) (hxs : Sl w [] 1 Axs xs.length cxs (xs.map I)) : Does Try.prog 4 [.slice Axs xs.length cxs] w (fun v w' => v = .bool true ∧ SH w w' [] []) := by
  refine fn_enter (N := 24) Try.func4 rfl (by kernel_rfl) rfl rfl rfl ?_
  have hs0 : SH w w [] [] := SH.refl w []
  have hxs_m : xs.length ≤ 9223372036854775807 := Nat.le_trans hxs.cap hxs.capMax
  refine sq ?_
  refine rg ?_
  refine q trivial rfl rfl (asg (v := .bool false) rfl) ?_
  refine nl ?_
  refine nN ?_
  refine sq ?_
  refine sq ?_
  refine rg ?_
  refine q trivial rfl rfl (mv (v := .slice Axs xs.length cxs) rfl) ?_
  refine q trivial rfl rfl (lnA (n := xs.length) sl22 rfl) ?_
  refine q trivial rfl rfl (gtr (k := .i64) (a := ((xs.length : Nat) : Int)) (b := 1048576) rfl rfl) ?_
  refine nl ?_
  refine nN ?_
  refine cdd (p := (1048576 : Int) < ((xs.length : Nat) : Int)) rfl (fun h1 => ?_) (fun h1 => ?_)
  · refine sq ?_
    refine rg ?_
    refine q trivial rfl rfl (asg (v := .bool true) rfl) ?_
    refine nl ?_
    refine nN ?_
    refine rt (tR ?_)
    refine fret (v := .bool true) (.tmp .nil) rfl ?_
    exact ⟨rfl, hs0⟩
  · refine sk ?_
    refine nN ?_
    refine sq ?_
    refine rg ?_
    refine q trivial rfl rfl (mv (v := .slice Axs xs.length cxs) rfl) ?_
    refine cl trivial rfl (toIntS (Axs := Axs) (cxs := cxs) (xs := xs) (w := _) (hxs := (hxs.up0 hs0)) (hxs_n := (by first | omega | (simp; omega)))) ?_
    rintro _ w1 ⟨A1, c1, rfl, hs1'⟩
    have hs1 : SH w w1 [] [.own A1 xs.length c1 3 1 (xs.map I)] := hs0.call0 hs1'
    clear hs1'
    refine cl trivial rfl (sHexText (Axs := A1) (cxs := c1) (xs := xs) (w := _) (hxs := (hs1.sl0 0 rfl))) ?_
    rintro _ w2 ⟨rfl, hs2'⟩
    have hs2 : SH w w2 [] [.own A1 xs.length c1 3 1 (xs.map I)] := hs1.call0 hs2'
    clear hs2'
    refine q trivial rfl rfl (asg (v := Str (hexText xs)) rfl) ?_
    refine nl ?_
    refine nN ?_
    refine sq ?_
    refine rg ?_
    refine q trivial rfl rfl (mv (v := .slice Axs xs.length cxs) rfl) ?_
    refine cl trivial rfl (toIntS (Axs := Axs) (cxs := cxs) (xs := xs) (w := _) (hxs := (hxs.up0 hs2)) (hxs_n := (by first | omega | (simp; omega)))) ?_
    rintro _ w3 ⟨A2, c2, rfl, hs3'⟩
    have hs3 : SH w w3 [] [.own A1 xs.length c1 3 1 (xs.map I), .own A2 xs.length c2 3 1 (xs.map I)] := hs2.call0 hs3'
    clear hs3'
    refine q trivial rfl rfl (asg (v := .slice A2 xs.length c2) rfl) ?_
    refine nl ?_
    refine nN ?_
    refine sq ?_
    refine rg ?_
    refine q trivial rfl rfl (mv (v := .slice A2 xs.length c2) rfl) ?_
    refine cl trivial rfl (iHexText (Axs := A2) (cxs := c2) (xs := xs) (w := _) (hxs := (hs3.sl0 1 rfl))) ?_
    rintro _ w4 ⟨rfl, hs4'⟩
    have hs4 : SH w w4 [] [.own A1 xs.length c1 3 1 (xs.map I), .own A2 xs.length c2 3 1 (xs.map I)] := hs3.call0 hs4'
    clear hs4'
    refine q trivial rfl rfl (asg (v := Str (hexText xs)) rfl) ?_
    refine nl ?_
    refine nN ?_
    refine sq ?_
    refine sq ?_
    refine rg ?_
    refine q trivial rfl rfl (mv (v := Str (hexText xs)) rfl) ?_
    refine q trivial rfl rfl (mv (v := Str (hexText xs)) rfl) ?_
    refine q trivial rfl rfl (nes (l := hexText xs) (m := hexText xs) rfl rfl) ?_
    refine nl ?_
    refine nN ?_
    refine cdd (p := hexText xs ≠ hexText xs) rfl (fun h2 => absurd h2 (by exact fun h => h rfl)) (fun h2 => ?_)
    refine sk ?_
    refine nN ?_
    refine sq ?_
    refine sq ?_
    refine rg ?_
    refine q trivial rfl rfl (mv (v := .slice A2 xs.length c2) rfl) ?_
    refine q trivial rfl rfl (mv (v := .slice Axs xs.length cxs) rfl) ?_
    refine cl trivial rfl (toIntS (Axs := Axs) (cxs := cxs) (xs := xs) (w := _) (hxs := (hxs.up0 hs4)) (hxs_n := (by first | omega | (simp; omega)))) ?_
    rintro _ w5 ⟨A3, c3, rfl, hs5'⟩
    have hs5 : SH w w5 [] [.own A1 xs.length c1 3 1 (xs.map I), .own A2 xs.length c2 3 1 (xs.map I), .own A3 xs.length c3 3 1 (xs.map I)] := hs4.call0 hs5'
    clear hs5'
    refine cl trivial rfl (eqIntS (Axs := A2) (cxs := c2) (xs := xs) (Abs := A3) (cbs := c3) (bs := xs) (w := _) (hxs := (hs5.sl0 1 rfl)) (hbs := (hs5.sl0 2 rfl))) ?_
    rintro _ w6 ⟨rfl, hs6'⟩
    have hs6 : SH w w6 [] [.own A1 xs.length c1 3 1 (xs.map I), .own A2 xs.length c2 3 1 (xs.map I), .own A3 xs.length c3 3 1 (xs.map I)] := hs5.call0 hs6'
    clear hs6'
    refine q trivial rfl rfl (nd (p := xs = xs) rfl) ?_
    refine nl ?_
    refine nN ?_
    refine cdd (p := ¬ (xs = xs)) rfl (fun h3 => absurd h3 (by exact fun h => h rfl)) (fun h3 => ?_)
    refine sk ?_
    refine nN ?_
    refine sq ?_
    refine rg ?_
    refine q trivial rfl rfl (asg (v := .bool true) rfl) ?_
    refine nl ?_
    refine nN ?_
    refine rt ?_
    refine fret (v := .bool true) (.tmp .nil) rfl ?_
    exact ⟨rfl, (hs6.pick [] rfl (by decide))⟩

theorem lHexFromNot {Acs : Option Addr} {ccs : Nat} (cs : List UInt8) (w : World) (hcs : Sl w [] 1 Acs cs.length ccs (cs.map U)) : Does Try.prog 5 [.slice Acs cs.length ccs] w (fun v w' => v = .bool true ∧ SH w w' [] []) := by
  refine fn_enter (N := 66) Try.func5 rfl (by kernel_rfl) rfl rfl rfl ?_
  have hs0 : SH w w [] [] := SH.refl w []
  have hcs_m : cs.length ≤ 9223372036854775807 := Nat.le_trans hcs.cap hcs.capMax
  refine sq ?_
  refine rg ?_
  refine q trivial rfl rfl (asg (v := .bool false) rfl) ?_
  refine nl ?_
  refine nN ?_
  refine sq ?_
  refine sq ?_
  refine rg ?_
  refine q trivial rfl rfl (mv (v := .slice Acs cs.length ccs) rfl) ?_
  refine q trivial rfl rfl (lnA (n := cs.length) sl31 rfl) ?_
  refine q trivial rfl rfl (gtr (k := .i64) (a := ((cs.length : Nat) : Int)) (b := 1048576) rfl rfl) ?_
  refine nl ?_
  refine nN ?_
  refine cdd (p := (1048576 : Int) < ((cs.length : Nat) : Int)) rfl (fun h1 => ?_) (fun h1 => ?_)
  · refine sq ?_
    refine rg ?_
    refine q trivial rfl rfl (asg (v := .bool true) rfl) ?_
    refine nl ?_
    refine nN ?_
    refine rt (tR ?_)
    refine fret (v := .bool true) (.tmp .nil) rfl ?_
    exact ⟨rfl, hs0⟩
  · refine sk ?_
    refine nN ?_
    refine sq ?_
    refine rg ?_
    refine q trivial rfl rfl (mv (v := .slice Acs cs.length ccs) rfl) ?_
    refine cl trivial rfl (drawHexFrom (Acs := Acs) (ccs := ccs) (cs := cs) (w := _) (hcs := (hcs.up0 hs0))) ?_
    rintro _ w1 ⟨s1, rfl, p1, hs1'⟩
    have hs1 : SH w w1 [] [] := hs0.call0 hs1'
    clear hs1'
    refine q trivial rfl rfl (asg (v := Str s1) rfl) ?_
    refine nl ?_
    refine nN ?_
    refine sq ?_
    refine rg ?_
    refine q trivial rfl rfl (mv (v := Str s1) rfl) ?_
    refine cl trivial rfl (iHexFrom (l := s1) (w := _) (hl_n := (by first | omega | (simp; omega)))) ?_
    rintro _ w2 ⟨A1, c1, rfl, hs2'⟩
    have hs2 : SH w w2 [] [.own A1 (((hexFrom s1).1).length) c1 3 1 (((hexFrom s1).1).map I)] := hs1.call0 hs2'
    clear hs2'
    refine q trivial rfl rfl (mv (v := .tuple #[.slice A1 (((hexFrom s1).1).length) c1, .bool ((hexFrom s1).2)]) rfl) ?_
    refine q trivial rfl rfl (xt 0 (v := .slice A1 (((hexFrom s1).1).length) c1) rfl rfl) ?_
    refine q trivial rfl rfl (xt 1 (v := .bool ((hexFrom s1).2)) rfl rfl) ?_
    refine q trivial rfl rfl (asg (v := .slice A1 (((hexFrom s1).1).length) c1) rfl) ?_
    refine q trivial rfl rfl (asg (v := .bool ((hexFrom s1).2)) rfl) ?_
    refine nl ?_
    refine nN ?_
    refine sq ?_
    refine rg ?_
    refine q trivial rfl rfl (mv (v := Str s1) rfl) ?_
    refine cl trivial rfl (sHexFrom (l := s1) (w := _) (hl_n := (by first | omega | (simp; omega)))) ?_
    rintro _ w3 ⟨A2, c2, rfl, hs3'⟩
    have hs3 : SH w w3 [] [.own A1 (((hexFrom s1).1).length) c1 3 1 (((hexFrom s1).1).map I), .own A2 (((hexFrom s1).1).length) c2 3 1 (((hexFrom s1).1).map I)] := hs2.call0 hs3'
    clear hs3'
    refine q trivial rfl rfl (mv (v := .tuple #[.slice A2 (((hexFrom s1).1).length) c2, .bool ((hexFrom s1).2)]) rfl) ?_
    refine q trivial rfl rfl (xt 0 (v := .slice A2 (((hexFrom s1).1).length) c2) rfl rfl) ?_
    refine q trivial rfl rfl (xt 1 (v := .bool ((hexFrom s1).2)) rfl rfl) ?_
    refine q trivial rfl rfl (asg (v := .slice A2 (((hexFrom s1).1).length) c2) rfl) ?_
    refine q trivial rfl rfl (asg (v := .bool ((hexFrom s1).2)) rfl) ?_
    refine nl ?_
    refine nN ?_
    refine sq ?_
    refine sq ?_
    refine rg ?_
    refine q trivial rfl rfl (mv (v := .bool ((hexFrom s1).2)) rfl) ?_
    refine q trivial rfl rfl (mv (v := .bool ((hexFrom s1).2)) rfl) ?_
    refine q trivial rfl rfl (neb (a := ((hexFrom s1).2)) (b := ((hexFrom s1).2)) tb4 rfl rfl) ?_
    refine q trivial rfl rfl (mv (v := .bool (decide (((hexFrom s1).2) ≠ ((hexFrom s1).2)))) rfl) ?_
    refine spd (p := ((hexFrom s1).2) ≠ ((hexFrom s1).2)) 30 rfl (fun h2 => absurd h2 (by exact fun h => h rfl)) (fun h2 => ?_)
    refine q ⟨_, rfl, rfl⟩ rfl rfl (mv (v := .slice A1 (((hexFrom s1).1).length) c1) rfl) ?_
    refine q ⟨_, rfl, rfl⟩ rfl rfl (mv (v := .slice A2 (((hexFrom s1).1).length) c2) rfl) ?_
    refine cl ⟨_, rfl, rfl⟩ rfl (sameBytes (Axs := A1) (cxs := c1) (xs := (hexFrom s1).1) (Abs := A2) (cbs := c2) (bs := (hexFrom s1).1) (w := _) (hxs := (hs3.sl0 0 rfl)) (hbs := (hs3.sl0 1 rfl))) ?_
    rintro _ w4 ⟨rfl, hs4'⟩
    have hs4 : SH w w4 [] [.own A1 (((hexFrom s1).1).length) c1 3 1 (((hexFrom s1).1).map I), .own A2 (((hexFrom s1).1).length) c2 3 1 (((hexFrom s1).1).map I)] := hs3.call0 hs4'
    clear hs4'
    refine q ⟨_, rfl, rfl⟩ rfl rfl (nd (p := ((hexFrom s1).1) = ((hexFrom s1).1)) rfl) ?_
    refine q trivial rfl rfl (pf (v := .bool (decide (¬ (((hexFrom s1).1) = ((hexFrom s1).1))))) rfl rfl) ?_
    refine q trivial rfl rfl (mv (v := .bool (decide (¬ (((hexFrom s1).1) = ((hexFrom s1).1))))) rfl) ?_
    refine spd (p := ¬ (((hexFrom s1).1) = ((hexFrom s1).1))) 36 rfl (fun h3 => absurd h3 (by exact fun h => h rfl)) (fun h3 => ?_)
    refine q ⟨_, rfl, rfl⟩ rfl rfl (mv (v := .bool ((hexFrom s1).2)) rfl) ?_
    refine q ⟨_, rfl, rfl⟩ rfl rfl (nt (b := (hexFrom s1).2) rfl) ?_
    refine q trivial rfl rfl (pf (v := .bool (!((hexFrom s1).2))) rfl rfl) ?_
    refine nl ?_
    refine nN ?_
    refine cd (b := !((hexFrom s1).2)) rfl (fun h4 => ?_) (fun h4 => ?_)
    · refine sq ?_
      refine rg ?_
      refine q trivial rfl rfl (mv (v := .bool ((hexFrom s1).2)) rfl) ?_
      refine q trivial rfl rfl (mv (v := .bool ((hexFrom s1).2)) rfl) ?_
      refine q trivial rfl rfl (eqb (a := ((hexFrom s1).2)) (b := ((hexFrom s1).2)) tb4 rfl rfl) ?_
      refine q trivial rfl rfl (mv (v := .bool (decide (((hexFrom s1).2) = ((hexFrom s1).2)))) rfl) ?_
      refine spd (p := ((hexFrom s1).2) = ((hexFrom s1).2)) 43 rfl (fun h5 => ?_) (fun h5 => absurd (by rfl) h5)
      refine q ⟨_, rfl, rfl⟩ rfl rfl (mv (v := .slice A1 (((hexFrom s1).1).length) c1) rfl) ?_
      refine q ⟨_, rfl, rfl⟩ rfl rfl (mv (v := .slice A2 (((hexFrom s1).1).length) c2) rfl) ?_
      refine cl ⟨_, rfl, rfl⟩ rfl (sameBytes (Axs := A1) (cxs := c1) (xs := (hexFrom s1).1) (Abs := A2) (cbs := c2) (bs := (hexFrom s1).1) (w := _) (hxs := (hs4.sl0 0 rfl)) (hbs := (hs4.sl0 1 rfl))) ?_
      rintro _ w5 ⟨rfl, hs5'⟩
      have hs5 : SH w w5 [] [.own A1 (((hexFrom s1).1).length) c1 3 1 (((hexFrom s1).1).map I), .own A2 (((hexFrom s1).1).length) c2 3 1 (((hexFrom s1).1).map I)] := hs4.call0 hs5'
      clear hs5'
      refine q trivial rfl rfl (pt (v := .bool (decide (((hexFrom s1).1) = ((hexFrom s1).1)))) rfl rfl) ?_
      refine q trivial rfl rfl (asg (v := .bool (decide (((hexFrom s1).1) = ((hexFrom s1).1)))) rfl) ?_
      refine nl ?_
      refine nN ?_
      refine rt (tR ?_)
      refine fret (v := .bool (decide (((hexFrom s1).1) = ((hexFrom s1).1)))) (.tmp .nil) rfl ?_
      have e1 : (decide (((hexFrom s1).1) = ((hexFrom s1).1))) = true := by first | rfl | (simp; done) | (have hok : (hexFrom s1).2 = true := (by simp_all); have h8 := hexFrom_odd (c := 49) hok; have h9 := hexFrom_0G hok; simp_all)
      exact ⟨(congrArg (Value.bool) e1), (hs5.pick [] rfl (by decide))⟩
    · refine sk ?_
      refine nN ?_
      refine sq ?_
      refine rg ?_
      refine q trivial rfl rfl (mv (v := Str s1) rfl) ?_
      refine q trivial rfl rfl (cat (l := s1) (m := [49]) rfl rfl (by first | omega | (simp; omega))) ?_
      refine cl trivial rfl (iHexFrom (l := s1 ++ [49]) (w := _) (hl_n := (by first | omega | (simp; omega)))) ?_
      rintro _ w6 ⟨A3, c3, rfl, hs6'⟩
      have hs6 : SH w w6 [] [.own A1 (((hexFrom s1).1).length) c1 3 1 (((hexFrom s1).1).map I), .own A2 (((hexFrom s1).1).length) c2 3 1 (((hexFrom s1).1).map I), .own A3 (((hexFrom (s1 ++ [49])).1).length) c3 3 1 (((hexFrom (s1 ++ [49])).1).map I)] := hs4.call0 hs6'
      clear hs6'
      refine q trivial rfl rfl (mv (v := .tuple #[.slice A3 (((hexFrom (s1 ++ [49])).1).length) c3, .bool ((hexFrom (s1 ++ [49])).2)]) rfl) ?_
      refine q trivial rfl rfl (xt 0 (v := .slice A3 (((hexFrom (s1 ++ [49])).1).length) c3) rfl rfl) ?_
      refine q trivial rfl rfl (xt 1 (v := .bool ((hexFrom (s1 ++ [49])).2)) rfl rfl) ?_
      refine q trivial rfl rfl (asg (v := .slice A3 (((hexFrom (s1 ++ [49])).1).length) c3) rfl) ?_
      refine q trivial rfl rfl (asg (v := .bool ((hexFrom (s1 ++ [49])).2)) rfl) ?_
      refine nl ?_
      refine nN ?_
      refine sq ?_
      refine rg ?_
      refine q trivial rfl rfl (mv (v := Str s1) rfl) ?_
      refine q trivial rfl rfl (cat (l := s1) (m := [48, 71]) rfl rfl (by first | omega | (simp; omega))) ?_
      refine cl trivial rfl (iHexFrom (l := s1 ++ [48, 71]) (w := _) (hl_n := (by first | omega | (simp; omega)))) ?_
      rintro _ w7 ⟨A4, c4, rfl, hs7'⟩
      have hs7 : SH w w7 [] [.own A1 (((hexFrom s1).1).length) c1 3 1 (((hexFrom s1).1).map I), .own A2 (((hexFrom s1).1).length) c2 3 1 (((hexFrom s1).1).map I), .own A3 (((hexFrom (s1 ++ [49])).1).length) c3 3 1 (((hexFrom (s1 ++ [49])).1).map I), .own A4 (((hexFrom (s1 ++ [48, 71])).1).length) c4 3 1 (((hexFrom (s1 ++ [48, 71])).1).map I)] := hs6.call0 hs7'
      clear hs7'
      refine q trivial rfl rfl (mv (v := .tuple #[.slice A4 (((hexFrom (s1 ++ [48, 71])).1).length) c4, .bool ((hexFrom (s1 ++ [48, 71])).2)]) rfl) ?_
      refine q trivial rfl rfl (xt 0 (v := .slice A4 (((hexFrom (s1 ++ [48, 71])).1).length) c4) rfl rfl) ?_
      refine q trivial rfl rfl (xt 1 (v := .bool ((hexFrom (s1 ++ [48, 71])).2)) rfl rfl) ?_
      refine q trivial rfl rfl (asg (v := .slice A4 (((hexFrom (s1 ++ [48, 71])).1).length) c4) rfl) ?_
      refine q trivial rfl rfl (asg (v := .bool ((hexFrom (s1 ++ [48, 71])).2)) rfl) ?_
      refine nl ?_
      refine nN ?_
      refine sq ?_
      refine rg ?_
      refine q trivial rfl rfl (mv (v := .bool ((hexFrom (s1 ++ [49])).2)) rfl) ?_
      refine q trivial rfl rfl (nt (b := (hexFrom (s1 ++ [49])).2) rfl) ?_
      refine q trivial rfl rfl (mv (v := .bool (!((hexFrom (s1 ++ [49])).2))) rfl) ?_
      refine spl (b := !((hexFrom (s1 ++ [49])).2)) 62 rfl (fun h6 => ?_) (fun h6 => ?_)
      · refine q ⟨_, rfl, rfl⟩ rfl rfl (mv (v := .bool ((hexFrom (s1 ++ [48, 71])).2)) rfl) ?_
        refine q ⟨_, rfl, rfl⟩ rfl rfl (nt (b := (hexFrom (s1 ++ [48, 71])).2) rfl) ?_
        refine q trivial rfl rfl (pt (v := .bool (!((hexFrom (s1 ++ [48, 71])).2))) rfl rfl) ?_
        refine q trivial rfl rfl (asg (v := .bool (!((hexFrom (s1 ++ [48, 71])).2))) rfl) ?_
        refine nl ?_
        refine nN ?_
        refine rt ?_
        refine fret (v := .bool (!((hexFrom (s1 ++ [48, 71])).2))) (.tmp .nil) rfl ?_
        have e2 : (!((hexFrom (s1 ++ [48, 71])).2)) = true := by first | rfl | (simp; done) | (have hok : (hexFrom s1).2 = true := (by simp_all); have h8 := hexFrom_odd (c := 49) hok; have h9 := hexFrom_0G hok; simp_all)
        exact ⟨(congrArg (Value.bool) e2), (hs7.pick [] rfl (by decide))⟩
      · refine gk false rfl rfl rfl rfl rfl ?_
        refine gk false rfl rfl rfl rfl rfl ?_
        refine q trivial rfl rfl (pf (v := .bool false) rfl rfl) ?_
        refine q trivial rfl rfl (asg (v := .bool false) rfl) ?_
        refine nl ?_
        refine nN ?_
        refine rt ?_
        refine fret (v := .bool false) (.tmp .nil) rfl ?_
        have e3 : false = true := by first | rfl | (simp; done) | (have hok : (hexFrom s1).2 = true := (by simp_all); have h8 := hexFrom_odd (c := 49) hok; have h9 := hexFrom_0G hok; simp_all)
        exact ⟨(congrArg (Value.bool) e3), (hs7.pick [] rfl (by decide))⟩

theorem lHex {Acs : Option Addr} {ccs : Nat} (cs : List UInt8) (w : World) (hcs : Sl w [] 1 Acs cs.length ccs (cs.map U)) : Does Try.prog 7 [.slice Acs cs.length ccs] w (fun v w' => v = .bool true ∧ SH w w' [] []) := by
  refine fn_enter (N := 47) Try.func7 rfl (by kernel_rfl) rfl rfl rfl ?_
  have hs0 : SH w w [] [] := SH.refl w []
  have hcs_m : cs.length ≤ 9223372036854775807 := Nat.le_trans hcs.cap hcs.capMax
  refine sq ?_
  refine rg ?_
  refine q trivial rfl rfl (asg (v := .bool false) rfl) ?_
  refine nl ?_
  refine nN ?_
  refine sq ?_
  refine sq ?_
  refine rg ?_
  refine q trivial rfl rfl (mv (v := .slice Acs cs.length ccs) rfl) ?_
  refine q trivial rfl rfl (lnA (n := cs.length) sl31 rfl) ?_
  refine q trivial rfl rfl (gtr (k := .i64) (a := ((cs.length : Nat) : Int)) (b := 1048576) rfl rfl) ?_
  refine nl ?_
  refine nN ?_
  refine cdd (p := (1048576 : Int) < ((cs.length : Nat) : Int)) rfl (fun h1 => ?_) (fun h1 => ?_)
  · refine sq ?_
    refine rg ?_
    refine q trivial rfl rfl (asg (v := .bool true) rfl) ?_
    refine nl ?_
    refine nN ?_
    refine rt (tR ?_)
    refine fret (v := .bool true) (.tmp .nil) rfl ?_
    exact ⟨rfl, hs0⟩
  · refine sk ?_
    refine nN ?_
    refine sq ?_
    refine rg ?_
    refine q trivial rfl rfl (mv (v := .slice Acs cs.length ccs) rfl) ?_
    refine cl trivial rfl (drawHexText (Acs := Acs) (ccs := ccs) (cs := cs) (w := _) (hcs := (hcs.up0 hs0))) ?_
    rintro _ w1 ⟨A1, c1, r1, rfl, p1, hs1'⟩
    have hs1 : SH w w1 [] [.own A1 r1.length c1 3 1 (r1.map I)] := hs0.call0 hs1'
    clear hs1'
    refine q trivial rfl rfl (asg (v := .slice A1 r1.length c1) rfl) ?_
    refine nl ?_
    refine nN ?_
    refine sq ?_
    refine rg ?_
    refine q trivial rfl rfl (mv (v := .slice A1 r1.length c1) rfl) ?_
    refine cl trivial rfl (iHexText (Axs := A1) (cxs := c1) (xs := r1) (w := _) (hxs := (hs1.sl0 0 rfl))) ?_
    rintro _ w2 ⟨rfl, hs2'⟩
    have hs2 : SH w w2 [] [.own A1 r1.length c1 3 1 (r1.map I)] := hs1.call0 hs2'
    clear hs2'
    refine q trivial rfl rfl (asg (v := Str (hexText r1)) rfl) ?_
    refine nl ?_
    refine nN ?_
    refine sq ?_
    refine rg ?_
    refine q trivial rfl rfl (mv (v := .slice A1 r1.length c1) rfl) ?_
    refine cl trivial rfl (sHexText (Axs := A1) (cxs := c1) (xs := r1) (w := _) (hxs := (hs2.sl0 0 rfl))) ?_
    rintro _ w3 ⟨rfl, hs3'⟩
    have hs3 : SH w w3 [] [.own A1 r1.length c1 3 1 (r1.map I)] := hs2.call0 hs3'
    clear hs3'
    refine q trivial rfl rfl (asg (v := Str (hexText r1)) rfl) ?_
    refine nl ?_
    refine nN ?_
    refine sq ?_
    refine sq ?_
    refine rg ?_
    refine q trivial rfl rfl (mv (v := Str (hexText r1)) rfl) ?_
    refine q trivial rfl rfl (mv (v := Str (hexText r1)) rfl) ?_
    refine q trivial rfl rfl (nes (l := hexText r1) (m := hexText r1) rfl rfl) ?_
    refine q trivial rfl rfl (mv (v := .bool (decide (hexText r1 ≠ hexText r1))) rfl) ?_
    refine spd (p := hexText r1 ≠ hexText r1) 20 rfl (fun h2 => absurd h2 (by exact fun h => h rfl)) (fun h2 => ?_)
    refine q ⟨_, rfl, rfl⟩ rfl rfl (mv (v := .slice A1 r1.length c1) rfl) ?_
    refine cl ⟨_, rfl, rfl⟩ rfl (sBytesValid (Azs := A1) (czs := c1) (zs := r1) (w := _) (hzs := (hs3.sl0 0 rfl))) ?_
    rintro _ w4 ⟨rfl, hs4'⟩
    have hs4 : SH w w4 [] [.own A1 r1.length c1 3 1 (r1.map I)] := hs3.call0 hs4'
    clear hs4'
    refine q ⟨_, rfl, rfl⟩ rfl rfl (nt (b := isBytes r1) rfl) ?_
    refine q trivial rfl rfl (pf (v := .bool (!(isBytes r1))) rfl rfl) ?_
    refine nl ?_
    refine nN ?_
    refine cd (b := !(isBytes r1)) rfl (fun h3 => ?_) (fun h3 => ?_)
    · refine sq ?_
      refine rg ?_
      refine q trivial rfl rfl (mv (v := Str (hexText r1)) rfl) ?_
      refine q trivial rfl rfl (mv (v := Str (hexText r1)) rfl) ?_
      refine q trivial rfl rfl (eqs (l := hexText r1) (m := hexText r1) rfl rfl) ?_
      refine q trivial rfl rfl (asg (v := .bool (decide (hexText r1 = hexText r1))) rfl) ?_
      refine nl ?_
      refine nN ?_
      refine rt (tR ?_)
      refine fret (v := .bool (decide (hexText r1 = hexText r1))) (.tmp .nil) rfl ?_
      have e1 : (decide (hexText r1 = hexText r1)) = true := by first | rfl | (simp; done) | (have hb : isBytes r1 = true := (by simp_all); have hr := hexText_round hb; simp_all)
      exact ⟨(congrArg (Value.bool) e1), (hs4.pick [] rfl (by decide))⟩
    · refine sk ?_
      refine nN ?_
      refine sq ?_
      refine rg ?_
      refine q trivial rfl rfl (mv (v := Str (hexText r1)) rfl) ?_
      refine cl trivial rfl (iHexFrom (l := hexText r1) (w := _) (hl_n := (by first | omega | (have := hexText_len r1; omega)))) ?_
      rintro _ w5 ⟨A2, c2, rfl, hs5'⟩
      have hs5 : SH w w5 [] [.own A1 r1.length c1 3 1 (r1.map I), .own A2 (((hexFrom (hexText r1)).1).length) c2 3 1 (((hexFrom (hexText r1)).1).map I)] := hs4.call0 hs5'
      clear hs5'
      refine q trivial rfl rfl (mv (v := .tuple #[.slice A2 (((hexFrom (hexText r1)).1).length) c2, .bool ((hexFrom (hexText r1)).2)]) rfl) ?_
      refine q trivial rfl rfl (xt 0 (v := .slice A2 (((hexFrom (hexText r1)).1).length) c2) rfl rfl) ?_
      refine q trivial rfl rfl (xt 1 (v := .bool ((hexFrom (hexText r1)).2)) rfl rfl) ?_
      refine q trivial rfl rfl (asg (v := .slice A2 (((hexFrom (hexText r1)).1).length) c2) rfl) ?_
      refine q trivial rfl rfl (asg (v := .bool ((hexFrom (hexText r1)).2)) rfl) ?_
      refine nl ?_
      refine nN ?_
      refine sq ?_
      refine rg ?_
      refine q trivial rfl rfl (mv (v := .bool ((hexFrom (hexText r1)).2)) rfl) ?_
      refine q trivial rfl rfl (mv (v := .bool ((hexFrom (hexText r1)).2)) rfl) ?_
      refine spl (b := (hexFrom (hexText r1)).2) 34 rfl (fun h4 => ?_) (fun h4 => ?_)
      · refine q ⟨_, rfl, rfl⟩ rfl rfl (mv (v := .slice A2 (((hexFrom (hexText r1)).1).length) c2) rfl) ?_
        refine q ⟨_, rfl, rfl⟩ rfl rfl (mv (v := .slice A1 r1.length c1) rfl) ?_
        refine cl ⟨_, rfl, rfl⟩ rfl (sameBytes (Axs := A2) (cxs := c2) (xs := (hexFrom (hexText r1)).1) (Abs := A1) (cbs := c1) (bs := r1) (w := _) (hxs := (hs5.sl0 1 rfl)) (hbs := (hs5.sl0 0 rfl))) ?_
        rintro _ w6 ⟨rfl, hs6'⟩
        have hs6 : SH w w6 [] [.own A1 r1.length c1 3 1 (r1.map I), .own A2 (((hexFrom (hexText r1)).1).length) c2 3 1 (((hexFrom (hexText r1)).1).map I)] := hs5.call0 hs6'
        clear hs6'
        refine q trivial rfl rfl (pt (v := .bool (decide (((hexFrom (hexText r1)).1) = r1))) rfl rfl) ?_
        refine q trivial rfl rfl (mv (v := .bool (decide (((hexFrom (hexText r1)).1) = r1))) rfl) ?_
        refine spd (p := ((hexFrom (hexText r1)).1) = r1) 39 rfl (fun h5 => ?_) (fun h5 => ?_)
        · refine q ⟨_, rfl, rfl⟩ rfl rfl (mv (v := Str (hexText r1)) rfl) ?_
          refine q ⟨_, rfl, rfl⟩ rfl rfl (lnS (l := hexText r1) st9 rfl) ?_
          refine q ⟨_, rfl, rfl⟩ rfl rfl (mv (v := .slice A1 r1.length c1) rfl) ?_
          refine q ⟨_, rfl, rfl⟩ rfl rfl (lnA (n := r1.length) sl22 rfl) ?_
          refine q ⟨_, rfl, rfl⟩ rfl rfl (mul (a := 2) (b := ((r1.length : Nat) : Int)) rfl rfl (by exact ⟨by omega, by omega⟩)) ?_
          refine q ⟨_, rfl, rfl⟩ rfl rfl (eqi (k := .i64) (a := (((hexText r1).length : Nat) : Int)) (b := 2 * ((r1.length : Nat) : Int)) rfl rfl) ?_
          refine q trivial rfl rfl (pt (v := .bool (decide ((((hexText r1).length : Nat) : Int) = (2 * ((r1.length : Nat) : Int))))) rfl rfl) ?_
          refine q trivial rfl rfl (asg (v := .bool (decide ((((hexText r1).length : Nat) : Int) = (2 * ((r1.length : Nat) : Int))))) rfl) ?_
          refine nl ?_
          refine nN ?_
          refine rt ?_
          refine fret (v := .bool (decide ((((hexText r1).length : Nat) : Int) = (2 * ((r1.length : Nat) : Int))))) (.tmp .nil) rfl ?_
          have e2 : (decide ((((hexText r1).length : Nat) : Int) = (2 * ((r1.length : Nat) : Int)))) = true := by first | rfl | (simp; done) | (have hb : isBytes r1 = true := (by simp_all); have hr := hexText_round hb; simp_all)
          exact ⟨(congrArg (Value.bool) e2), (hs6.pick [] rfl (by decide))⟩
        · refine gk false rfl rfl rfl rfl rfl ?_
          refine gk false rfl rfl rfl rfl rfl ?_
          refine gk false rfl rfl rfl rfl rfl ?_
          refine gk false rfl rfl rfl rfl rfl ?_
          refine gk false rfl rfl rfl rfl rfl ?_
          refine gk false rfl rfl rfl rfl rfl ?_
          refine q trivial rfl rfl (pf (v := .bool false) rfl rfl) ?_
          refine q trivial rfl rfl (asg (v := .bool false) rfl) ?_
          refine nl ?_
          refine nN ?_
          refine rt ?_
          refine fret (v := .bool false) (.tmp .nil) rfl ?_
          have e3 : false = true := by first | rfl | (simp; done) | (have hb : isBytes r1 = true := (by simp_all); have hr := hexText_round hb; simp_all)
          exact ⟨(congrArg (Value.bool) e3), (hs6.pick [] rfl (by decide))⟩
      · refine gk false rfl rfl rfl rfl rfl ?_
        refine gk false rfl rfl rfl rfl rfl ?_
        refine gk false rfl rfl rfl rfl rfl ?_
        refine q trivial rfl rfl (pf (v := .bool false) rfl rfl) ?_
        refine q trivial rfl rfl (mv (v := .bool false) rfl) ?_
        refine gk false rfl rfl rfl rfl rfl ?_
        refine gk false rfl rfl rfl rfl rfl ?_
        refine gk false rfl rfl rfl rfl rfl ?_
        refine gk false rfl rfl rfl rfl rfl ?_
        refine gk false rfl rfl rfl rfl rfl ?_
        refine gk false rfl rfl rfl rfl rfl ?_
        refine q trivial rfl rfl (pf (v := .bool false) rfl rfl) ?_
        refine q trivial rfl rfl (asg (v := .bool false) rfl) ?_
        refine nl ?_
        refine nN ?_
        refine rt ?_
        refine fret (v := .bool false) (.tmp .nil) rfl ?_
        have e4 : false = true := by first | rfl | (simp; done) | (have hb : isBytes r1 = true := (by simp_all); have hr := hexText_round hb; simp_all)
        exact ⟨(congrArg (Value.bool) e4), (hs5.pick [] rfl (by decide))⟩

theorem lHexFrom {Acs : Option Addr} {ccs : Nat} (cs : List UInt8) (w : World) (hcs : Sl w [] 1 Acs cs.length ccs (cs.map U)) : Does Try.prog 8 [.slice Acs cs.length ccs] w (fun v w' => v = .bool true ∧ SH w w' [] []) := by
  refine fn_enter (N := 52) Try.func8 rfl (by kernel_rfl) rfl rfl rfl ?_
  have hs0 : SH w w [] [] := SH.refl w []
  have hcs_m : cs.length ≤ 9223372036854775807 := Nat.le_trans hcs.cap hcs.capMax
  refine sq ?_
  refine rg ?_
  refine q trivial rfl rfl (asg (v := .bool false) rfl) ?_
  refine nl ?_
  refine nN ?_
  refine sq ?_
  refine sq ?_
  refine rg ?_
  refine q trivial rfl rfl (mv (v := .slice Acs cs.length ccs) rfl) ?_
  refine q trivial rfl rfl (lnA (n := cs.length) sl31 rfl) ?_
  refine q trivial rfl rfl (gtr (k := .i64) (a := ((cs.length : Nat) : Int)) (b := 1048576) rfl rfl) ?_
  refine nl ?_
  refine nN ?_
  refine cdd (p := (1048576 : Int) < ((cs.length : Nat) : Int)) rfl (fun h1 => ?_) (fun h1 => ?_)
  · refine sq ?_
    refine rg ?_
    refine q trivial rfl rfl (asg (v := .bool true) rfl) ?_
    refine nl ?_
    refine nN ?_
    refine rt (tR ?_)
    refine fret (v := .bool true) (.tmp .nil) rfl ?_
    exact ⟨rfl, hs0⟩
  · refine sk ?_
    refine nN ?_
    refine sq ?_
    refine rg ?_
    refine q trivial rfl rfl (mv (v := .slice Acs cs.length ccs) rfl) ?_
    refine cl trivial rfl (drawHexFrom (Acs := Acs) (ccs := ccs) (cs := cs) (w := _) (hcs := (hcs.up0 hs0))) ?_
    rintro _ w1 ⟨s1, rfl, p1, hs1'⟩
    have hs1 : SH w w1 [] [] := hs0.call0 hs1'
    clear hs1'
    refine q trivial rfl rfl (asg (v := Str s1) rfl) ?_
    refine nl ?_
    refine nN ?_
    refine sq ?_
    refine rg ?_
    refine q trivial rfl rfl (mv (v := Str s1) rfl) ?_
    refine cl trivial rfl (iHexFrom (l := s1) (w := _) (hl_n := (by first | omega | (simp; omega)))) ?_
    rintro _ w2 ⟨A1, c1, rfl, hs2'⟩
    have hs2 : SH w w2 [] [.own A1 (((hexFrom s1).1).length) c1 3 1 (((hexFrom s1).1).map I)] := hs1.call0 hs2'
    clear hs2'
    refine q trivial rfl rfl (mv (v := .tuple #[.slice A1 (((hexFrom s1).1).length) c1, .bool ((hexFrom s1).2)]) rfl) ?_
    refine q trivial rfl rfl (xt 0 (v := .slice A1 (((hexFrom s1).1).length) c1) rfl rfl) ?_
    refine q trivial rfl rfl (xt 1 (v := .bool ((hexFrom s1).2)) rfl rfl) ?_
    refine q trivial rfl rfl (asg (v := .slice A1 (((hexFrom s1).1).length) c1) rfl) ?_
    refine q trivial rfl rfl (asg (v := .bool ((hexFrom s1).2)) rfl) ?_
    refine nl ?_
    refine nN ?_
    refine sq ?_
    refine rg ?_
    refine q trivial rfl rfl (mv (v := Str s1) rfl) ?_
    refine cl trivial rfl (sHexFrom (l := s1) (w := _) (hl_n := (by first | omega | (simp; omega)))) ?_
    rintro _ w3 ⟨A2, c2, rfl, hs3'⟩
    have hs3 : SH w w3 [] [.own A1 (((hexFrom s1).1).length) c1 3 1 (((hexFrom s1).1).map I), .own A2 (((hexFrom s1).1).length) c2 3 1 (((hexFrom s1).1).map I)] := hs2.call0 hs3'
    clear hs3'
    refine q trivial rfl rfl (mv (v := .tuple #[.slice A2 (((hexFrom s1).1).length) c2, .bool ((hexFrom s1).2)]) rfl) ?_
    refine q trivial rfl rfl (xt 0 (v := .slice A2 (((hexFrom s1).1).length) c2) rfl rfl) ?_
    refine q trivial rfl rfl (xt 1 (v := .bool ((hexFrom s1).2)) rfl rfl) ?_
    refine q trivial rfl rfl (asg (v := .slice A2 (((hexFrom s1).1).length) c2) rfl) ?_
    refine q trivial rfl rfl (asg (v := .bool ((hexFrom s1).2)) rfl) ?_
    refine nl ?_
    refine nN ?_
    refine sq ?_
    refine sq ?_
    refine rg ?_
    refine q trivial rfl rfl (mv (v := .bool ((hexFrom s1).2)) rfl) ?_
    refine q trivial rfl rfl (mv (v := .bool ((hexFrom s1).2)) rfl) ?_
    refine q trivial rfl rfl (neb (a := ((hexFrom s1).2)) (b := ((hexFrom s1).2)) tb4 rfl rfl) ?_
    refine q trivial rfl rfl (mv (v := .bool (decide (((hexFrom s1).2) ≠ ((hexFrom s1).2)))) rfl) ?_
    refine spd (p := ((hexFrom s1).2) ≠ ((hexFrom s1).2)) 26 rfl (fun h2 => absurd h2 (by exact fun h => h rfl)) (fun h2 => ?_)
    refine q ⟨_, rfl, rfl⟩ rfl rfl (mv (v := .slice A1 (((hexFrom s1).1).length) c1) rfl) ?_
    refine q ⟨_, rfl, rfl⟩ rfl rfl (mv (v := .slice A2 (((hexFrom s1).1).length) c2) rfl) ?_
    refine cl ⟨_, rfl, rfl⟩ rfl (sameBytes (Axs := A1) (cxs := c1) (xs := (hexFrom s1).1) (Abs := A2) (cbs := c2) (bs := (hexFrom s1).1) (w := _) (hxs := (hs3.sl0 0 rfl)) (hbs := (hs3.sl0 1 rfl))) ?_
    rintro _ w4 ⟨rfl, hs4'⟩
    have hs4 : SH w w4 [] [.own A1 (((hexFrom s1).1).length) c1 3 1 (((hexFrom s1).1).map I), .own A2 (((hexFrom s1).1).length) c2 3 1 (((hexFrom s1).1).map I)] := hs3.call0 hs4'
    clear hs4'
    refine q ⟨_, rfl, rfl⟩ rfl rfl (nd (p := ((hexFrom s1).1) = ((hexFrom s1).1)) rfl) ?_
    refine q trivial rfl rfl (pf (v := .bool (decide (¬ (((hexFrom s1).1) = ((hexFrom s1).1))))) rfl rfl) ?_
    refine q trivial rfl rfl (mv (v := .bool (decide (¬ (((hexFrom s1).1) = ((hexFrom s1).1))))) rfl) ?_
    refine spd (p := ¬ (((hexFrom s1).1) = ((hexFrom s1).1))) 32 rfl (fun h3 => absurd h3 (by exact fun h => h rfl)) (fun h3 => ?_)
    refine q ⟨_, rfl, rfl⟩ rfl rfl (mv (v := .bool ((hexFrom s1).2)) rfl) ?_
    refine q ⟨_, rfl, rfl⟩ rfl rfl (nt (b := (hexFrom s1).2) rfl) ?_
    refine q trivial rfl rfl (pf (v := .bool (!((hexFrom s1).2))) rfl rfl) ?_
    refine nl ?_
    refine nN ?_
    refine cd (b := !((hexFrom s1).2)) rfl (fun h4 => ?_) (fun h4 => ?_)
    · refine sq ?_
      refine rg ?_
      refine q trivial rfl rfl (mv (v := .bool ((hexFrom s1).2)) rfl) ?_
      refine q trivial rfl rfl (mv (v := .bool ((hexFrom s1).2)) rfl) ?_
      refine q trivial rfl rfl (eqb (a := ((hexFrom s1).2)) (b := ((hexFrom s1).2)) tb4 rfl rfl) ?_
      refine q trivial rfl rfl (mv (v := .bool (decide (((hexFrom s1).2) = ((hexFrom s1).2)))) rfl) ?_
      refine spd (p := ((hexFrom s1).2) = ((hexFrom s1).2)) 39 rfl (fun h5 => ?_) (fun h5 => absurd (by rfl) h5)
      refine q ⟨_, rfl, rfl⟩ rfl rfl (mv (v := .slice A1 (((hexFrom s1).1).length) c1) rfl) ?_
      refine q ⟨_, rfl, rfl⟩ rfl rfl (mv (v := .slice A2 (((hexFrom s1).1).length) c2) rfl) ?_
      refine cl ⟨_, rfl, rfl⟩ rfl (sameBytes (Axs := A1) (cxs := c1) (xs := (hexFrom s1).1) (Abs := A2) (cbs := c2) (bs := (hexFrom s1).1) (w := _) (hxs := (hs4.sl0 0 rfl)) (hbs := (hs4.sl0 1 rfl))) ?_
      rintro _ w5 ⟨rfl, hs5'⟩
      have hs5 : SH w w5 [] [.own A1 (((hexFrom s1).1).length) c1 3 1 (((hexFrom s1).1).map I), .own A2 (((hexFrom s1).1).length) c2 3 1 (((hexFrom s1).1).map I)] := hs4.call0 hs5'
      clear hs5'
      refine q trivial rfl rfl (pt (v := .bool (decide (((hexFrom s1).1) = ((hexFrom s1).1)))) rfl rfl) ?_
      refine q trivial rfl rfl (asg (v := .bool (decide (((hexFrom s1).1) = ((hexFrom s1).1)))) rfl) ?_
      refine nl ?_
      refine nN ?_
      refine rt (tR ?_)
      refine fret (v := .bool (decide (((hexFrom s1).1) = ((hexFrom s1).1)))) (.tmp .nil) rfl ?_
      have e1 : (decide (((hexFrom s1).1) = ((hexFrom s1).1))) = true := by first | rfl | (simp; done) | (have hok : (hexFrom s1).2 = true := (by simp_all); have hr := hexFrom_round hok; simp_all)
      exact ⟨(congrArg (Value.bool) e1), (hs5.pick [] rfl (by decide))⟩
    · refine sk ?_
      refine nN ?_
      refine sq ?_
      refine rg ?_
      refine q trivial rfl rfl (mv (v := .slice A1 (((hexFrom s1).1).length) c1) rfl) ?_
      refine cl trivial rfl (iBytesValid (Azs := A1) (czs := c1) (zs := (hexFrom s1).1) (w := _) (hzs := (hs4.sl0 0 rfl))) ?_
      rintro _ w6 ⟨rfl, hs6'⟩
      have hs6 : SH w w6 [] [.own A1 (((hexFrom s1).1).length) c1 3 1 (((hexFrom s1).1).map I), .own A2 (((hexFrom s1).1).length) c2 3 1 (((hexFrom s1).1).map I)] := hs4.call0 hs6'
      clear hs6'
      refine q trivial rfl rfl (mv (v := .bool (isBytes ((hexFrom s1).1))) rfl) ?_
      refine spl (b := isBytes ((hexFrom s1).1)) 46 rfl (fun h6 => ?_) (fun h6 => ?_)
      · refine q ⟨_, rfl, rfl⟩ rfl rfl (mv (v := .slice A1 (((hexFrom s1).1).length) c1) rfl) ?_
        refine cl ⟨_, rfl, rfl⟩ rfl (iHexText (Axs := A1) (cxs := c1) (xs := (hexFrom s1).1) (w := _) (hxs := (hs6.sl0 0 rfl))) ?_
        rintro _ w7 ⟨rfl, hs7'⟩
        have hs7 : SH w w7 [] [.own A1 (((hexFrom s1).1).length) c1 3 1 (((hexFrom s1).1).map I), .own A2 (((hexFrom s1).1).length) c2 3 1 (((hexFrom s1).1).map I)] := hs6.call0 hs7'
        clear hs7'
        refine q ⟨_, rfl, rfl⟩ rfl rfl (mv (v := Str s1) rfl) ?_
        refine q ⟨_, rfl, rfl⟩ rfl rfl (eqs (l := hexText ((hexFrom s1).1)) (m := s1) rfl rfl) ?_
        refine q trivial rfl rfl (pt (v := .bool (decide (hexText ((hexFrom s1).1) = s1))) rfl rfl) ?_
        refine q trivial rfl rfl (asg (v := .bool (decide (hexText ((hexFrom s1).1) = s1))) rfl) ?_
        refine nl ?_
        refine nN ?_
        refine rt ?_
        refine fret (v := .bool (decide (hexText ((hexFrom s1).1) = s1))) (.tmp .nil) rfl ?_
        have e2 : (decide (hexText ((hexFrom s1).1) = s1)) = true := by first | rfl | (simp; done) | (have hok : (hexFrom s1).2 = true := (by simp_all); have hr := hexFrom_round hok; simp_all)
        exact ⟨(congrArg (Value.bool) e2), (hs7.pick [] rfl (by decide))⟩
      · refine gk false rfl rfl rfl rfl rfl ?_
        refine gk false rfl rfl rfl rfl rfl ?_
        refine gk false rfl rfl rfl rfl rfl ?_
        refine gk false rfl rfl rfl rfl rfl ?_
        refine q trivial rfl rfl (pf (v := .bool false) rfl rfl) ?_
        refine q trivial rfl rfl (asg (v := .bool false) rfl) ?_
        refine nl ?_
        refine nN ?_
        refine rt ?_
        refine fret (v := .bool false) (.tmp .nil) rfl ?_
        have e3 : false = true := by first | rfl | (simp; done) | (have hok : (hexFrom s1).2 = true := (by simp_all); have hr := hexFrom_round hok; simp_all)
        exact ⟨(congrArg (Value.bool) e3), (hs6.pick [] rfl (by decide))⟩


end Go.Proofs.Ythpdfolobbacpaa
