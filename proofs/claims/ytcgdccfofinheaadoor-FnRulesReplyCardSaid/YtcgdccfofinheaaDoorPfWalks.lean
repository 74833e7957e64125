/-
  Part of the proofs over this seat: what each function of the program computes, function by function (the text is written by a program of this hand-in's own).
  Conditions: each theorem states its own.
-/
import Derived.Test.YtcgdccfofinheaaDoorProg
import Derived.KernelRfl
import Derived.Test.YtcgdccfofinheaaDoorPfModel
import Derived.Test.YtcgdccfofinheaaDoorPfShelf
namespace Go.Proofs.YtcgdccfofinheaaDoor
open Go.PF
set_option maxRecDepth 100000
set_option linter.unusedSimpArgs false
set_option linter.unusedVariables false
theorem ag25 : aggOk Tryd.prog 25 4 = true := by kernel_rfl
theorem ag34 : aggOk Tryd.prog 34 6 = true := by kernel_rfl
theorem ag35 : aggOk Tryd.prog 35 4 = true := by kernel_rfl
theorem ag44 : aggOk Tryd.prog 44 5 = true := by kernel_rfl
theorem ag83 : aggOk Tryd.prog 83 3 = true := by kernel_rfl
theorem fo102_1 : fieldOk Tryd.prog 102 1 1 = true := by kernel_rfl
theorem fo25_0 : fieldOk Tryd.prog 25 0 0 = true := by kernel_rfl
theorem fo25_1 : fieldOk Tryd.prog 25 1 1 = true := by kernel_rfl
theorem fo25_2 : fieldOk Tryd.prog 25 2 2 = true := by kernel_rfl
theorem fo25_3 : fieldOk Tryd.prog 25 3 3 = true := by kernel_rfl
theorem fo34_0 : fieldOk Tryd.prog 34 0 0 = true := by kernel_rfl
theorem fo34_1 : fieldOk Tryd.prog 34 1 1 = true := by kernel_rfl
theorem fo34_2 : fieldOk Tryd.prog 34 2 5 = true := by kernel_rfl
theorem fo35_0 : fieldOk Tryd.prog 35 0 0 = true := by kernel_rfl
theorem fo35_1 : fieldOk Tryd.prog 35 1 1 = true := by kernel_rfl
theorem fo35_2 : fieldOk Tryd.prog 35 2 2 = true := by kernel_rfl
theorem fo35_3 : fieldOk Tryd.prog 35 3 3 = true := by kernel_rfl
theorem fo44_0 : fieldOk Tryd.prog 44 0 0 = true := by kernel_rfl
theorem fo44_1 : fieldOk Tryd.prog 44 1 1 = true := by kernel_rfl
theorem fo74_0 : fieldOk Tryd.prog 74 0 0 = true := by kernel_rfl
theorem fo74_1 : fieldOk Tryd.prog 74 1 1 = true := by kernel_rfl
theorem fo83_0 : fieldOk Tryd.prog 83 0 0 = true := by kernel_rfl
theorem fo83_1 : fieldOk Tryd.prog 83 1 1 = true := by kernel_rfl
theorem fo83_2 : fieldOk Tryd.prog 83 2 2 = true := by kernel_rfl
theorem mixed : Tryd.prog.follows .mixedOrders = true := by kernel_rfl
theorem one22 : oneOk Tryd.prog 22 = true := by kernel_rfl
theorem one23 : oneOk Tryd.prog 23 = true := by kernel_rfl
theorem one3 : oneOk Tryd.prog 3 = true := by kernel_rfl
theorem one4 : oneOk Tryd.prog 4 = true := by kernel_rfl
theorem one5 : oneOk Tryd.prog 5 = true := by kernel_rfl
theorem one9 : oneOk Tryd.prog 9 = true := by kernel_rfl
theorem sl22 : SlT Tryd.prog 22 5 1 1 (.int .u8 0) := SlT.mk' (by kernel_rfl) (by kernel_rfl)
theorem sl23 : SlT Tryd.prog 23 3 1 8 (.int .i64 0) := SlT.mk' (by kernel_rfl) (by kernel_rfl)
theorem sl42 : SlT Tryd.prog 42 83 3 32 (.agg #[Str [], .int .i64 0, .bool false]) := SlT.mk' (by kernel_rfl) (by kernel_rfl)
theorem sl77 : SlT Tryd.prog 77 9 1 16 (Str []) := SlT.mk' (by kernel_rfl) (by kernel_rfl)
theorem st9 : Tryd.prog.underlying 9 = some .string := by kernel_rfl
theorem tb4 : Tryd.prog.underlying 4 = some .bool := by kernel_rfl
theorem ti3 : Tryd.prog.underlying 3 = some (.int .i64) := by kernel_rfl
theorem ti5 : Tryd.prog.underlying 5 = some (.int .u8) := by kernel_rfl
theorem tp118 : Tryd.prog.underlying 118 = some (.pointer 5) := by kernel_rfl
theorem tz25 : (Tryd.prog.info? 25).bind (·.zero) = some (.agg #[.int .i64 0, .slice none 0 0, Str [], .int .i64 0]) := by kernel_rfl
theorem tz44 : (Tryd.prog.info? 44).bind (·.zero) = some (.agg #[.int .i64 0, .int .i64 0, .slice none 0 0, Str [], .int .i64 0]) := by kernel_rfl
theorem tz83 : (Tryd.prog.info? 83).bind (·.zero) = some (.agg #[Str [], .int .i64 0, .bool false]) := by kernel_rfl
theorem us22 : Tryd.prog.underlying 22 = some (.slice 5) := by kernel_rfl
theorem sIn (x : Int) (lo : Int) (hi : Int) (w : World)  : Does Tryd.prog 31 [I x, I lo, I hi] w (fun v w' => v = .bool (decide (lo ≤ x ∧ x ≤ hi)) ∧ SH w w' [] []) := by
 refine fn_enter (N := 15) Tryd.func31 rfl (by kernel_rfl) rfl rfl rfl ?_
 have hs0 : SH w w [] [] := SH.refl w []
 refine sq ?_
 refine rg ?_
 refine q trivial rfl rfl (asg (v := .bool false) rfl) ?_
 refine nl ?_
 refine nN ?_
 refine sq ?_
 refine rg ?_
 refine q trivial rfl rfl (mv (v := I x) rfl) ?_
 refine q trivial rfl rfl (mv (v := I lo) rfl) ?_
 refine q trivial rfl rfl (geq (k := .i64) (a := x) (b := lo) rfl rfl) ?_
 refine q trivial rfl rfl (mv (v := .bool (decide (lo ≤ x))) rfl) ?_
 refine spd (p := lo ≤ x) 10 rfl (fun h1 => ?_) (fun h1 => ?_)
 · refine q ⟨_, rfl, rfl⟩ rfl rfl (mv (v := I x) rfl) ?_
   refine q ⟨_, rfl, rfl⟩ rfl rfl (mv (v := I hi) rfl) ?_
   refine q ⟨_, rfl, rfl⟩ rfl rfl (leq (k := .i64) (a := x) (b := hi) rfl rfl) ?_
   refine q trivial rfl rfl (pt (v := .bool (decide (x ≤ hi))) rfl rfl) ?_
   refine q trivial rfl rfl (asg (v := .bool (decide (x ≤ hi))) rfl) ?_
   refine nl ?_
   refine nN ?_
   refine rt ?_
   refine fret (v := .bool (decide (x ≤ hi))) (.tmp .nil) rfl ?_
   have e1 : (decide (x ≤ hi)) = (decide (lo ≤ x ∧ x ≤ hi)) := by simp [*]
   exact ⟨(congrArg (Value.bool) e1), hs0⟩
 · refine gk false rfl rfl rfl rfl rfl ?_
   refine gk false rfl rfl rfl rfl rfl ?_
   refine gk false rfl rfl rfl rfl rfl ?_
   refine q trivial rfl rfl (pf (v := .bool false) rfl rfl) ?_
   refine q trivial rfl rfl (asg (v := .bool false) rfl) ?_
   refine nl ?_
   refine nN ?_
   refine rt ?_
   refine fret (v := .bool false) (.tmp .nil) rfl ?_
   have e2 : false = (decide (lo ≤ x ∧ x ≤ hi)) := by simp [*]
   exact ⟨(congrArg (Value.bool) e2), hs0⟩

theorem iWithin (x : Int) (lo : Int) (hi : Int) (w : World)  : Does Tryd.prog 52 [I x, I lo, I hi] w (fun v w' => v = .bool (decide (lo ≤ x ∧ x ≤ hi)) ∧ SH w w' [] []) := by
 refine fn_enter (N := 15) Tryd.func52 rfl (by kernel_rfl) rfl rfl rfl ?_
 have hs0 : SH w w [] [] := SH.refl w []
 refine sq ?_
 refine rg ?_
 refine q trivial rfl rfl (asg (v := .bool false) rfl) ?_
 refine nl ?_
 refine nN ?_
 refine sq ?_
 refine rg ?_
 refine q trivial rfl rfl (mv (v := I x) rfl) ?_
 refine q trivial rfl rfl (mv (v := I lo) rfl) ?_
 refine q trivial rfl rfl (geq (k := .i64) (a := x) (b := lo) rfl rfl) ?_
 refine q trivial rfl rfl (mv (v := .bool (decide (lo ≤ x))) rfl) ?_
 refine spd (p := lo ≤ x) 10 rfl (fun h1 => ?_) (fun h1 => ?_)
 · refine q ⟨_, rfl, rfl⟩ rfl rfl (mv (v := I x) rfl) ?_
   refine q ⟨_, rfl, rfl⟩ rfl rfl (mv (v := I hi) rfl) ?_
   refine q ⟨_, rfl, rfl⟩ rfl rfl (leq (k := .i64) (a := x) (b := hi) rfl rfl) ?_
   refine q trivial rfl rfl (pt (v := .bool (decide (x ≤ hi))) rfl rfl) ?_
   refine q trivial rfl rfl (asg (v := .bool (decide (x ≤ hi))) rfl) ?_
   refine nl ?_
   refine nN ?_
   refine rt ?_
   refine fret (v := .bool (decide (x ≤ hi))) (.tmp .nil) rfl ?_
   have e1 : (decide (x ≤ hi)) = (decide (lo ≤ x ∧ x ≤ hi)) := by simp [*]
   exact ⟨(congrArg (Value.bool) e1), hs0⟩
 · refine gk false rfl rfl rfl rfl rfl ?_
   refine gk false rfl rfl rfl rfl rfl ?_
   refine gk false rfl rfl rfl rfl rfl ?_
   refine q trivial rfl rfl (pf (v := .bool false) rfl rfl) ?_
   refine q trivial rfl rfl (asg (v := .bool false) rfl) ?_
   refine nl ?_
   refine nN ?_
   refine rt ?_
   refine fret (v := .bool false) (.tmp .nil) rfl ?_
   have e2 : false = (decide (lo ≤ x ∧ x ≤ hi)) := by simp [*]
   exact ⟨(congrArg (Value.bool) e2), hs0⟩

theorem iBV1 (x : Int) (w : World)  : Does Tryd.prog 94 [I x] w (fun v w' => v = .bool (decide (¬ (0 ≤ x ∧ x ≤ 255))) ∧ SH w w' [] []) := by
 refine fn_enter (N := 6) Tryd.func94 rfl (by kernel_rfl) rfl rfl rfl ?_
 have hs0 : SH w w [] [] := SH.refl w []
 refine sq ?_
 refine rg ?_
 refine q trivial rfl rfl (asg (v := .bool false) rfl) ?_
 refine nl ?_
 refine nN ?_
 refine sq ?_
 refine rg ?_
 refine q trivial rfl rfl (mv (v := I x) rfl) ?_
 refine cl trivial rfl (iWithin (x := x) (lo := 0) (hi := 255) (w := _)) ?_
 rintro _ w1 ⟨rfl, hs1'⟩
 have hs1 : SH w w1 [] [] := hs0.call0 hs1'
 clear hs1'
 refine q trivial rfl rfl (nd (p := 0 ≤ x ∧ x ≤ 255) rfl) ?_
 refine q trivial rfl rfl (asg (v := .bool (decide (¬ (0 ≤ x ∧ x ≤ 255)))) rfl) ?_
 refine nl ?_
 refine nN ?_
 refine rt ?_
 refine fret (v := .bool (decide (¬ (0 ≤ x ∧ x ≤ 255)))) (.tmp .nil) rfl ?_
 exact ⟨rfl, hs1⟩

theorem sBytesValid {Azs : Option Addr} {czs : Nat} (zs : List Int) (w : World) (hzs : Sl w [] 1 Azs zs.length czs (zs.map I)) : Does Tryd.prog 62 [.slice Azs zs.length czs] w (fun v w' => v = .bool (isBytes zs) ∧ SH w w' [] []) := by
 refine fn_enter (N := 19) Tryd.func62 rfl (by kernel_rfl) rfl rfl rfl ?_
 have hs0 : SH w w [] [] := SH.refl w []
 have hzs_m : zs.length ≤ 9223372036854775807 := Nat.le_trans hzs.cap hzs.capMax
 refine sq ?_
 refine rg ?_
 refine q trivial rfl rfl (asg (v := .bool false) rfl) ?_
 refine nl ?_
 refine nN ?_
 refine sq ?_
 refine sq ?_
 refine rg ?_
 refine q trivial rfl rfl (asg (v := I 0) rfl) ?_
 refine nl ?_
 refine nN ?_
 refine bl ?_
 refine lp (σ := Nat) (fun (k : Nat) f w' => Has f [(0, .slice Azs zs.length czs), (3, I ((k : Nat) : Int))] ∧ (k ≤ zs.length) ∧ (allB (zs.take k) = true) ∧ SH w w' [] []) (fun k => zs.length - k) 0 ⟨⟨rfl, rfl, trivial⟩, (by simp), (by simp [allB]), hs0⟩ ?_
 rintro k f w1 ⟨hf, hk, ha, hs1⟩
 obtain ⟨g1, rfl⟩ := has_upd hf
 clear hf
 refine sq ?_
 refine sq ?_
 refine rg ?_
 refine q trivial rfl rfl (mv (v := I ((k : Nat) : Int)) rfl) ?_
 refine q trivial rfl rfl (mv (v := .slice Azs zs.length czs) rfl) ?_
 refine q trivial rfl rfl (lnA (n := zs.length) sl23 rfl) ?_
 refine q trivial rfl rfl (lss (k := .i64) (a := ((k : Nat) : Int)) (b := ((zs.length : Nat) : Int)) rfl rfl) ?_
 refine nl ?_
 refine nN ?_
 refine cdd (p := ((k : Nat) : Int) < ((zs.length : Nat) : Int)) rfl (fun h1 => ?_) (fun h1 => ?_)
 · refine sk ?_
   refine nN ?_
   refine sq ?_
   refine bl ?_
   refine sq ?_
   refine rg ?_
   refine q trivial rfl rfl (mv (v := .slice Azs zs.length czs) rfl) ?_
   refine q trivial rfl rfl (mv (v := I ((k : Nat) : Int)) rfl) ?_
   refine ixw1 k sl23 rfl rfl hzs (by first | omega | (simp; done) | (simp; omega)) (getm I 0 (by first | omega | (simp; done) | (simp; omega))) trivial rfl (fun a1 ha1 => ?_)
   refine q trivial rfl rfl (lda (v := I (zs.getD k 0)) hs1 ha1 (fun _ h => h) rfl rfl one3) ?_
   refine cl trivial rfl (sIn (x := zs.getD k 0) (lo := 0) (hi := 255) (w := _)) ?_
   rintro _ w2 ⟨rfl, hs2'⟩
   have hs2 : SH w w2 [] [] := hs1.call0 hs2'
   clear hs2'
   refine q trivial rfl rfl (nd (p := 0 ≤ (zs.getD k 0) ∧ (zs.getD k 0) ≤ 255) rfl) ?_
   refine nl ?_
   refine nN ?_
   refine cdd (p := ¬ (0 ≤ (zs.getD k 0) ∧ (zs.getD k 0) ≤ 255)) rfl (fun h2 => ?_) (fun h2 => ?_)
   · refine sq ?_
     refine rg ?_
     refine q trivial rfl rfl (asg (v := .bool false) rfl) ?_
     refine nl ?_
     refine nN ?_
     refine rt (bR (tR (tR (bR (tR ?_)))))
     refine fret (v := .bool false) (.tmp .nil) rfl ?_
     have e1 : false = isBytes zs := by exact bytes_no1 (k := k) (by omega) (by simpa using h2)
     exact ⟨(congrArg (Value.bool) e1), hs2⟩
   · refine sk ?_
     refine bN ?_
     refine nN ?_
     refine rg ?_
     refine q trivial rfl rfl (mv (v := I ((k : Nat) : Int)) rfl) ?_
     refine q trivial rfl rfl (add (a := ((k : Nat) : Int)) (b := 1) rfl rfl (by exact ⟨by omega, by omega⟩)) ?_
     refine q trivial rfl rfl (asg (v := I (((k : Nat) : Int) + 1)) rfl) ?_
     refine nl ?_
     refine nN ?_
     refine ⟨(k + 1), ⟨⟨rfl, rfl, trivial⟩, (by omega), (allB_step (by omega) ha (by simpa using h2)), hs2⟩, ?_⟩
     omega
 · refine ex (tE (tE (bE ?_)))
   refine nN ?_
   refine sq ?_
   refine rg ?_
   refine q trivial rfl rfl (mv (v := .slice Azs zs.length czs) rfl) ?_
   refine q trivial rfl rfl (lnA (n := zs.length) sl23 rfl) ?_
   refine q trivial rfl rfl (leq (k := .i64) (a := ((zs.length : Nat) : Int)) (b := 120) rfl rfl) ?_
   refine q trivial rfl rfl (asg (v := .bool (decide (((zs.length : Nat) : Int) ≤ 120))) rfl) ?_
   refine nl ?_
   refine nN ?_
   refine rt ?_
   refine fret (v := .bool (decide (((zs.length : Nat) : Int) ≤ 120))) (.tmp .nil) rfl ?_
   have e2 : (decide (((zs.length : Nat) : Int) ≤ 120)) = isBytes zs := by exact bytes_yes (k := k) (by omega) ha
   exact ⟨(congrArg (Value.bool) e2), hs1⟩

theorem slIndexFunc (p : Int → Bool) {Azs : Option Addr} {czs : Nat} (zs : List Int) (kf : FuncId) (w : World) (hzs : Sl w [] 1 Azs zs.length czs (zs.map I)) (hf : ∀ (x : Int) (w : World), Does Tryd.prog kf [.int .i64 x] w (fun v w' => v = .bool (p x) ∧ SH w w' [] [])) : Does Tryd.prog 99 [.slice Azs zs.length czs, .func (.func kf) #[] #[]] w (fun v w' => v = .int .i64 (idxF p zs) ∧ SH w w' [] []) := by
 refine fn_enter (N := 19) Tryd.func99 rfl (by kernel_rfl) rfl rfl rfl ?_
 have hs0 : SH w w [] [] := SH.refl w []
 have hzs_m : zs.length ≤ 9223372036854775807 := Nat.le_trans hzs.cap hzs.capMax
 refine sq ?_
 refine rg ?_
 refine q trivial rfl rfl (asg (v := I 0) rfl) ?_
 refine nl ?_
 refine nN ?_
 refine sq ?_
 refine sq ?_
 refine rg ?_
 refine q trivial rfl rfl (mv (v := .slice Azs zs.length czs) rfl) ?_
 refine q trivial rfl rfl (lnA (n := zs.length) sl23 rfl) ?_
 refine q trivial rfl rfl (mv (v := I 0) rfl) ?_
 refine nl ?_
 refine nN ?_
 refine bl ?_
 refine lp (σ := Nat) (fun (k : Nat) f w' => Has f [(0, .slice Azs zs.length czs), (1, .func (.func kf) #[] #[]), (7, I ((zs.length : Nat) : Int)), (8, I ((k : Nat) : Int))] ∧ (k ≤ zs.length) ∧ (∀ j, j < k → p (zs.getD j 0) = false) ∧ SH w w' [] []) (fun k => zs.length - k) 0 ⟨⟨rfl, rfl, rfl, rfl, trivial⟩, (by simp), (by intro j hj; omega), hs0⟩ ?_
 rintro k f w1 ⟨hf, hk, hn, hs1⟩
 obtain ⟨g1, rfl⟩ := has_upd hf
 clear hf
 refine sq ?_
 refine rg ?_
 refine q trivial rfl rfl (lss (k := .i64) (a := ((k : Nat) : Int)) (b := ((zs.length : Nat) : Int)) rfl rfl) ?_
 refine nl ?_
 refine nN ?_
 refine sq ?_
 refine cdd (p := ((k : Nat) : Int) < ((zs.length : Nat) : Int)) rfl (fun h1 => ?_) (fun h1 => ?_)
 · refine sk ?_
   refine nN ?_
   refine sq ?_
   refine bl ?_
   refine sq ?_
   refine rg ?_
   refine q trivial rfl rfl (mv (v := I ((k : Nat) : Int)) rfl) ?_
   refine q trivial rfl rfl (asg (v := I ((k : Nat) : Int)) rfl) ?_
   refine nl ?_
   refine nN ?_
   refine sq ?_
   refine rg ?_
   refine q trivial rfl rfl (mv (v := .func (.func kf) #[] #[]) rfl) ?_
   refine q trivial rfl rfl (mv (v := .slice Azs zs.length czs) rfl) ?_
   refine q trivial rfl rfl (mv (v := I ((k : Nat) : Int)) rfl) ?_
   refine ixw1 k sl23 rfl rfl hzs (by first | omega | (simp; done) | (simp; omega)) (getm I 0 (by first | omega | (simp; done) | (simp; omega))) trivial rfl (fun a1 ha1 => ?_)
   refine q trivial rfl rfl (lda (v := I (zs.getD k 0)) hs1 ha1 (fun _ h => h) rfl rfl one3) ?_
   refine clv (k := kf) trivial rfl rfl (hf (zs.getD k 0) _) ?_
   rintro _ w2 ⟨rfl, hs2'⟩
   have hs2 : SH w w2 [] [] := hs1.call0 hs2'
   clear hs2'
   refine nl ?_
   refine nN ?_
   refine cd (b := p (zs.getD k 0)) rfl (fun h2 => ?_) (fun h2 => ?_)
   · refine sq ?_
     refine rg ?_
     refine q trivial rfl rfl (mv (v := I ((k : Nat) : Int)) rfl) ?_
     refine q trivial rfl rfl (asg (v := I ((k : Nat) : Int)) rfl) ?_
     refine nl ?_
     refine nN ?_
     refine rt (bR (tR (tR (bR (tR ?_)))))
     refine fret (v := I ((k : Nat) : Int)) (.tmp .nil) rfl ?_
     have e1 : ((k : Nat) : Int) = idxF p zs := by exact idxF_eq (by omega) hn h2
     exact ⟨(congrArg (Value.int .i64) e1), hs2⟩
   · refine sk ?_
     refine bN ?_
     refine nN ?_
     refine rg ?_
     refine q trivial rfl rfl (add (a := ((k : Nat) : Int)) (b := 1) rfl rfl (by exact ⟨by omega, by omega⟩)) ?_
     refine q trivial rfl rfl (mv (v := I (((k : Nat) : Int) + 1)) rfl) ?_
     refine nl ?_
     refine nN ?_
     refine ⟨(k + 1), ⟨⟨rfl, rfl, rfl, rfl, trivial⟩, (by omega), (by intro j hj; rcases Nat.lt_succ_iff_lt_or_eq.1 hj with h | h; exact hn j h; subst h; exact h2), hs2⟩, ?_⟩
     omega
 · refine ex (tE (tE (bE ?_)))
   refine nN ?_
   refine sq ?_
   refine rg ?_
   refine q trivial rfl rfl (asg (v := I (-1)) rfl) ?_
   refine nl ?_
   refine nN ?_
   refine rt ?_
   refine fret (v := I (-1)) (.tmp .nil) rfl ?_
   have e2 : (-1) = idxF p zs := by exact idxF_none (fun j hj => hn j (by omega))
   exact ⟨(congrArg (Value.int .i64) e2), hs1⟩

theorem slContainsFunc (p : Int → Bool) {Azs : Option Addr} {czs : Nat} (zs : List Int) (kf : FuncId) (w : World) (hzs : Sl w [] 1 Azs zs.length czs (zs.map I)) (hf : ∀ (x : Int) (w : World), Does Tryd.prog kf [.int .i64 x] w (fun v w' => v = .bool (p x) ∧ SH w w' [] [])) : Does Tryd.prog 93 [.slice Azs zs.length czs, .func (.func kf) #[] #[]] w (fun v w' => v = .bool (zs.any p) ∧ SH w w' [] []) := by
 refine fn_enter (N := 9) Tryd.func93 rfl (by kernel_rfl) rfl rfl rfl ?_
 have hs0 : SH w w [] [] := SH.refl w []
 have hzs_m : zs.length ≤ 9223372036854775807 := Nat.le_trans hzs.cap hzs.capMax
 refine sq ?_
 refine rg ?_
 refine q trivial rfl rfl (asg (v := .bool false) rfl) ?_
 refine nl ?_
 refine nN ?_
 refine sq ?_
 refine rg ?_
 refine q trivial rfl rfl (mv (v := .slice Azs zs.length czs) rfl) ?_
 refine q trivial rfl rfl (mv (v := .func (.func kf) #[] #[]) rfl) ?_
 refine cl trivial rfl (slIndexFunc (p := p) (Azs := Azs) (czs := czs) (zs := zs) (kf := kf) (w := _) (hzs := (hzs.up0 hs0)) (hf := hf)) ?_
 rintro _ w1 ⟨rfl, hs1'⟩
 have hs1 : SH w w1 [] [] := hs0.call0 hs1'
 clear hs1'
 refine q trivial rfl rfl (geq (k := .i64) (a := idxF p zs) (b := 0) rfl rfl) ?_
 refine q trivial rfl rfl (asg (v := .bool (decide ((0 : Int) ≤ (idxF p zs)))) rfl) ?_
 refine nl ?_
 refine nN ?_
 refine rt ?_
 refine fret (v := .bool (decide ((0 : Int) ≤ (idxF p zs)))) (.tmp .nil) rfl ?_
 have e1 : (decide ((0 : Int) ≤ (idxF p zs))) = zs.any p := by exact idxF_any p zs
 exact ⟨(congrArg (Value.bool) e1), hs1⟩

theorem iBytesValid {Azs : Option Addr} {czs : Nat} (zs : List Int) (w : World) (hzs : Sl w [] 1 Azs zs.length czs (zs.map I)) : Does Tryd.prog 83 [.slice Azs zs.length czs] w (fun v w' => v = .bool (isBytes zs) ∧ SH w w' [] []) := by
 refine fn_enter (N := 11) Tryd.func83 rfl (by kernel_rfl) rfl rfl rfl ?_
 have hs0 : SH w w [] [] := SH.refl w []
 have hzs_m : zs.length ≤ 9223372036854775807 := Nat.le_trans hzs.cap hzs.capMax
 refine sq ?_
 refine rg ?_
 refine q trivial rfl rfl (asg (v := .bool false) rfl) ?_
 refine nl ?_
 refine nN ?_
 refine sq ?_
 refine rg ?_
 refine q trivial rfl rfl (mv (v := .slice Azs zs.length czs) rfl) ?_
 refine q trivial rfl rfl (lnA (n := zs.length) sl23 rfl) ?_
 refine q trivial rfl rfl (leq (k := .i64) (a := ((zs.length : Nat) : Int)) (b := 120) rfl rfl) ?_
 refine q trivial rfl rfl (mv (v := .bool (decide (((zs.length : Nat) : Int) ≤ 120))) rfl) ?_
 refine spd (p := ((zs.length : Nat) : Int) ≤ 120) 6 rfl (fun h1 => ?_) (fun h1 => ?_)
 · refine q ⟨_, rfl, rfl⟩ rfl rfl (mv (v := .slice Azs zs.length czs) rfl) ?_
   refine cl ⟨_, rfl, rfl⟩ rfl (slContainsFunc (p := (fun x => (decide (¬ (0 ≤ x ∧ x ≤ 255))))) (Azs := Azs) (czs := czs) (zs := zs) (kf := 94) (w := _) (hzs := (hzs.up0 hs0)) (hf := (fun x w => iBV1 x w))) ?_
   rintro _ w1 ⟨rfl, hs1'⟩
   have hs1 : SH w w1 [] [] := hs0.call0 hs1'
   clear hs1'
   refine q ⟨_, rfl, rfl⟩ rfl rfl (nt (b := zs.any (fun x => (decide (¬ (0 ≤ x ∧ x ≤ 255))))) rfl) ?_
   refine q trivial rfl rfl (pt (v := .bool (!(zs.any (fun x => (decide (¬ (0 ≤ x ∧ x ≤ 255))))))) rfl rfl) ?_
   refine q trivial rfl rfl (asg (v := .bool (!(zs.any (fun x => (decide (¬ (0 ≤ x ∧ x ≤ 255))))))) rfl) ?_
   refine nl ?_
   refine nN ?_
   refine rt ?_
   refine fret (v := .bool (!(zs.any (fun x => (decide (¬ (0 ≤ x ∧ x ≤ 255))))))) (.tmp .nil) rfl ?_
   have e1 : (!(zs.any (fun x => (decide (¬ (0 ≤ x ∧ x ≤ 255)))))) = isBytes zs := by rw [← isBytes_not]; simp [*]
   exact ⟨(congrArg (Value.bool) e1), hs1⟩
 · refine gk false rfl rfl rfl rfl rfl ?_
   refine gk false rfl rfl rfl rfl rfl ?_
   refine gk false rfl rfl rfl rfl rfl ?_
   refine q trivial rfl rfl (pf (v := .bool false) rfl rfl) ?_
   refine q trivial rfl rfl (asg (v := .bool false) rfl) ?_
   refine nl ?_
   refine nN ?_
   refine rt ?_
   refine fret (v := .bool false) (.tmp .nil) rfl ?_
   have e2 : false = isBytes zs := by rw [← isBytes_not]; simp [*]
   exact ⟨(congrArg (Value.bool) e2), hs0⟩

theorem eqIntS {Axs : Option Addr} {cxs : Nat} (xs : List Int) {Abs : Option Addr} {cbs : Nat} (bs : List Int) (w : World) (hxs : Sl w [] 1 Axs xs.length cxs (xs.map I)) (hbs : Sl w [] 1 Abs bs.length cbs (bs.map I)) : Does Tryd.prog 39 [.slice Axs xs.length cxs, .slice Abs bs.length cbs] w (fun v w' => v = .bool (decide (xs = bs)) ∧ SH w w' [] []) := by
 refine fn_enter (N := 26) Tryd.func39 rfl (by kernel_rfl) rfl rfl rfl ?_
 have hs0 : SH w w [] [] := SH.refl w []
 have hxs_m : xs.length ≤ 9223372036854775807 := Nat.le_trans hxs.cap hxs.capMax
 have hbs_m : bs.length ≤ 9223372036854775807 := Nat.le_trans hbs.cap hbs.capMax
 refine sq ?_
 refine rg ?_
 refine q trivial rfl rfl (asg (v := .bool false) rfl) ?_
 refine nl ?_
 refine nN ?_
 refine sq ?_
 refine sq ?_
 refine rg ?_
 refine q trivial rfl rfl (mv (v := .slice Axs xs.length cxs) rfl) ?_
 refine q trivial rfl rfl (lnA (n := xs.length) sl23 rfl) ?_
 refine q trivial rfl rfl (mv (v := .slice Abs bs.length cbs) rfl) ?_
 refine q trivial rfl rfl (lnA (n := bs.length) sl23 rfl) ?_
 refine q trivial rfl rfl (nei (k := .i64) (a := ((xs.length : Nat) : Int)) (b := ((bs.length : Nat) : Int)) rfl rfl) ?_
 refine nl ?_
 refine nN ?_
 refine cdd (p := ((xs.length : Nat) : Int) ≠ ((bs.length : Nat) : Int)) rfl (fun h1 => ?_) (fun h1 => ?_)
 · refine sq ?_
   refine rg ?_
   refine q trivial rfl rfl (asg (v := .bool false) rfl) ?_
   refine nl ?_
   refine nN ?_
   refine rt (tR ?_)
   refine fret (v := .bool false) (.tmp .nil) rfl ?_
   have e1 : false = (decide (xs = bs)) := by simp; intro h; subst h; exact h1 rfl
   exact ⟨(congrArg (Value.bool) e1), hs0⟩
 · refine sk ?_
   refine nN ?_
   refine sq ?_
   refine sq ?_
   refine rg ?_
   refine q trivial rfl rfl (asg (v := I 0) rfl) ?_
   refine nl ?_
   refine nN ?_
   refine bl ?_
   refine lp (σ := Nat) (fun (k : Nat) f w' => Has f [(0, .slice Axs xs.length cxs), (1, .slice Abs bs.length cbs), (5, I ((k : Nat) : Int))] ∧ (xs.length = bs.length) ∧ (k ≤ xs.length) ∧ (xs.take k = bs.take k) ∧ SH w w' [] []) (fun k => xs.length - k) 0 ⟨⟨rfl, rfl, rfl, trivial⟩, (by omega), (by simp), (by simp), hs0⟩ ?_
   rintro k f w1 ⟨hf, hl, hk, ha, hs1⟩
   obtain ⟨g1, rfl⟩ := has_upd hf
   clear hf
   refine sq ?_
   refine sq ?_
   refine rg ?_
   refine q trivial rfl rfl (mv (v := I ((k : Nat) : Int)) rfl) ?_
   refine q trivial rfl rfl (mv (v := .slice Axs xs.length cxs) rfl) ?_
   refine q trivial rfl rfl (lnA (n := xs.length) sl23 rfl) ?_
   refine q trivial rfl rfl (lss (k := .i64) (a := ((k : Nat) : Int)) (b := ((xs.length : Nat) : Int)) rfl rfl) ?_
   refine nl ?_
   refine nN ?_
   refine cdd (p := ((k : Nat) : Int) < ((xs.length : Nat) : Int)) rfl (fun h2 => ?_) (fun h2 => ?_)
   · refine sk ?_
     refine nN ?_
     refine sq ?_
     refine bl ?_
     refine sq ?_
     refine rq (fun w' => SH w w' [] []) mixed (by kernel_rfl) hs1.drew ?_
     refine qq trivial rfl rfl (fun wq hsq => mv (v := .slice Axs xs.length cxs) rfl) ?_
     refine qq trivial rfl rfl (fun wq hsq => mv (v := I ((k : Nat) : Int)) rfl) ?_
     refine ixq1 k sl23 rfl rfl hxs (by first | omega | (simp; done) | (simp; omega)) (getm I 0 (by first | omega | (simp; done) | (simp; omega))) trivial rfl (fun a1 ha1 => ?_)
     refine qq trivial rfl rfl (fun wq hsq => lda (v := I (xs.getD k 0)) hsq ha1 (fun _ h => h) rfl rfl one3) ?_
     refine qq trivial rfl rfl (fun wq hsq => mv (v := .slice Abs bs.length cbs) rfl) ?_
     refine qq trivial rfl rfl (fun wq hsq => mv (v := I ((k : Nat) : Int)) rfl) ?_
     refine ixq1 k sl23 rfl rfl hbs (by first | omega | (simp; done) | (simp; omega)) (getm I 0 (by first | omega | (simp; done) | (simp; omega))) trivial rfl (fun a2 ha2 => ?_)
     refine qq trivial rfl rfl (fun wq hsq => lda (v := I (bs.getD k 0)) hsq ha2 (fun _ h => h) rfl rfl one3) ?_
     refine qq trivial rfl rfl (fun wq hsq => nei (k := .i64) (a := xs.getD k 0) (b := bs.getD k 0) rfl rfl) ?_
     refine qn (fun w2 hs2 => ?_)
     refine nN ?_
     refine cdd (p := (xs.getD k 0) ≠ (bs.getD k 0)) rfl (fun h3 => ?_) (fun h3 => ?_)
     · refine sq ?_
       refine rg ?_
       refine q trivial rfl rfl (asg (v := .bool false) rfl) ?_
       refine nl ?_
       refine nN ?_
       refine rt (bR (tR (tR (bR (tR ?_)))))
       refine fret (v := .bool false) (.tmp .nil) rfl ?_
       have e2 : false = (decide (xs = bs)) := by simp; intro h; subst h; exact h3 rfl
       exact ⟨(congrArg (Value.bool) e2), hs2⟩
     · refine sk ?_
       refine bN ?_
       refine nN ?_
       refine rg ?_
       refine q trivial rfl rfl (mv (v := I ((k : Nat) : Int)) rfl) ?_
       refine q trivial rfl rfl (add (a := ((k : Nat) : Int)) (b := 1) rfl rfl (by exact ⟨by omega, by omega⟩)) ?_
       refine q trivial rfl rfl (asg (v := I (((k : Nat) : Int) + 1)) rfl) ?_
       refine nl ?_
       refine nN ?_
       refine ⟨(k + 1), ⟨⟨rfl, rfl, rfl, trivial⟩, (hl), (by omega), (take_succ_eq (by omega) (by omega) ha (by simpa using h3)), hs2⟩, ?_⟩
       omega
   · refine ex (tE (tE (bE ?_)))
     refine nN ?_
     refine sq ?_
     refine rg ?_
     refine q trivial rfl rfl (asg (v := .bool true) rfl) ?_
     refine nl ?_
     refine nN ?_
     refine rt ?_
     refine fret (v := .bool true) (.tmp .nil) rfl ?_
     have e3 : true = (decide (xs = bs)) := by simp; exact take_all_eq hl (by omega) ha
     exact ⟨(congrArg (Value.bool) e3), hs1⟩

theorem sameBytes {Axs : Option Addr} {cxs : Nat} (xs : List Int) {Abs : Option Addr} {cbs : Nat} (bs : List Int) (w : World) (hxs : Sl w [] 1 Axs xs.length cxs (xs.map I)) (hbs : Sl w [] 1 Abs bs.length cbs (bs.map I)) : Does Tryd.prog 22 [.slice Axs xs.length cxs, .slice Abs bs.length cbs] w (fun v w' => v = .bool (decide (xs = bs)) ∧ SH w w' [] []) := by
 refine fn_enter (N := 26) Tryd.func22 rfl (by kernel_rfl) rfl rfl rfl ?_
 have hs0 : SH w w [] [] := SH.refl w []
 have hxs_m : xs.length ≤ 9223372036854775807 := Nat.le_trans hxs.cap hxs.capMax
 have hbs_m : bs.length ≤ 9223372036854775807 := Nat.le_trans hbs.cap hbs.capMax
 refine sq ?_
 refine rg ?_
 refine q trivial rfl rfl (asg (v := .bool false) rfl) ?_
 refine nl ?_
 refine nN ?_
 refine sq ?_
 refine sq ?_
 refine rg ?_
 refine q trivial rfl rfl (mv (v := .slice Axs xs.length cxs) rfl) ?_
 refine q trivial rfl rfl (lnA (n := xs.length) sl23 rfl) ?_
 refine q trivial rfl rfl (mv (v := .slice Abs bs.length cbs) rfl) ?_
 refine q trivial rfl rfl (lnA (n := bs.length) sl23 rfl) ?_
 refine q trivial rfl rfl (nei (k := .i64) (a := ((xs.length : Nat) : Int)) (b := ((bs.length : Nat) : Int)) rfl rfl) ?_
 refine nl ?_
 refine nN ?_
 refine cdd (p := ((xs.length : Nat) : Int) ≠ ((bs.length : Nat) : Int)) rfl (fun h1 => ?_) (fun h1 => ?_)
 · refine sq ?_
   refine rg ?_
   refine q trivial rfl rfl (asg (v := .bool false) rfl) ?_
   refine nl ?_
   refine nN ?_
   refine rt (tR ?_)
   refine fret (v := .bool false) (.tmp .nil) rfl ?_
   have e1 : false = (decide (xs = bs)) := by simp; intro h; subst h; exact h1 rfl
   exact ⟨(congrArg (Value.bool) e1), hs0⟩
 · refine sk ?_
   refine nN ?_
   refine sq ?_
   refine sq ?_
   refine rg ?_
   refine q trivial rfl rfl (asg (v := I 0) rfl) ?_
   refine nl ?_
   refine nN ?_
   refine bl ?_
   refine lp (σ := Nat) (fun (k : Nat) f w' => Has f [(0, .slice Axs xs.length cxs), (1, .slice Abs bs.length cbs), (5, I ((k : Nat) : Int))] ∧ (xs.length = bs.length) ∧ (k ≤ xs.length) ∧ (xs.take k = bs.take k) ∧ SH w w' [] []) (fun k => xs.length - k) 0 ⟨⟨rfl, rfl, rfl, trivial⟩, (by omega), (by simp), (by simp), hs0⟩ ?_
   rintro k f w1 ⟨hf, hl, hk, ha, hs1⟩
   obtain ⟨g1, rfl⟩ := has_upd hf
   clear hf
   refine sq ?_
   refine sq ?_
   refine rg ?_
   refine q trivial rfl rfl (mv (v := I ((k : Nat) : Int)) rfl) ?_
   refine q trivial rfl rfl (mv (v := .slice Axs xs.length cxs) rfl) ?_
   refine q trivial rfl rfl (lnA (n := xs.length) sl23 rfl) ?_
   refine q trivial rfl rfl (lss (k := .i64) (a := ((k : Nat) : Int)) (b := ((xs.length : Nat) : Int)) rfl rfl) ?_
   refine nl ?_
   refine nN ?_
   refine cdd (p := ((k : Nat) : Int) < ((xs.length : Nat) : Int)) rfl (fun h2 => ?_) (fun h2 => ?_)
   · refine sk ?_
     refine nN ?_
     refine sq ?_
     refine bl ?_
     refine sq ?_
     refine rq (fun w' => SH w w' [] []) mixed (by kernel_rfl) hs1.drew ?_
     refine qq trivial rfl rfl (fun wq hsq => mv (v := .slice Axs xs.length cxs) rfl) ?_
     refine qq trivial rfl rfl (fun wq hsq => mv (v := I ((k : Nat) : Int)) rfl) ?_
     refine ixq1 k sl23 rfl rfl hxs (by first | omega | (simp; done) | (simp; omega)) (getm I 0 (by first | omega | (simp; done) | (simp; omega))) trivial rfl (fun a1 ha1 => ?_)
     refine qq trivial rfl rfl (fun wq hsq => lda (v := I (xs.getD k 0)) hsq ha1 (fun _ h => h) rfl rfl one3) ?_
     refine qq trivial rfl rfl (fun wq hsq => mv (v := .slice Abs bs.length cbs) rfl) ?_
     refine qq trivial rfl rfl (fun wq hsq => mv (v := I ((k : Nat) : Int)) rfl) ?_
     refine ixq1 k sl23 rfl rfl hbs (by first | omega | (simp; done) | (simp; omega)) (getm I 0 (by first | omega | (simp; done) | (simp; omega))) trivial rfl (fun a2 ha2 => ?_)
     refine qq trivial rfl rfl (fun wq hsq => lda (v := I (bs.getD k 0)) hsq ha2 (fun _ h => h) rfl rfl one3) ?_
     refine qq trivial rfl rfl (fun wq hsq => nei (k := .i64) (a := xs.getD k 0) (b := bs.getD k 0) rfl rfl) ?_
     refine qn (fun w2 hs2 => ?_)
     refine nN ?_
     refine cdd (p := (xs.getD k 0) ≠ (bs.getD k 0)) rfl (fun h3 => ?_) (fun h3 => ?_)
     · refine sq ?_
       refine rg ?_
       refine q trivial rfl rfl (asg (v := .bool false) rfl) ?_
       refine nl ?_
       refine nN ?_
       refine rt (bR (tR (tR (bR (tR ?_)))))
       refine fret (v := .bool false) (.tmp .nil) rfl ?_
       have e2 : false = (decide (xs = bs)) := by simp; intro h; subst h; exact h3 rfl
       exact ⟨(congrArg (Value.bool) e2), hs2⟩
     · refine sk ?_
       refine bN ?_
       refine nN ?_
       refine rg ?_
       refine q trivial rfl rfl (mv (v := I ((k : Nat) : Int)) rfl) ?_
       refine q trivial rfl rfl (add (a := ((k : Nat) : Int)) (b := 1) rfl rfl (by exact ⟨by omega, by omega⟩)) ?_
       refine q trivial rfl rfl (asg (v := I (((k : Nat) : Int) + 1)) rfl) ?_
       refine nl ?_
       refine nN ?_
       refine ⟨(k + 1), ⟨⟨rfl, rfl, rfl, trivial⟩, (hl), (by omega), (take_succ_eq (by omega) (by omega) ha (by simpa using h3)), hs2⟩, ?_⟩
       omega
   · refine ex (tE (tE (bE ?_)))
     refine nN ?_
     refine sq ?_
     refine rg ?_
     refine q trivial rfl rfl (asg (v := .bool true) rfl) ?_
     refine nl ?_
     refine nN ?_
     refine rt ?_
     refine fret (v := .bool true) (.tmp .nil) rfl ?_
     have e3 : true = (decide (xs = bs)) := by simp; exact take_all_eq hl (by omega) ha
     exact ⟨(congrArg (Value.bool) e3), hs1⟩

theorem slIndexByte (l : List UInt8) (c : UInt8) (w : World)  : Does Tryd.prog 97 [Str l, .int .u8 ((c.toNat : Nat) : Int)] w (fun v w' => v = .int .i64 (idxB l c) ∧ SH w w' [] []) := by
 refine fn_enter (N := 8) Tryd.func97 rfl (by kernel_rfl) rfl rfl rfl ?_
 have hs0 : SH w w [] [] := SH.refl w []
 refine sq ?_
 refine rg ?_
 refine q trivial rfl rfl (asg (v := I 0) rfl) ?_
 refine nl ?_
 refine nN ?_
 refine sq ?_
 refine rg ?_
 refine q trivial rfl rfl (mv (v := Str l) rfl) ?_
 refine q trivial rfl rfl (mv (v := .int .u8 ((c.toNat : Nat) : Int)) rfl) ?_
 refine q trivial rfl rfl (ibs (l := l) (c := c) Tryd.func104 (by kernel_rfl) rfl (by kernel_rfl) (by kernel_rfl) rfl rfl) ?_
 refine q trivial rfl rfl (asg (v := I (idxB l c)) rfl) ?_
 refine nl ?_
 refine nN ?_
 refine rt ?_
 refine fret (v := I (idxB l c)) (.tmp .nil) rfl ?_
 exact ⟨rfl, hs0⟩

theorem stIndexByte (l : List UInt8) (c : UInt8) (w : World)  : Does Tryd.prog 89 [Str l, .int .u8 ((c.toNat : Nat) : Int)] w (fun v w' => v = .int .i64 (idxB l c) ∧ SH w w' [] []) := by
 refine fn_enter (N := 8) Tryd.func89 rfl (by kernel_rfl) rfl rfl rfl ?_
 have hs0 : SH w w [] [] := SH.refl w []
 refine sq ?_
 refine rg ?_
 refine q trivial rfl rfl (asg (v := I 0) rfl) ?_
 refine nl ?_
 refine nN ?_
 refine sq ?_
 refine rg ?_
 refine q trivial rfl rfl (mv (v := Str l) rfl) ?_
 refine q trivial rfl rfl (mv (v := .int .u8 ((c.toNat : Nat) : Int)) rfl) ?_
 refine cl trivial rfl (slIndexByte (l := l) (c := c) (w := _)) ?_
 rintro _ w1 ⟨rfl, hs1'⟩
 have hs1 : SH w w1 [] [] := hs0.call0 hs1'
 clear hs1'
 refine q trivial rfl rfl (asg (v := I (idxB l c)) rfl) ?_
 refine nl ?_
 refine nN ?_
 refine rt ?_
 refine fret (v := I (idxB l c)) (.tmp .nil) rfl ?_
 exact ⟨rfl, hs1⟩

theorem toIntS {Axs : Option Addr} {cxs : Nat} (xs : List Int) (w : World) (hxs : Sl w [] 1 Axs xs.length cxs (xs.map I)) (hxs_n : xs.length ≤ 1099511627776) : Does Tryd.prog 38 [.slice Axs xs.length cxs] w (fun v w' => ∃ Ar : Option Addr, ∃ cr : Nat, v = .slice Ar xs.length cr ∧ SH w w' [] [.own Ar xs.length cr 3 1 (xs.map I)]) := by
 refine fn_enter (N := 22) Tryd.func38 rfl (by kernel_rfl) rfl rfl rfl ?_
 have hs0 : SH w w [] [] := SH.refl w []
 have hxs_m : xs.length ≤ 9223372036854775807 := Nat.le_trans hxs.cap hxs.capMax
 refine sq ?_
 refine rg ?_
 refine q trivial rfl rfl (asg (v := ns) rfl) ?_
 refine nl ?_
 refine nN ?_
 refine sq ?_
 refine rg ?_
 refine q trivial rfl rfl (mv (v := .slice Axs xs.length cxs) rfl) ?_
 refine q trivial rfl rfl (lnA (n := xs.length) sl23 rfl) ?_
 refine mkm (g := I) (z := 0) (n := xs.length) hs0 sl23 rfl rfl rfl (by omega) (by unfold maxLen; omega) trivial rfl (fun b1 w1 (hs1 : SH w w1 [] [oI b1 (List.replicate xs.length (0 : Int)) xs.length 3]) => ?_)
 refine q trivial rfl rfl (asg (v := sb b1 ((List.replicate xs.length (0 : Int)).length) xs.length) rfl) ?_
 refine nl ?_
 refine nN ?_
 refine sq ?_
 refine sq ?_
 refine rg ?_
 refine q trivial rfl rfl (asg (v := I 0) rfl) ?_
 refine nl ?_
 refine nN ?_
 refine bl ?_
 have e1 : List.replicate xs.length (0 : Int) = xs.take 0 ++ List.replicate (xs.length - 0) (0 : Int) := by simp
 have e2 : (List.replicate xs.length (0 : Int)).length = xs.length := by first | rfl | (simp; done) | (simp; omega) | omega
 refine lp (σ := (Option Addr) × Nat × Nat) (fun ⟨Ag3, cg3, k⟩ f w' => Has f [(0, .slice Axs xs.length cxs), (3, .slice Ag3 xs.length cg3), (4, I ((k : Nat) : Int))] ∧ (k ≤ xs.length) ∧ SH w w' [] [.own Ag3 xs.length cg3 3 1 ((xs.take k ++ List.replicate (xs.length - k) (0 : Int)).map I)]) (fun ⟨Ag3, cg3, k⟩ => xs.length - k) ((some ⟨b1, 0, none⟩), xs.length, 0) ⟨⟨rfl, (show (.slice (some ⟨b1, 0, none⟩) ((List.replicate xs.length (0 : Int)).length) xs.length : Value) = .slice (some ⟨b1, 0, none⟩) xs.length xs.length from slv rfl e2 rfl), rfl, trivial⟩, (by simp), (hs1.cast (lc (own_eq (g := I) rfl e2 rfl e1) rfl))⟩ ?_
 rintro ⟨Ag3, cg3, k⟩ f w2 ⟨hf, hk, hs2⟩
 obtain ⟨g1, rfl⟩ := has_upd hf
 clear hf
 refine sq ?_
 refine sq ?_
 refine rg ?_
 refine q trivial rfl rfl (mv (v := I ((k : Nat) : Int)) rfl) ?_
 refine q trivial rfl rfl (mv (v := .slice Axs xs.length cxs) rfl) ?_
 refine q trivial rfl rfl (lnA (n := xs.length) sl23 rfl) ?_
 refine q trivial rfl rfl (lss (k := .i64) (a := ((k : Nat) : Int)) (b := ((xs.length : Nat) : Int)) rfl rfl) ?_
 refine nl ?_
 refine nN ?_
 refine cdd (p := ((k : Nat) : Int) < ((xs.length : Nat) : Int)) rfl (fun h1 => ?_) (fun h1 => ?_)
 · refine sk ?_
   refine nN ?_
   refine sq ?_
   refine bl ?_
   refine rg ?_
   refine q trivial rfl rfl (mv (v := .slice Ag3 xs.length cg3) rfl) ?_
   refine q trivial rfl rfl (mv (v := I ((k : Nat) : Int)) rfl) ?_
   refine q trivial rfl rfl (mv (v := .slice Axs xs.length cxs) rfl) ?_
   refine q trivial rfl rfl (mv (v := I ((k : Nat) : Int)) rfl) ?_
   refine ixw1 k sl23 rfl rfl hxs (by first | omega | (simp; done) | (simp; omega)) (getm I 0 (by first | omega | (simp; done) | (simp; omega))) trivial rfl (fun a1 ha1 => ?_)
   refine q trivial rfl rfl (lda (v := I (xs.getD k 0)) hs2 ha1 (fun _ h => h) rfl rfl one3) ?_
   obtain ⟨b2, rfl⟩ := own_form hs2 0 rfl (by first | omega | (simp; done) | (simp; omega))
   refine q trivial rfl rfl (ixo k sl23 rfl rfl (by first | omega | (simp; done) | (simp; omega))) ?_
   refine stomn (g := I) (ys := xs.take k ++ List.replicate (xs.length - k) (0 : Int)) (o := k) (u := xs.getD k 0) hs2 0 rfl rfl rfl rfl (by first | omega | (simp; done) | (simp; omega)) rfl one3 trivial (fun w3 (hs3 : SH w w3 [] [.own (some ⟨b2, 0, none⟩) xs.length cg3 3 1 (((xs.take k ++ List.replicate (xs.length - k) (0 : Int)).set k (xs.getD k 0)).map I)]) => ?_)
   refine nl ?_
   refine bN ?_
   refine nN ?_
   refine rg ?_
   refine q trivial rfl rfl (mv (v := I ((k : Nat) : Int)) rfl) ?_
   refine q trivial rfl rfl (add (a := ((k : Nat) : Int)) (b := 1) rfl rfl (by exact ⟨by omega, by omega⟩)) ?_
   refine q trivial rfl rfl (asg (v := I (((k : Nat) : Int) + 1)) rfl) ?_
   refine nl ?_
   refine nN ?_
   have e3 : (xs.take k ++ List.replicate (xs.length - k) (0 : Int)).set k (xs.getD k 0) = xs.take (k + 1) ++ List.replicate (xs.length - (k + 1)) (0 : Int) := by exact copy_set (by omega)
   refine ⟨((some ⟨b2, 0, none⟩), cg3, k + 1), ⟨⟨rfl, rfl, rfl, trivial⟩, (by omega), (hs3.cast (lc (own_eq (g := I) rfl rfl rfl e3) rfl))⟩, ?_⟩
   show xs.length - (k + 1) < xs.length - k
   omega
 · refine ex (tE (tE (bE ?_)))
   refine nN ?_
   refine sq ?_
   refine rg ?_
   refine q trivial rfl rfl (mv (v := .slice Ag3 xs.length cg3) rfl) ?_
   refine q trivial rfl rfl (asg (v := .slice Ag3 xs.length cg3) rfl) ?_
   refine nl ?_
   refine nN ?_
   refine rt ?_
   refine fret (v := .slice Ag3 xs.length cg3) (.tmp .nil) rfl ?_
   have e4 : xs.take k ++ List.replicate (xs.length - k) (0 : Int) = xs := by have : k = xs.length := (by omega); subst this; simp
   exact ⟨Ag3, cg3, rfl, (hs2.cast (lc (own_eq (g := I) rfl rfl rfl e4) rfl))⟩

theorem pick {rb : Nat} {Ab : Option Addr} {cb : Nat} {bs : List UInt8} {p : Nat} (n : Int) (w : World) (hr : w.heap[rb]? = some (.cells [.slice Ab bs.length cb, .int .i64 ((p : Nat) : Int)].toArray 74 (0, 0))) (hb : Sl w [rb] 1 Ab bs.length cb (bs.map U)) (hbn : bs.length ≤ 2000) (hp : p ≤ 1099511627776) : Does Tryd.prog 53 [pB rb, I n] w (fun v w' => ∃ r : Int, ∃ q : Nat, v = .int .i64 r ∧ (0 ≤ r ∧ (r < n ∨ r = 0)) ∧ (q ≤ p + 1) ∧ SH w w' [rb] [.blk rb 74 [.slice Ab bs.length cb, I ((q : Nat) : Int)]]) := by
 refine fn_enter (N := 99) Tryd.func53 rfl (by kernel_rfl) rfl rfl rfl ?_
 have hs0 : SH w w [rb] [.blk rb 74 [.slice Ab bs.length cb, I ((p : Nat) : Int)]] := SH.entry1 hr
 refine sq ?_
 refine rg ?_
 refine q trivial rfl rfl (asg (v := I 0) rfl) ?_
 refine nl ?_
 refine nN ?_
 refine sq ?_
 refine rg ?_
 refine q trivial rfl rfl (mv (v := pB rb) rfl) ?_
 refine q trivial rfl rfl (mv (v := pB rb) rfl) ?_
 refine q trivial rfl rfl (nc rfl) ?_
 refine q trivial rfl rfl (fa 1 fo74_1 rfl) ?_
 refine q trivial rfl rfl (ld (v := I ((p : Nat) : Int)) hs0 0 rfl rfl rfl one3) ?_
 refine q trivial rfl rfl (add (a := ((p : Nat) : Int)) (b := 1) rfl rfl (by have h1_ := u8_bd (bs.getD ((p + 1 - 1) % bs.length) 0); have h2_ := u8_bd (bs.getD (((p + 1 - 1) * 7 + 3) % bs.length) 0); have h3_ := div_bd (p + 1 - 1) bs.length; exact ⟨by omega, by omega⟩)) ?_
 refine q trivial rfl rfl (nc rfl) ?_
 refine q trivial rfl rfl (fa 1 fo74_1 rfl) ?_
 refine st (v := I (((p : Nat) : Int) + 1)) hs0 0 rfl rfl rfl rfl rfl one3 trivial (fun w1 (hs1 : SH w w1 [rb] [.blk rb 74 [.slice Ab bs.length cb, I (((p : Nat) : Int) + 1)]]) => ?_)
 refine nl ?_
 refine nN ?_
 refine sq ?_
 refine sq ?_
 refine rg ?_
 refine q trivial rfl rfl (mv (v := I n) rfl) ?_
 refine q trivial rfl rfl (lss (k := .i64) (a := n) (b := 1) rfl rfl) ?_
 refine q trivial rfl rfl (mv (v := .bool (decide (n < 1))) rfl) ?_
 refine spd (p := n < 1) 17 rfl (fun h1 => ?_) (fun h1 => ?_)
 · refine gk true rfl rfl rfl rfl rfl ?_
   refine gk true rfl rfl rfl rfl rfl ?_
   refine gk true rfl rfl rfl rfl rfl ?_
   refine gk true rfl rfl rfl rfl rfl ?_
   refine gk true rfl rfl rfl rfl rfl ?_
   refine gk true rfl rfl rfl rfl rfl ?_
   refine q trivial rfl rfl (pt (v := .bool true) rfl rfl) ?_
   refine nl ?_
   refine nN ?_
   refine cdt rfl ?_
   refine sq ?_
   refine rg ?_
   refine q trivial rfl rfl (asg (v := I 0) rfl) ?_
   refine nl ?_
   refine nN ?_
   refine rt (tR ?_)
   refine fret (v := I 0) (.tmp .nil) rfl ?_
   exact ⟨0, p + 1, rfl, (by simp), (by omega), hs1⟩
 · refine q ⟨_, rfl, rfl⟩ rfl rfl (mv (v := pB rb) rfl) ?_
   refine q ⟨_, rfl, rfl⟩ rfl rfl (nc rfl) ?_
   refine q ⟨_, rfl, rfl⟩ rfl rfl (fa 0 fo74_0 rfl) ?_
   refine q ⟨_, rfl, rfl⟩ rfl rfl (ld (v := .slice Ab bs.length cb) hs1 0 rfl rfl rfl one22) ?_
   refine q ⟨_, rfl, rfl⟩ rfl rfl (lnA (n := bs.length) sl22 rfl) ?_
   refine q ⟨_, rfl, rfl⟩ rfl rfl (eqi (k := .i64) (a := ((bs.length : Nat) : Int)) (b := 0) rfl rfl) ?_
   refine q trivial rfl rfl (pf (v := .bool (decide (((bs.length : Nat) : Int) = 0))) rfl rfl) ?_
   refine nl ?_
   refine nN ?_
   refine cdd (p := ((bs.length : Nat) : Int) = 0) rfl (fun h2 => ?_) (fun h2 => ?_)
   · refine sq ?_
     refine rg ?_
     refine q trivial rfl rfl (asg (v := I 0) rfl) ?_
     refine nl ?_
     refine nN ?_
     refine rt (tR ?_)
     refine fret (v := I 0) (.tmp .nil) rfl ?_
     exact ⟨0, p + 1, rfl, (by simp), (by omega), hs1⟩
   · refine sk ?_
     refine nN ?_
     refine sq ?_
     refine rg ?_
     refine q trivial rfl rfl (mv (v := pB rb) rfl) ?_
     refine q trivial rfl rfl (nc rfl) ?_
     refine q trivial rfl rfl (fa 1 fo74_1 rfl) ?_
     refine q trivial rfl rfl (ld (v := I (((p : Nat) : Int) + 1)) hs1 0 rfl rfl rfl one3) ?_
     refine q trivial rfl rfl (subN (a := p + 1) (b := 1) rfl rfl (by omega) (by omega)) ?_
     refine q trivial rfl rfl (asg (v := I (((p + 1) - 1 : Nat) : Int)) rfl) ?_
     refine nl ?_
     refine nN ?_
     refine sq ?_
     refine sq ?_
     refine rg ?_
     refine q trivial rfl rfl (mv (v := I (((p + 1) - 1 : Nat) : Int)) rfl) ?_
     refine q trivial rfl rfl (mv (v := pB rb) rfl) ?_
     refine q trivial rfl rfl (nc rfl) ?_
     refine q trivial rfl rfl (fa 0 fo74_0 rfl) ?_
     refine q trivial rfl rfl (ld (v := .slice Ab bs.length cb) hs1 0 rfl rfl rfl one22) ?_
     refine q trivial rfl rfl (lnA (n := bs.length) sl22 rfl) ?_
     refine q trivial rfl rfl (lss (k := .i64) (a := (((p + 1) - 1 : Nat) : Int)) (b := ((bs.length : Nat) : Int)) rfl rfl) ?_
     refine nl ?_
     refine nN ?_
     refine cdd (p := (((p + 1) - 1 : Nat) : Int) < ((bs.length : Nat) : Int)) rfl (fun h3 => ?_) (fun h3 => ?_)
     · refine sq ?_
       refine rg ?_
       refine q trivial rfl rfl (mv (v := pB rb) rfl) ?_
       refine q trivial rfl rfl (nc rfl) ?_
       refine q trivial rfl rfl (fa 0 fo74_0 rfl) ?_
       refine q trivial rfl rfl (ld (v := .slice Ab bs.length cb) hs1 0 rfl rfl rfl one22) ?_
       refine q trivial rfl rfl (mv (v := I (((p + 1) - 1 : Nat) : Int)) rfl) ?_
       refine ixw1 ((p + 1) - 1) sl22 rfl rfl hb (by first | omega | exact Nat.mod_lt _ (by omega)) (getm U 0 (by first | omega | exact Nat.mod_lt _ (by omega))) trivial rfl (fun a1 ha1 => ?_)
       refine q trivial rfl rfl (lda (v := .int .u8 (((bs.getD ((p + 1) - 1) 0).toNat : Nat) : Int)) hs1 ha1 (fun _ h => h) rfl rfl one5) ?_
       refine q trivial rfl rfl (cvI (a := (((bs.getD ((p + 1) - 1) 0).toNat : Nat) : Int)) (s := .u8) ti5 ti3 rfl (by have := u8_bd ((bs.getD ((p + 1) - 1) 0)); exact ⟨by omega, by omega⟩)) ?_
       refine q trivial rfl rfl (mv (v := I n) rfl) ?_
       refine q trivial rfl rfl (rem (a := (((bs.getD ((p + 1) - 1) 0).toNat : Nat) : Int)) (b := n) rfl rfl (by have h1_ := u8_bd (bs.getD ((p + 1 - 1) % bs.length) 0); have h2_ := u8_bd (bs.getD (((p + 1 - 1) * 7 + 3) % bs.length) 0); have h3_ := div_bd (p + 1 - 1) bs.length; omega) (by omega)) ?_
       refine q trivial rfl rfl (asg (v := I ((((bs.getD ((p + 1) - 1) 0).toNat : Nat) : Int) % n)) rfl) ?_
       refine nl ?_
       refine nN ?_
       refine rt (tR ?_)
       refine fret (v := I ((((bs.getD ((p + 1) - 1) 0).toNat : Nat) : Int) % n)) (.tmp .nil) rfl ?_
       exact ⟨(((bs.getD ((p + 1) - 1) 0).toNat : Nat) : Int) % n, p + 1, rfl, (mod_pos (by omega)), (by omega), hs1⟩
     · refine sk ?_
       refine nN ?_
       refine sq ?_
       refine rq (fun w' => SH w w' [rb] [.blk rb 74 [.slice Ab bs.length cb, I (((p : Nat) : Int) + 1)]]) mixed (by kernel_rfl) hs1.drew ?_
       refine qq trivial rfl rfl (fun wq hsq => mv (v := pB rb) rfl) ?_
       refine qq trivial rfl rfl (fun wq hsq => nc rfl) ?_
       refine qq trivial rfl rfl (fun wq hsq => fa 0 fo74_0 rfl) ?_
       refine qq trivial rfl rfl (fun wq hsq => ld (v := .slice Ab bs.length cb) hsq 0 rfl rfl rfl one22) ?_
       refine qq trivial rfl rfl (fun wq hsq => mv (v := I (((p + 1) - 1 : Nat) : Int)) rfl) ?_
       refine qq trivial rfl rfl (fun wq hsq => mv (v := pB rb) rfl) ?_
       refine qq trivial rfl rfl (fun wq hsq => nc rfl) ?_
       refine qq trivial rfl rfl (fun wq hsq => fa 0 fo74_0 rfl) ?_
       refine qq trivial rfl rfl (fun wq hsq => ld (v := .slice Ab bs.length cb) hsq 0 rfl rfl rfl one22) ?_
       refine qq trivial rfl rfl (fun wq hsq => lnA (n := bs.length) sl22 rfl) ?_
       refine qq trivial rfl rfl (fun wq hsq => rem (a := (((p + 1) - 1 : Nat) : Int)) (b := ((bs.length : Nat) : Int)) rfl rfl (by have h1_ := u8_bd (bs.getD ((p + 1 - 1) % bs.length) 0); have h2_ := u8_bd (bs.getD (((p + 1 - 1) * 7 + 3) % bs.length) 0); have h3_ := div_bd (p + 1 - 1) bs.length; omega) (by omega)) ?_
       refine ixq1 (((p + 1) - 1) % bs.length) sl22 rfl rfl hb (by first | omega | exact Nat.mod_lt _ (by omega)) (getm U 0 (by first | omega | exact Nat.mod_lt _ (by omega))) trivial rfl (fun a2 ha2 => ?_)
       refine qq trivial rfl rfl (fun wq hsq => lda (v := .int .u8 (((bs.getD (((p + 1) - 1) % bs.length) 0).toNat : Nat) : Int)) hsq ha2 (fun _ h => h) rfl rfl one5) ?_
       refine qq trivial rfl rfl (fun wq hsq => cvI (a := (((bs.getD (((p + 1) - 1) % bs.length) 0).toNat : Nat) : Int)) (s := .u8) ti5 ti3 rfl (by have := u8_bd ((bs.getD (((p + 1) - 1) % bs.length) 0)); exact ⟨by omega, by omega⟩)) ?_
       refine qq trivial rfl rfl (fun wq hsq => mul (a := (((bs.getD (((p + 1) - 1) % bs.length) 0).toNat : Nat) : Int)) (b := 131) rfl rfl (by have h1_ := u8_bd (bs.getD ((p + 1 - 1) % bs.length) 0); have h2_ := u8_bd (bs.getD (((p + 1 - 1) * 7 + 3) % bs.length) 0); have h3_ := div_bd (p + 1 - 1) bs.length; exact ⟨by omega, by omega⟩)) ?_
       refine qq trivial rfl rfl (fun wq hsq => mv (v := pB rb) rfl) ?_
       refine qq trivial rfl rfl (fun wq hsq => nc rfl) ?_
       refine qq trivial rfl rfl (fun wq hsq => fa 0 fo74_0 rfl) ?_
       refine qq trivial rfl rfl (fun wq hsq => ld (v := .slice Ab bs.length cb) hsq 0 rfl rfl rfl one22) ?_
       refine qq trivial rfl rfl (fun wq hsq => mv (v := I (((p + 1) - 1 : Nat) : Int)) rfl) ?_
       refine qq trivial rfl rfl (fun wq hsq => mul (a := (((p + 1) - 1 : Nat) : Int)) (b := 7) rfl rfl (by have h1_ := u8_bd (bs.getD ((p + 1 - 1) % bs.length) 0); have h2_ := u8_bd (bs.getD (((p + 1 - 1) * 7 + 3) % bs.length) 0); have h3_ := div_bd (p + 1 - 1) bs.length; exact ⟨by omega, by omega⟩)) ?_
       refine qq trivial rfl rfl (fun wq hsq => add (a := (((p + 1) - 1 : Nat) : Int) * 7) (b := 3) rfl rfl (by have h1_ := u8_bd (bs.getD ((p + 1 - 1) % bs.length) 0); have h2_ := u8_bd (bs.getD (((p + 1 - 1) * 7 + 3) % bs.length) 0); have h3_ := div_bd (p + 1 - 1) bs.length; exact ⟨by omega, by omega⟩)) ?_
       refine qq trivial rfl rfl (fun wq hsq => mv (v := pB rb) rfl) ?_
       refine qq trivial rfl rfl (fun wq hsq => nc rfl) ?_
       refine qq trivial rfl rfl (fun wq hsq => fa 0 fo74_0 rfl) ?_
       refine qq trivial rfl rfl (fun wq hsq => ld (v := .slice Ab bs.length cb) hsq 0 rfl rfl rfl one22) ?_
       refine qq trivial rfl rfl (fun wq hsq => lnA (n := bs.length) sl22 rfl) ?_
       refine qq trivial rfl rfl (fun wq hsq => rem (a := ((((p + 1) - 1 : Nat) : Int) * 7) + 3) (b := ((bs.length : Nat) : Int)) rfl rfl (by have h1_ := u8_bd (bs.getD ((p + 1 - 1) % bs.length) 0); have h2_ := u8_bd (bs.getD (((p + 1 - 1) * 7 + 3) % bs.length) 0); have h3_ := div_bd (p + 1 - 1) bs.length; omega) (by omega)) ?_
       refine ixq1 (((((p + 1) - 1) * 7) + 3) % bs.length) sl22 rfl rfl hb (by first | omega | exact Nat.mod_lt _ (by omega)) (getm U 0 (by first | omega | exact Nat.mod_lt _ (by omega))) trivial rfl (fun a3 ha3 => ?_)
       refine qq trivial rfl rfl (fun wq hsq => lda (v := .int .u8 (((bs.getD (((((p + 1) - 1) * 7) + 3) % bs.length) 0).toNat : Nat) : Int)) hsq ha3 (fun _ h => h) rfl rfl one5) ?_
       refine qq trivial rfl rfl (fun wq hsq => cvI (a := (((bs.getD (((((p + 1) - 1) * 7) + 3) % bs.length) 0).toNat : Nat) : Int)) (s := .u8) ti5 ti3 rfl (by have := u8_bd ((bs.getD (((((p + 1) - 1) * 7) + 3) % bs.length) 0)); exact ⟨by omega, by omega⟩)) ?_
       refine qq trivial rfl rfl (fun wq hsq => mul (a := (((bs.getD (((((p + 1) - 1) * 7) + 3) % bs.length) 0).toNat : Nat) : Int)) (b := 1117) rfl rfl (by have h1_ := u8_bd (bs.getD ((p + 1 - 1) % bs.length) 0); have h2_ := u8_bd (bs.getD (((p + 1 - 1) * 7 + 3) % bs.length) 0); have h3_ := div_bd (p + 1 - 1) bs.length; exact ⟨by omega, by omega⟩)) ?_
       refine qq trivial rfl rfl (fun wq hsq => add (a := (((bs.getD (((p + 1) - 1) % bs.length) 0).toNat : Nat) : Int) * 131) (b := (((bs.getD (((((p + 1) - 1) * 7) + 3) % bs.length) 0).toNat : Nat) : Int) * 1117) rfl rfl (by have h1_ := u8_bd (bs.getD ((p + 1 - 1) % bs.length) 0); have h2_ := u8_bd (bs.getD (((p + 1 - 1) * 7 + 3) % bs.length) 0); have h3_ := div_bd (p + 1 - 1) bs.length; exact ⟨by omega, by omega⟩)) ?_
       refine qq trivial rfl rfl (fun wq hsq => mv (v := I (((p + 1) - 1 : Nat) : Int)) rfl) ?_
       refine qq trivial rfl rfl (fun wq hsq => mul (a := (((p + 1) - 1 : Nat) : Int)) (b := 29) rfl rfl (by have h1_ := u8_bd (bs.getD ((p + 1 - 1) % bs.length) 0); have h2_ := u8_bd (bs.getD (((p + 1 - 1) * 7 + 3) % bs.length) 0); have h3_ := div_bd (p + 1 - 1) bs.length; exact ⟨by omega, by omega⟩)) ?_
       refine qq trivial rfl rfl (fun wq hsq => add (a := ((((bs.getD (((p + 1) - 1) % bs.length) 0).toNat : Nat) : Int) * 131) + ((((bs.getD (((((p + 1) - 1) * 7) + 3) % bs.length) 0).toNat : Nat) : Int) * 1117)) (b := (((p + 1) - 1 : Nat) : Int) * 29) rfl rfl (by have h1_ := u8_bd (bs.getD ((p + 1 - 1) % bs.length) 0); have h2_ := u8_bd (bs.getD (((p + 1 - 1) * 7 + 3) % bs.length) 0); have h3_ := div_bd (p + 1 - 1) bs.length; exact ⟨by omega, by omega⟩)) ?_
       refine qq trivial rfl rfl (fun wq hsq => mv (v := I (((p + 1) - 1 : Nat) : Int)) rfl) ?_
       refine qq trivial rfl rfl (fun wq hsq => mv (v := pB rb) rfl) ?_
       refine qq trivial rfl rfl (fun wq hsq => nc rfl) ?_
       refine qq trivial rfl rfl (fun wq hsq => fa 0 fo74_0 rfl) ?_
       refine qq trivial rfl rfl (fun wq hsq => ld (v := .slice Ab bs.length cb) hsq 0 rfl rfl rfl one22) ?_
       refine qq trivial rfl rfl (fun wq hsq => lnA (n := bs.length) sl22 rfl) ?_
       refine qq trivial rfl rfl (fun wq hsq => quo (a := (((p + 1) - 1 : Nat) : Int)) (b := ((bs.length : Nat) : Int)) rfl rfl (by have h1_ := u8_bd (bs.getD ((p + 1 - 1) % bs.length) 0); have h2_ := u8_bd (bs.getD (((p + 1 - 1) * 7 + 3) % bs.length) 0); have h3_ := div_bd (p + 1 - 1) bs.length; omega) (by have h1_ := u8_bd (bs.getD ((p + 1 - 1) % bs.length) 0); have h2_ := u8_bd (bs.getD (((p + 1 - 1) * 7 + 3) % bs.length) 0); have h3_ := div_bd (p + 1 - 1) bs.length; omega) (by have h1_ := u8_bd (bs.getD ((p + 1 - 1) % bs.length) 0); have h2_ := u8_bd (bs.getD (((p + 1 - 1) * 7 + 3) % bs.length) 0); have h3_ := div_bd (p + 1 - 1) bs.length; omega)) ?_
       refine qq trivial rfl rfl (fun wq hsq => mul (a := (((p + 1) - 1 : Nat) : Int) / ((bs.length : Nat) : Int)) (b := 53) rfl rfl (by have h1_ := u8_bd (bs.getD ((p + 1 - 1) % bs.length) 0); have h2_ := u8_bd (bs.getD (((p + 1 - 1) * 7 + 3) % bs.length) 0); have h3_ := div_bd (p + 1 - 1) bs.length; exact ⟨by omega, by omega⟩)) ?_
       refine qq trivial rfl rfl (fun wq hsq => add (a := (((((bs.getD (((p + 1) - 1) % bs.length) 0).toNat : Nat) : Int) * 131) + ((((bs.getD (((((p + 1) - 1) * 7) + 3) % bs.length) 0).toNat : Nat) : Int) * 1117)) + ((((p + 1) - 1 : Nat) : Int) * 29)) (b := ((((p + 1) - 1 : Nat) : Int) / ((bs.length : Nat) : Int)) * 53) rfl rfl (by have h1_ := u8_bd (bs.getD ((p + 1 - 1) % bs.length) 0); have h2_ := u8_bd (bs.getD (((p + 1 - 1) * 7 + 3) % bs.length) 0); have h3_ := div_bd (p + 1 - 1) bs.length; exact ⟨by omega, by omega⟩)) ?_
       refine qq trivial rfl rfl (fun wq hsq => asg (v := I (((((((bs.getD (((p + 1) - 1) % bs.length) 0).toNat : Nat) : Int) * 131) + ((((bs.getD (((((p + 1) - 1) * 7) + 3) % bs.length) 0).toNat : Nat) : Int) * 1117)) + ((((p + 1) - 1 : Nat) : Int) * 29)) + (((((p + 1) - 1 : Nat) : Int) / ((bs.length : Nat) : Int)) * 53))) rfl) ?_
       refine qn (fun w2 hs2 => ?_)
       refine nN ?_
       refine sq ?_
       refine rg ?_
       refine q trivial rfl rfl (mv (v := I (((((((bs.getD (((p + 1) - 1) % bs.length) 0).toNat : Nat) : Int) * 131) + ((((bs.getD (((((p + 1) - 1) * 7) + 3) % bs.length) 0).toNat : Nat) : Int) * 1117)) + ((((p + 1) - 1 : Nat) : Int) * 29)) + (((((p + 1) - 1 : Nat) : Int) / ((bs.length : Nat) : Int)) * 53))) rfl) ?_
       refine q trivial rfl rfl (mv (v := I (((((((bs.getD (((p + 1) - 1) % bs.length) 0).toNat : Nat) : Int) * 131) + ((((bs.getD (((((p + 1) - 1) * 7) + 3) % bs.length) 0).toNat : Nat) : Int) * 1117)) + ((((p + 1) - 1 : Nat) : Int) * 29)) + (((((p + 1) - 1 : Nat) : Int) / ((bs.length : Nat) : Int)) * 53))) rfl) ?_
       refine q trivial rfl rfl (quo (a := ((((((bs.getD (((p + 1) - 1) % bs.length) 0).toNat : Nat) : Int) * 131) + ((((bs.getD (((((p + 1) - 1) * 7) + 3) % bs.length) 0).toNat : Nat) : Int) * 1117)) + ((((p + 1) - 1 : Nat) : Int) * 29)) + (((((p + 1) - 1 : Nat) : Int) / ((bs.length : Nat) : Int)) * 53)) (b := 64) rfl rfl (by have h1_ := u8_bd (bs.getD ((p + 1 - 1) % bs.length) 0); have h2_ := u8_bd (bs.getD (((p + 1 - 1) * 7 + 3) % bs.length) 0); have h3_ := div_bd (p + 1 - 1) bs.length; omega) (by have h1_ := u8_bd (bs.getD ((p + 1 - 1) % bs.length) 0); have h2_ := u8_bd (bs.getD (((p + 1 - 1) * 7 + 3) % bs.length) 0); have h3_ := div_bd (p + 1 - 1) bs.length; omega) (by have h1_ := u8_bd (bs.getD ((p + 1 - 1) % bs.length) 0); have h2_ := u8_bd (bs.getD (((p + 1 - 1) * 7 + 3) % bs.length) 0); have h3_ := div_bd (p + 1 - 1) bs.length; omega)) ?_
       refine q trivial rfl rfl (xr (a := (((((bs.getD (((p + 1) - 1) % bs.length) 0).toNat) * 131) + (((bs.getD (((((p + 1) - 1) * 7) + 3) % bs.length) 0).toNat) * 1117)) + (((p + 1) - 1) * 29)) + ((((p + 1) - 1) / bs.length) * 53)) (b := ((((((bs.getD (((p + 1) - 1) % bs.length) 0).toNat) * 131) + (((bs.getD (((((p + 1) - 1) * 7) + 3) % bs.length) 0).toNat) * 1117)) + (((p + 1) - 1) * 29)) + ((((p + 1) - 1) / bs.length) * 53)) / 64) rfl rfl (by have h1_ := u8_bd (bs.getD ((p + 1 - 1) % bs.length) 0); have h2_ := u8_bd (bs.getD (((p + 1 - 1) * 7 + 3) % bs.length) 0); have h3_ := div_bd (p + 1 - 1) bs.length; omega) (by have h1_ := u8_bd (bs.getD ((p + 1 - 1) % bs.length) 0); have h2_ := u8_bd (bs.getD (((p + 1 - 1) * 7 + 3) % bs.length) 0); have h3_ := div_bd (p + 1 - 1) bs.length; omega)) ?_
       refine q trivial rfl rfl (asg (v := I ((((((((bs.getD (((p + 1) - 1) % bs.length) 0).toNat) * 131) + (((bs.getD (((((p + 1) - 1) * 7) + 3) % bs.length) 0).toNat) * 1117)) + (((p + 1) - 1) * 29)) + ((((p + 1) - 1) / bs.length) * 53)) ^^^ (((((((bs.getD (((p + 1) - 1) % bs.length) 0).toNat) * 131) + (((bs.getD (((((p + 1) - 1) * 7) + 3) % bs.length) 0).toNat) * 1117)) + (((p + 1) - 1) * 29)) + ((((p + 1) - 1) / bs.length) * 53)) / 64) : Nat) : Int)) rfl) ?_
       refine nl ?_
       refine nN ?_
       refine sq ?_
       refine rg ?_
       refine q trivial rfl rfl (mv (v := I ((((((((bs.getD (((p + 1) - 1) % bs.length) 0).toNat) * 131) + (((bs.getD (((((p + 1) - 1) * 7) + 3) % bs.length) 0).toNat) * 1117)) + (((p + 1) - 1) * 29)) + ((((p + 1) - 1) / bs.length) * 53)) ^^^ (((((((bs.getD (((p + 1) - 1) % bs.length) 0).toNat) * 131) + (((bs.getD (((((p + 1) - 1) * 7) + 3) % bs.length) 0).toNat) * 1117)) + (((p + 1) - 1) * 29)) + ((((p + 1) - 1) / bs.length) * 53)) / 64) : Nat) : Int)) rfl) ?_
       refine q trivial rfl rfl (mv (v := I n) rfl) ?_
       refine q trivial rfl rfl (rem (a := ((((((((bs.getD (((p + 1) - 1) % bs.length) 0).toNat) * 131) + (((bs.getD (((((p + 1) - 1) * 7) + 3) % bs.length) 0).toNat) * 1117)) + (((p + 1) - 1) * 29)) + ((((p + 1) - 1) / bs.length) * 53)) ^^^ (((((((bs.getD (((p + 1) - 1) % bs.length) 0).toNat) * 131) + (((bs.getD (((((p + 1) - 1) * 7) + 3) % bs.length) 0).toNat) * 1117)) + (((p + 1) - 1) * 29)) + ((((p + 1) - 1) / bs.length) * 53)) / 64) : Nat) : Int)) (b := n) rfl rfl (by have h1_ := u8_bd (bs.getD ((p + 1 - 1) % bs.length) 0); have h2_ := u8_bd (bs.getD (((p + 1 - 1) * 7 + 3) % bs.length) 0); have h3_ := div_bd (p + 1 - 1) bs.length; omega) (by omega)) ?_
       refine q trivial rfl rfl (asg (v := I (((((((((bs.getD (((p + 1) - 1) % bs.length) 0).toNat) * 131) + (((bs.getD (((((p + 1) - 1) * 7) + 3) % bs.length) 0).toNat) * 1117)) + (((p + 1) - 1) * 29)) + ((((p + 1) - 1) / bs.length) * 53)) ^^^ (((((((bs.getD (((p + 1) - 1) % bs.length) 0).toNat) * 131) + (((bs.getD (((((p + 1) - 1) * 7) + 3) % bs.length) 0).toNat) * 1117)) + (((p + 1) - 1) * 29)) + ((((p + 1) - 1) / bs.length) * 53)) / 64) : Nat) : Int) % n)) rfl) ?_
       refine nl ?_
       refine nN ?_
       refine rt ?_
       refine fret (v := I (((((((((bs.getD (((p + 1) - 1) % bs.length) 0).toNat) * 131) + (((bs.getD (((((p + 1) - 1) * 7) + 3) % bs.length) 0).toNat) * 1117)) + (((p + 1) - 1) * 29)) + ((((p + 1) - 1) / bs.length) * 53)) ^^^ (((((((bs.getD (((p + 1) - 1) % bs.length) 0).toNat) * 131) + (((bs.getD (((((p + 1) - 1) * 7) + 3) % bs.length) 0).toNat) * 1117)) + (((p + 1) - 1) * 29)) + ((((p + 1) - 1) / bs.length) * 53)) / 64) : Nat) : Int) % n)) (.tmp .nil) rfl ?_
       exact ⟨((((((((bs.getD (((p + 1) - 1) % bs.length) 0).toNat) * 131) + (((bs.getD (((((p + 1) - 1) * 7) + 3) % bs.length) 0).toNat) * 1117)) + (((p + 1) - 1) * 29)) + ((((p + 1) - 1) / bs.length) * 53)) ^^^ (((((((bs.getD (((p + 1) - 1) % bs.length) 0).toNat) * 131) + (((bs.getD (((((p + 1) - 1) * 7) + 3) % bs.length) 0).toNat) * 1117)) + (((p + 1) - 1) * 29)) + ((((p + 1) - 1) / bs.length) * 53)) / 64) : Nat) : Int) % n, p + 1, rfl, (mod_pos (by omega)), (by omega), hs2⟩

theorem l6Open {Acs : Option Addr} {ccs : Nat} (cs : List UInt8) (w : World) (hcs : Sl w [] 1 Acs cs.length ccs (cs.map U)) : Does Tryd.prog 26 [.slice Acs cs.length ccs] w (fun v w' => ∃ gr : Nat, v = .pointer (some ⟨gr, 0, none⟩) ∧ SH w w' [] [.blk gr 74 [.slice Acs ((cs.take 2000).length) ccs, I 0]]) := by
 refine fn_enter (N := 11) Tryd.func26 rfl (by kernel_rfl) rfl rfl rfl ?_
 have hs0 : SH w w [] [] := SH.refl w []
 have hcs_m : cs.length ≤ 9223372036854775807 := Nat.le_trans hcs.cap hcs.capMax
 refine sq ?_
 refine rg ?_
 refine q trivial rfl rfl (asg (v := .pointer none) rfl) ?_
 refine nl ?_
 refine nN ?_
 refine sq ?_
 refine sq ?_
 refine rg ?_
 refine q trivial rfl rfl (mv (v := .slice Acs cs.length ccs) rfl) ?_
 refine q trivial rfl rfl (lnA (n := cs.length) sl22 rfl) ?_
 refine q trivial rfl rfl (gtr (k := .i64) (a := ((cs.length : Nat) : Int)) (b := 2000) rfl rfl) ?_
 refine nl ?_
 refine nN ?_
 refine cdd (p := (2000 : Int) < ((cs.length : Nat) : Int)) rfl (fun h1 => ?_) (fun h1 => ?_)
 · refine rg ?_
   refine q trivial rfl rfl (mv (v := .slice Acs cs.length ccs) rfl) ?_
   refine q trivial rfl rfl (cuhm_ (zs := cs) 2000 sl22 rfl rfl (by first | omega | (simp; done) | (simp; omega)) hcs.cap) ?_
   refine q trivial rfl rfl (asg (v := .slice Acs ((cs.take 2000).length) ccs) rfl) ?_
   refine nl ?_
   refine nN ?_
   refine sq ?_
   refine rg ?_
   refine q trivial rfl rfl (mv (v := .slice Acs ((cs.take 2000).length) ccs) rfl) ?_
   refine q trivial rfl rfl (bdv (v := .agg #[.slice Acs ((cs.take 2000).length) ccs, I 0]) [(0, .slice Acs ((cs.take 2000).length) ccs)] rfl (fun _ => by kernel_rfl)) ?_
   refine bx (v := .agg #[.slice Acs ((cs.take 2000).length) ccs, I 0]) (cs := [.slice Acs ((cs.take 2000).length) ccs, I 0]) hs0 rfl rfl trivial rfl (fun b1 w1 (hs1 : SH w w1 [] [.blk b1 74 [.slice Acs ((cs.take 2000).length) ccs, I 0]]) => ?_)
   refine q trivial rfl rfl (asg (v := pB b1) rfl) ?_
   refine nl ?_
   refine nN ?_
   refine rt ?_
   refine fret (v := pB b1) (.tmp .nil) rfl ?_
   exact ⟨b1, rfl, hs1⟩
 · refine sk ?_
   refine nN ?_
   refine sq ?_
   refine rg ?_
   refine q trivial rfl rfl (mv (v := .slice Acs cs.length ccs) rfl) ?_
   refine q trivial rfl rfl (bdv (v := .agg #[.slice Acs cs.length ccs, I 0]) [(0, .slice Acs cs.length ccs)] rfl (fun _ => by kernel_rfl)) ?_
   refine bx (v := .agg #[.slice Acs cs.length ccs, I 0]) (cs := [.slice Acs cs.length ccs, I 0]) hs0 rfl rfl trivial rfl (fun b2 w2 (hs2 : SH w w2 [] [.blk b2 74 [.slice Acs cs.length ccs, I 0]]) => ?_)
   refine q trivial rfl rfl (asg (v := pB b2) rfl) ?_
   refine nl ?_
   refine nN ?_
   refine rt ?_
   refine fret (v := pB b2) (.tmp .nil) rfl ?_
   have e1 : cs.length = (cs.take 2000).length := by rw [List.take_of_length_le (by omega)]
   exact ⟨b2, rfl, (hs2.cast (lc (congrArg (It.blk b2 74) (lc (slv rfl e1 rfl) (lc rfl rfl))) rfl))⟩

theorem rdOf {rb : Nat} {Ab : Option Addr} {cb : Nat} {bs : List UInt8} {p : Nat} {Ass : Option Addr} {css : Nat} (ss : List (List UInt8)) (w : World) (hr : w.heap[rb]? = some (.cells [.slice Ab bs.length cb, .int .i64 ((p : Nat) : Int)].toArray 74 (0, 0))) (hb : Sl w [rb] 1 Ab bs.length cb (bs.map U)) (hbn : bs.length ≤ 2000) (hp : p ≤ 549755813888) (hss : Sl w [rb] 1 Ass ss.length css (ss.map Str)) (hne : 0 < ss.length) : Does Tryd.prog 71 [pB rb, .slice Ass ss.length css] w (fun v w' => ∃ s : List UInt8, ∃ q : Nat, v = Str s ∧ (s ∈ ss) ∧ (q ≤ p + 1) ∧ SH w w' [rb] [.blk rb 74 [.slice Ab bs.length cb, I ((q : Nat) : Int)]]) := by
 refine fn_enter (N := 12) Tryd.func71 rfl (by kernel_rfl) rfl rfl rfl ?_
 have hs0 : SH w w [rb] [.blk rb 74 [.slice Ab bs.length cb, I ((p : Nat) : Int)]] := SH.entry1 hr
 have hss_m : ss.length ≤ 9223372036854775807 := Nat.le_trans hss.cap hss.capMax
 refine sq ?_
 refine rg ?_
 refine q trivial rfl rfl (asg (v := Str []) rfl) ?_
 refine nl ?_
 refine nN ?_
 refine sq ?_
 refine rg ?_
 refine q trivial rfl rfl (mv (v := .slice Ass ss.length css) rfl) ?_
 refine q trivial rfl rfl (mv (v := pB rb) rfl) ?_
 refine q trivial rfl rfl (mv (v := .slice Ass ss.length css) rfl) ?_
 refine q trivial rfl rfl (lnA (n := ss.length) sl77 rfl) ?_
 refine cl trivial rfl (pick (rb := rb) (Ab := Ab) (cb := cb) (bs := bs) (p := p) (n := ((ss.length : Nat) : Int)) (w := _) (hr := (blk_heap hs0 0 rfl)) (hb := (hb.up hs0 (fun _ h => h) (fun _ h => .inl h))) (hbn := (by first | assumption | (simp; omega))) (hp := (by omega))) ?_
 rintro _ w1 ⟨r1, q1, rfl, p1, p2, hs1'⟩
 have hs1 : SH w w1 [rb] [.blk rb 74 [.slice Ab bs.length cb, I ((q1 : Nat) : Int)]] := hs0.callM 0 rfl hs1' (by intro k hk; simp at hk; exact hk.symm)
 clear hs1'
 refine ixw1 r1.toNat sl77 rfl (ieq (x := r1) (by omega)) hss (by first | omega | (simp; done) | (simp; omega)) (getm Str [] (by first | omega | (simp; done) | (simp; omega))) trivial rfl (fun a1 ha1 => ?_)
 refine q trivial rfl rfl (lda (v := Str (ss.getD r1.toNat [])) hs1 ha1 (fun _ h => h) rfl rfl one9) ?_
 refine q trivial rfl rfl (asg (v := Str (ss.getD r1.toNat [])) rfl) ?_
 refine nl ?_
 refine nN ?_
 refine rt ?_
 refine fret (v := Str (ss.getD r1.toNat [])) (.tmp .nil) rfl ?_
 exact ⟨ss.getD r1.toNat [], q1, rfl, (getD_mem (by omega)), (by omega), hs1⟩

theorem bStringN {bb : Nat} {pb : Option Addr} (w : World) (hbd : w.heap[bb]? = some (.cells [.pointer pb, .slice none 0 0].toArray 102 (0, 0))) : Does Tryd.prog 107 [pB bb] w (fun v w' => v = Str [] ∧ SH w w' [bb] []) := by
 refine fn_enter (N := 14) Tryd.func107 rfl (by kernel_rfl) rfl rfl rfl ?_
 have hs0 : SH w w [bb] [.blk bb 102 [.pointer pb, ns]] := SH.entry1 hbd
 refine sq ?_
 refine rg ?_
 refine q trivial rfl rfl (asg (v := Str []) rfl) ?_
 refine nl ?_
 refine nN ?_
 refine sq ?_
 refine ra (fun w' => ∃ L, SH w w' [bb] L ∧ (.blk bb 102 [.pointer pb, ns]) ∈ L ∧ True) mixed ?_
 have hs1 := hs0.drew
 refine tk (fuel := 2) (is := [0, 1, 2, 3, 4, 5, 6, 7, 8, 9]) (.cons rfl (.cons rfl (.cons rfl (.cons rfl (.cons rfl (.cons rfl (.cons rfl (.cons rfl (.cons rfl (.cons rfl (.nil))))))))))) (by kernel_rfl) (by kernel_rfl) ⟨_, hs1, memi 0 rfl, trivial⟩ ?_
 refine .op trivial rfl rfl (fun wq _ => mv (v := pB bb) rfl) ?_
 refine .op trivial rfl rfl (fun wq _ => nc rfl) ?_
 refine .op trivial rfl rfl (fun wq _ => fa 1 fo102_1 rfl) ?_
 refine .op trivial rfl rfl (fun wq ⟨Lq, hsq, mh0, _⟩ => ldm (v := ns) hsq mh0 rfl rfl one22) ?_
 refine .op trivial rfl rfl (fun wq _ => usd0 rfl) ?_
 refine .op trivial rfl rfl (fun wq _ => mv (v := pB bb) rfl) ?_
 refine .op trivial rfl rfl (fun wq _ => nc rfl) ?_
 refine .op trivial rfl rfl (fun wq _ => fa 1 fo102_1 rfl) ?_
 refine .op trivial rfl rfl (fun wq ⟨Lq, hsq, mh0, _⟩ => ldm (v := ns) hsq mh0 rfl rfl one22) ?_
 refine .op trivial rfl rfl (fun wq _ => lnA (n := 0) sl22 rfl) ?_
 refine .nil ?_
 refine a1 (i := 10) (by kernel_rfl) ?_
 refine one_ rfl ?_
 refine q trivial rfl rfl (ust0 (p := none) rfl rfl) ?_
 refine nl (kq ⟨_, hs1, memi 0 rfl, trivial⟩ ?_)
 refine tk (fuel := 0) (is := [11]) (.cons rfl (.nil)) (by kernel_rfl) (by kernel_rfl) ⟨_, hs1, memi 0 rfl, trivial⟩ ?_
 refine .op trivial rfl rfl (fun wq _ => asg (v := Str []) rfl) ?_
 refine .nil ?_
 refine ad (by kernel_rfl) ?_
 refine nN ?_
 refine rt ?_
 refine fret (v := Str []) (.tmp .nil) rfl ?_
 exact ⟨rfl, (hs1.pick [] rfl (by decide))⟩

theorem bStringR {bb gb : Nat} {pb : Option Addr} {cbb : Nat} (l : List UInt8) (w : World) (hbd : w.heap[bb]? = some (.cells [.pointer pb, .slice (some ⟨gb, 0, none⟩) l.length cbb].toArray 102 (0, 0))) (hbo : OwnR w (some ⟨gb, 0, none⟩) l.length cbb 5 1 (l.map U)) (hbx : ∀ k, (It.own (some ⟨gb, 0, none⟩) l.length cbb 5 1 (l.map U)).has k → ¬ (It.blk bb 102 [.pointer pb, .slice (some ⟨gb, 0, none⟩) l.length cbb]).has k) (hl0 : 0 < l.length) (hlc : cbb ≠ 0) : Does Tryd.prog 107 [pB bb] w (fun v w' => v = Str l ∧ SH w w' ([bb] ++ (ownM (some ⟨gb, 0, none⟩) cbb ++ [])) []) := by
 refine fn_enter (N := 14) Tryd.func107 rfl (by kernel_rfl) rfl rfl rfl ?_
 have hs0 : SH w w ([bb] ++ (ownM (some ⟨gb, 0, none⟩) cbb ++ [])) [.blk bb 102 [.pointer pb, sb gb l.length cbb], .own (some ⟨gb, 0, none⟩) l.length cbb 5 1 (l.map U)] := entryB hbd hbo hbx
 refine sq ?_
 refine rg ?_
 refine q trivial rfl rfl (asg (v := Str []) rfl) ?_
 refine nl ?_
 refine nN ?_
 refine sq ?_
 refine ra (fun w' => ∃ L, SH w w' ([bb] ++ (ownM (some ⟨gb, 0, none⟩) cbb ++ [])) L ∧ (.blk bb 102 [.pointer pb, sb gb l.length cbb]) ∈ L ∧ True) mixed ?_
 have hs1 := hs0.drew
 refine tk (fuel := 2) (is := [0, 1, 2, 3, 4, 5, 6, 7, 8, 9]) (.cons rfl (.cons rfl (.cons rfl (.cons rfl (.cons rfl (.cons rfl (.cons rfl (.cons rfl (.cons rfl (.cons rfl (.nil))))))))))) (by kernel_rfl) (by kernel_rfl) ⟨_, hs1, memi 0 rfl, trivial⟩ ?_
 refine .op trivial rfl rfl (fun wq _ => mv (v := pB bb) rfl) ?_
 refine .op trivial rfl rfl (fun wq _ => nc rfl) ?_
 refine .op trivial rfl rfl (fun wq _ => fa 1 fo102_1 rfl) ?_
 refine .op trivial rfl rfl (fun wq ⟨Lq, hsq, mh0, _⟩ => ldm (v := sb gb l.length cbb) hsq mh0 rfl rfl one22) ?_
 refine .op trivial rfl rfl (fun wq _ => usd (a := ⟨gb, 0, none⟩) rfl (by exact hlc)) ?_
 refine .op trivial rfl rfl (fun wq _ => mv (v := pB bb) rfl) ?_
 refine .op trivial rfl rfl (fun wq _ => nc rfl) ?_
 refine .op trivial rfl rfl (fun wq _ => fa 1 fo102_1 rfl) ?_
 refine .op trivial rfl rfl (fun wq ⟨Lq, hsq, mh0, _⟩ => ldm (v := sb gb l.length cbb) hsq mh0 rfl rfl one22) ?_
 refine .op trivial rfl rfl (fun wq _ => lnA (n := l.length) sl22 rfl) ?_
 refine .nil ?_
 refine a1 (i := 10) (by kernel_rfl) ?_
 refine one_ rfl ?_
 refine ust (l := l) hs1 1 rfl tp118 (by kernel_rfl) rfl rfl (by omega) trivial rfl (fun w1 (hs2 : SH w w1 ([bb] ++ (ownM (some ⟨gb, 0, none⟩) cbb ++ [])) [.blk bb 102 [.pointer pb, sb gb l.length cbb]]) => ?_)
 refine nl (kq ⟨_, hs2, memi 0 rfl, trivial⟩ ?_)
 refine tk (fuel := 0) (is := [11]) (.cons rfl (.nil)) (by kernel_rfl) (by kernel_rfl) ⟨_, hs2, memi 0 rfl, trivial⟩ ?_
 refine .op trivial rfl rfl (fun wq _ => asg (v := Str l) rfl) ?_
 refine .nil ?_
 refine ad (by kernel_rfl) ?_
 refine nN ?_
 refine rt ?_
 refine fret (v := Str l) (.tmp .nil) rfl ?_
 exact ⟨rfl, (hs2.pick [] rfl (by decide))⟩

theorem bString {bb : Nat} {pb : Option Addr} {Abb : Option Addr} {cbb : Nat} (l : List UInt8) (w : World) (hbd : w.heap[bb]? = some (.cells [.pointer pb, .slice Abb l.length cbb].toArray 102 (0, 0))) (hpb : pb = none ∨ pb = some ⟨bb, 0, none⟩) (hbo : OwnR w Abb l.length cbb 5 1 (l.map U)) (hbx : ∀ k, (It.own Abb l.length cbb 5 1 (l.map U)).has k → ¬ (It.blk bb 102 [.pointer pb, .slice Abb l.length cbb]).has k) (hA : l.length = 0 → Abb = none ∧ cbb = 0) : Does Tryd.prog 107 [pB bb] w (fun v w' => v = Str l ∧ SH w w' ([bb] ++ (ownM Abb cbb ++ [])) []) := by
  rcases Nat.eq_zero_or_pos l.length with h0 | h0
  · obtain ⟨rfl, rfl⟩ := hA h0
    have hl : l = [] := List.eq_nil_of_length_eq_zero h0
    subst hl
    exact (bStringN w hbd).mono fun v w' h => ⟨h.1, h.2.monoM (by intro k hk; simp at hk; subst hk; simp)⟩
  · obtain ⟨gb, rfl⟩ := ownR_form hbo h0
    exact bStringR l w hbd hbo hbx h0 (by have := hbo.2.1; omega)

theorem iLetter (c : UInt8) (w : World)  : Does Tryd.prog 85 [.int .u8 ((c.toNat : Nat) : Int)] w (fun v w' => v = .bool (decide (97 ≤ ((c.toNat : Nat) : Int) ∧ ((c.toNat : Nat) : Int) ≤ 122)) ∧ SH w w' [] []) := by
 refine fn_enter (N := 9) Tryd.func85 rfl (by kernel_rfl) rfl rfl rfl ?_
 have hs0 : SH w w [] [] := SH.refl w []
 refine sq ?_
 refine rg ?_
 refine q trivial rfl rfl (asg (v := .bool false) rfl) ?_
 refine nl ?_
 refine nN ?_
 refine sq ?_
 refine rg ?_
 refine q trivial rfl rfl (mv (v := .int .u8 ((c.toNat : Nat) : Int)) rfl) ?_
 refine q trivial rfl rfl (geq (k := .u8) (a := ((c.toNat : Nat) : Int)) (b := 97) rfl rfl) ?_
 refine q trivial rfl rfl (mv (v := .bool (decide ((97 : Int) ≤ ((c.toNat : Nat) : Int)))) rfl) ?_
 refine spd (p := (97 : Int) ≤ ((c.toNat : Nat) : Int)) 5 rfl (fun h1 => ?_) (fun h1 => ?_)
 · refine q ⟨_, rfl, rfl⟩ rfl rfl (mv (v := .int .u8 ((c.toNat : Nat) : Int)) rfl) ?_
   refine q ⟨_, rfl, rfl⟩ rfl rfl (leq (k := .u8) (a := ((c.toNat : Nat) : Int)) (b := 122) rfl rfl) ?_
   refine q trivial rfl rfl (pt (v := .bool (decide (((c.toNat : Nat) : Int) ≤ 122))) rfl rfl) ?_
   refine q trivial rfl rfl (asg (v := .bool (decide (((c.toNat : Nat) : Int) ≤ 122))) rfl) ?_
   refine nl ?_
   refine nN ?_
   refine rt ?_
   refine fret (v := .bool (decide (((c.toNat : Nat) : Int) ≤ 122))) (.tmp .nil) rfl ?_
   have e1 : (decide (((c.toNat : Nat) : Int) ≤ 122)) = (decide (97 ≤ ((c.toNat : Nat) : Int) ∧ ((c.toNat : Nat) : Int) ≤ 122)) := by simp [h1]
   exact ⟨(congrArg (Value.bool) e1), hs0⟩
 · refine gk false rfl rfl rfl rfl rfl ?_
   refine gk false rfl rfl rfl rfl rfl ?_
   refine q trivial rfl rfl (pf (v := .bool false) rfl rfl) ?_
   refine q trivial rfl rfl (asg (v := .bool false) rfl) ?_
   refine nl ?_
   refine nN ?_
   refine rt ?_
   refine fret (v := .bool false) (.tmp .nil) rfl ?_
   have e2 : false = (decide (97 ≤ ((c.toNat : Nat) : Int) ∧ ((c.toNat : Nat) : Int) ≤ 122)) := by simp [h1]
   exact ⟨(congrArg (Value.bool) e2), hs0⟩

theorem iDigit (c : UInt8) (w : World)  : Does Tryd.prog 88 [.int .u8 ((c.toNat : Nat) : Int)] w (fun v w' => v = .bool (decide (48 ≤ ((c.toNat : Nat) : Int) ∧ ((c.toNat : Nat) : Int) ≤ 57)) ∧ SH w w' [] []) := by
 refine fn_enter (N := 9) Tryd.func88 rfl (by kernel_rfl) rfl rfl rfl ?_
 have hs0 : SH w w [] [] := SH.refl w []
 refine sq ?_
 refine rg ?_
 refine q trivial rfl rfl (asg (v := .bool false) rfl) ?_
 refine nl ?_
 refine nN ?_
 refine sq ?_
 refine rg ?_
 refine q trivial rfl rfl (mv (v := .int .u8 ((c.toNat : Nat) : Int)) rfl) ?_
 refine q trivial rfl rfl (geq (k := .u8) (a := ((c.toNat : Nat) : Int)) (b := 48) rfl rfl) ?_
 refine q trivial rfl rfl (mv (v := .bool (decide ((48 : Int) ≤ ((c.toNat : Nat) : Int)))) rfl) ?_
 refine spd (p := (48 : Int) ≤ ((c.toNat : Nat) : Int)) 5 rfl (fun h1 => ?_) (fun h1 => ?_)
 · refine q ⟨_, rfl, rfl⟩ rfl rfl (mv (v := .int .u8 ((c.toNat : Nat) : Int)) rfl) ?_
   refine q ⟨_, rfl, rfl⟩ rfl rfl (leq (k := .u8) (a := ((c.toNat : Nat) : Int)) (b := 57) rfl rfl) ?_
   refine q trivial rfl rfl (pt (v := .bool (decide (((c.toNat : Nat) : Int) ≤ 57))) rfl rfl) ?_
   refine q trivial rfl rfl (asg (v := .bool (decide (((c.toNat : Nat) : Int) ≤ 57))) rfl) ?_
   refine nl ?_
   refine nN ?_
   refine rt ?_
   refine fret (v := .bool (decide (((c.toNat : Nat) : Int) ≤ 57))) (.tmp .nil) rfl ?_
   have e1 : (decide (((c.toNat : Nat) : Int) ≤ 57)) = (decide (48 ≤ ((c.toNat : Nat) : Int) ∧ ((c.toNat : Nat) : Int) ≤ 57)) := by simp [h1]
   exact ⟨(congrArg (Value.bool) e1), hs0⟩
 · refine gk false rfl rfl rfl rfl rfl ?_
   refine gk false rfl rfl rfl rfl rfl ?_
   refine q trivial rfl rfl (pf (v := .bool false) rfl rfl) ?_
   refine q trivial rfl rfl (asg (v := .bool false) rfl) ?_
   refine nl ?_
   refine nN ?_
   refine rt ?_
   refine fret (v := .bool false) (.tmp .nil) rfl ?_
   have e2 : false = (decide (48 ≤ ((c.toNat : Nat) : Int) ∧ ((c.toNat : Nat) : Int) ≤ 57)) := by simp [h1]
   exact ⟨(congrArg (Value.bool) e2), hs0⟩

theorem sLetter (c : UInt8) (w : World)  : Does Tryd.prog 64 [.int .u8 ((c.toNat : Nat) : Int)] w (fun v w' => v = .bool (letC c) ∧ SH w w' [] []) := by
 refine fn_enter (N := 21) Tryd.func64 rfl (by kernel_rfl) rfl rfl rfl ?_
 have hs0 : SH w w [] [] := SH.refl w []
 refine sq ?_
 refine rg ?_
 refine q trivial rfl rfl (asg (v := .bool false) rfl) ?_
 refine nl ?_
 refine nN ?_
 refine sq ?_
 refine rg ?_
 refine q trivial rfl rfl (mv (v := .int .u8 ((c.toNat : Nat) : Int)) rfl) ?_
 refine q trivial rfl rfl (geq (k := .u8) (a := ((c.toNat : Nat) : Int)) (b := 97) rfl rfl) ?_
 refine q trivial rfl rfl (mv (v := .bool (decide ((97 : Int) ≤ ((c.toNat : Nat) : Int)))) rfl) ?_
 refine spd (p := (97 : Int) ≤ ((c.toNat : Nat) : Int)) 5 rfl (fun h1 => ?_) (fun h1 => ?_)
 · refine q ⟨_, rfl, rfl⟩ rfl rfl (mv (v := .int .u8 ((c.toNat : Nat) : Int)) rfl) ?_
   refine q ⟨_, rfl, rfl⟩ rfl rfl (leq (k := .u8) (a := ((c.toNat : Nat) : Int)) (b := 122) rfl rfl) ?_
   refine q trivial rfl rfl (pt (v := .bool (decide (((c.toNat : Nat) : Int) ≤ 122))) rfl rfl) ?_
   refine q trivial rfl rfl (mv (v := .bool (decide (((c.toNat : Nat) : Int) ≤ 122))) rfl) ?_
   refine spd (p := ((c.toNat : Nat) : Int) ≤ 122) 9 rfl (fun h2 => ?_) (fun h2 => ?_)
   · refine gk true rfl rfl rfl rfl rfl ?_
     refine gk true rfl rfl rfl rfl rfl ?_
     refine gk true rfl rfl rfl rfl rfl ?_
     refine gku rfl rfl rfl rfl rfl ?_
     refine gku rfl rfl rfl rfl rfl ?_
     refine gk true rfl rfl rfl rfl rfl ?_
     refine q trivial rfl rfl (pt (v := .bool true) rfl rfl) ?_
     refine q trivial rfl rfl (mv (v := .bool true) rfl) ?_
     refine gk true rfl rfl rfl rfl rfl ?_
     refine gk true rfl rfl rfl rfl rfl ?_
     refine q trivial rfl rfl (pt (v := .bool true) rfl rfl) ?_
     refine q trivial rfl rfl (asg (v := .bool true) rfl) ?_
     refine nl ?_
     refine nN ?_
     refine rt ?_
     refine fret (v := .bool true) (.tmp .nil) rfl ?_
     have e1 : true = letC c := by simp only [letC]; first | (simp; omega) | simp [h1, h2]
     exact ⟨(congrArg (Value.bool) e1), hs0⟩
   · refine q ⟨_, rfl, rfl⟩ rfl rfl (mv (v := .int .u8 ((c.toNat : Nat) : Int)) rfl) ?_
     refine q ⟨_, rfl, rfl⟩ rfl rfl (geq (k := .u8) (a := ((c.toNat : Nat) : Int)) (b := 48) rfl rfl) ?_
     refine q ⟨_, rfl, rfl⟩ rfl rfl (mv (v := .bool (decide ((48 : Int) ≤ ((c.toNat : Nat) : Int)))) rfl) ?_
     refine spd (p := (48 : Int) ≤ ((c.toNat : Nat) : Int)) 12 rfl (fun h3 => ?_) (fun h3 => ?_)
     · refine q ⟨_, rfl, rfl⟩ rfl rfl (mv (v := .int .u8 ((c.toNat : Nat) : Int)) rfl) ?_
       refine q ⟨_, rfl, rfl⟩ rfl rfl (leq (k := .u8) (a := ((c.toNat : Nat) : Int)) (b := 57) rfl rfl) ?_
       refine q ⟨_, rfl, rfl⟩ rfl rfl (pt (v := .bool (decide (((c.toNat : Nat) : Int) ≤ 57))) rfl rfl) ?_
       refine q trivial rfl rfl (pf (v := .bool (decide (((c.toNat : Nat) : Int) ≤ 57))) rfl rfl) ?_
       refine q trivial rfl rfl (mv (v := .bool (decide (((c.toNat : Nat) : Int) ≤ 57))) rfl) ?_
       refine spd (p := ((c.toNat : Nat) : Int) ≤ 57) 17 rfl (fun h4 => ?_) (fun h4 => ?_)
       · refine gk true rfl rfl rfl rfl rfl ?_
         refine gk true rfl rfl rfl rfl rfl ?_
         refine q trivial rfl rfl (pt (v := .bool true) rfl rfl) ?_
         refine q trivial rfl rfl (asg (v := .bool true) rfl) ?_
         refine nl ?_
         refine nN ?_
         refine rt ?_
         refine fret (v := .bool true) (.tmp .nil) rfl ?_
         have e2 : true = letC c := by simp only [letC]; first | (simp; omega) | simp [h1, h2, h3, h4]
         exact ⟨(congrArg (Value.bool) e2), hs0⟩
       · refine q ⟨_, rfl, rfl⟩ rfl rfl (mv (v := .int .u8 ((c.toNat : Nat) : Int)) rfl) ?_
         refine q ⟨_, rfl, rfl⟩ rfl rfl (eqi (k := .u8) (a := ((c.toNat : Nat) : Int)) (b := 45) rfl rfl) ?_
         refine q trivial rfl rfl (pf (v := .bool (decide (((c.toNat : Nat) : Int) = 45))) rfl rfl) ?_
         refine q trivial rfl rfl (asg (v := .bool (decide (((c.toNat : Nat) : Int) = 45))) rfl) ?_
         refine nl ?_
         refine nN ?_
         refine rt ?_
         refine fret (v := .bool (decide (((c.toNat : Nat) : Int) = 45))) (.tmp .nil) rfl ?_
         have e3 : (decide (((c.toNat : Nat) : Int) = 45)) = letC c := by simp only [letC]; first | (simp; omega) | simp [h1, h2, h3, h4]
         exact ⟨(congrArg (Value.bool) e3), hs0⟩
     · refine gk false rfl rfl rfl rfl rfl ?_
       refine gk false rfl rfl rfl rfl rfl ?_
       refine q ⟨_, rfl, rfl⟩ rfl rfl (pf (v := .bool false) rfl rfl) ?_
       refine q trivial rfl rfl (pf (v := .bool false) rfl rfl) ?_
       refine q trivial rfl rfl (mv (v := .bool false) rfl) ?_
       refine q ⟨_, rfl, rfl⟩ rfl rfl (mv (v := .int .u8 ((c.toNat : Nat) : Int)) rfl) ?_
       refine q ⟨_, rfl, rfl⟩ rfl rfl (eqi (k := .u8) (a := ((c.toNat : Nat) : Int)) (b := 45) rfl rfl) ?_
       refine q trivial rfl rfl (pf (v := .bool (decide (((c.toNat : Nat) : Int) = 45))) rfl rfl) ?_
       refine q trivial rfl rfl (asg (v := .bool (decide (((c.toNat : Nat) : Int) = 45))) rfl) ?_
       refine nl ?_
       refine nN ?_
       refine rt ?_
       refine fret (v := .bool (decide (((c.toNat : Nat) : Int) = 45))) (.tmp .nil) rfl ?_
       have e4 : (decide (((c.toNat : Nat) : Int) = 45)) = letC c := by simp only [letC]; first | (simp; omega) | simp [h1, h2, h3]
       exact ⟨(congrArg (Value.bool) e4), hs0⟩
 · refine gk false rfl rfl rfl rfl rfl ?_
   refine gk false rfl rfl rfl rfl rfl ?_
   refine q trivial rfl rfl (pf (v := .bool false) rfl rfl) ?_
   refine q trivial rfl rfl (mv (v := .bool false) rfl) ?_
   refine q ⟨_, rfl, rfl⟩ rfl rfl (mv (v := .int .u8 ((c.toNat : Nat) : Int)) rfl) ?_
   refine q ⟨_, rfl, rfl⟩ rfl rfl (geq (k := .u8) (a := ((c.toNat : Nat) : Int)) (b := 48) rfl rfl) ?_
   refine q ⟨_, rfl, rfl⟩ rfl rfl (mv (v := .bool (decide ((48 : Int) ≤ ((c.toNat : Nat) : Int)))) rfl) ?_
   refine spd (p := (48 : Int) ≤ ((c.toNat : Nat) : Int)) 12 rfl (fun h5 => ?_) (fun h5 => ?_)
   · refine q ⟨_, rfl, rfl⟩ rfl rfl (mv (v := .int .u8 ((c.toNat : Nat) : Int)) rfl) ?_
     refine q ⟨_, rfl, rfl⟩ rfl rfl (leq (k := .u8) (a := ((c.toNat : Nat) : Int)) (b := 57) rfl rfl) ?_
     refine q ⟨_, rfl, rfl⟩ rfl rfl (pt (v := .bool (decide (((c.toNat : Nat) : Int) ≤ 57))) rfl rfl) ?_
     refine q trivial rfl rfl (pf (v := .bool (decide (((c.toNat : Nat) : Int) ≤ 57))) rfl rfl) ?_
     refine q trivial rfl rfl (mv (v := .bool (decide (((c.toNat : Nat) : Int) ≤ 57))) rfl) ?_
     refine spd (p := ((c.toNat : Nat) : Int) ≤ 57) 17 rfl (fun h6 => ?_) (fun h6 => ?_)
     · refine gk true rfl rfl rfl rfl rfl ?_
       refine gk true rfl rfl rfl rfl rfl ?_
       refine q trivial rfl rfl (pt (v := .bool true) rfl rfl) ?_
       refine q trivial rfl rfl (asg (v := .bool true) rfl) ?_
       refine nl ?_
       refine nN ?_
       refine rt ?_
       refine fret (v := .bool true) (.tmp .nil) rfl ?_
       have e5 : true = letC c := by simp only [letC]; first | (simp; omega) | simp [h1, h5, h6]
       exact ⟨(congrArg (Value.bool) e5), hs0⟩
     · refine q ⟨_, rfl, rfl⟩ rfl rfl (mv (v := .int .u8 ((c.toNat : Nat) : Int)) rfl) ?_
       refine q ⟨_, rfl, rfl⟩ rfl rfl (eqi (k := .u8) (a := ((c.toNat : Nat) : Int)) (b := 45) rfl rfl) ?_
       refine q trivial rfl rfl (pf (v := .bool (decide (((c.toNat : Nat) : Int) = 45))) rfl rfl) ?_
       refine q trivial rfl rfl (asg (v := .bool (decide (((c.toNat : Nat) : Int) = 45))) rfl) ?_
       refine nl ?_
       refine nN ?_
       refine rt ?_
       refine fret (v := .bool (decide (((c.toNat : Nat) : Int) = 45))) (.tmp .nil) rfl ?_
       have e6 : (decide (((c.toNat : Nat) : Int) = 45)) = letC c := by simp only [letC]; first | (simp; omega) | simp [h1, h5, h6]
       exact ⟨(congrArg (Value.bool) e6), hs0⟩
   · refine gk false rfl rfl rfl rfl rfl ?_
     refine gk false rfl rfl rfl rfl rfl ?_
     refine q ⟨_, rfl, rfl⟩ rfl rfl (pf (v := .bool false) rfl rfl) ?_
     refine q trivial rfl rfl (pf (v := .bool false) rfl rfl) ?_
     refine q trivial rfl rfl (mv (v := .bool false) rfl) ?_
     refine q ⟨_, rfl, rfl⟩ rfl rfl (mv (v := .int .u8 ((c.toNat : Nat) : Int)) rfl) ?_
     refine q ⟨_, rfl, rfl⟩ rfl rfl (eqi (k := .u8) (a := ((c.toNat : Nat) : Int)) (b := 45) rfl rfl) ?_
     refine q trivial rfl rfl (pf (v := .bool (decide (((c.toNat : Nat) : Int) = 45))) rfl rfl) ?_
     refine q trivial rfl rfl (asg (v := .bool (decide (((c.toNat : Nat) : Int) = 45))) rfl) ?_
     refine nl ?_
     refine nN ?_
     refine rt ?_
     refine fret (v := .bool (decide (((c.toNat : Nat) : Int) = 45))) (.tmp .nil) rfl ?_
     have e7 : (decide (((c.toNat : Nat) : Int) = 45)) = letC c := by simp only [letC]; first | (simp; omega) | simp [h1, h5]
     exact ⟨(congrArg (Value.bool) e7), hs0⟩

theorem isPort (x : Int) (w : World)  : Does Tryd.prog 68 [I x] w (fun v w' => v = .bool (decide (0 ≤ x ∧ x ≤ 65535)) ∧ SH w w' [] []) := by
 refine fn_enter (N := 5) Tryd.func68 rfl (by kernel_rfl) rfl rfl rfl ?_
 have hs0 : SH w w [] [] := SH.refl w []
 refine sq ?_
 refine rg ?_
 refine q trivial rfl rfl (asg (v := .bool false) rfl) ?_
 refine nl ?_
 refine nN ?_
 refine sq ?_
 refine rg ?_
 refine q trivial rfl rfl (mv (v := I x) rfl) ?_
 refine cl trivial rfl (iWithin (x := x) (lo := 0) (hi := 65535) (w := _)) ?_
 rintro _ w1 ⟨rfl, hs1'⟩
 have hs1 : SH w w1 [] [] := hs0.call0 hs1'
 clear hs1'
 refine q trivial rfl rfl (asg (v := .bool (decide (0 ≤ x ∧ x ≤ 65535))) rfl) ?_
 refine nl ?_
 refine nN ?_
 refine rt ?_
 refine fret (v := .bool (decide (0 ≤ x ∧ x ≤ 65535))) (.tmp .nil) rfl ?_
 exact ⟨rfl, hs1⟩

theorem iConsists (l : List UInt8) (m : List UInt8) (w : World) (hl_n : l.length ≤ 9223372036854775807) : Does Tryd.prog 74 [Str l, Str m] w (fun v w' => v = .bool (l.all (okC m)) ∧ SH w w' [] []) := by
 refine fn_enter (N := 32) Tryd.func74 rfl (by kernel_rfl) rfl rfl rfl ?_
 have hs0 : SH w w [] [] := SH.refl w []
 refine sq ?_
 refine rg ?_
 refine q trivial rfl rfl (asg (v := .bool false) rfl) ?_
 refine nl ?_
 refine nN ?_
 refine sq ?_
 refine sq ?_
 refine rg ?_
 refine q trivial rfl rfl (mv (v := Str l) rfl) ?_
 refine q trivial rfl rfl (lnS (l := l) st9 rfl) ?_
 refine q trivial rfl rfl (mv (v := I 0) rfl) ?_
 refine nl ?_
 refine nN ?_
 refine bl ?_
 refine lp (σ := Nat) (fun (k : Nat) f w' => Has f [(0, Str l), (1, Str m), (7, I ((l.length : Nat) : Int)), (8, I ((k : Nat) : Int))] ∧ (k ≤ l.length) ∧ ((l.take k).all (okC m) = true) ∧ SH w w' [] []) (fun k => l.length - k) 0 ⟨⟨rfl, rfl, rfl, rfl, trivial⟩, (by simp), (by simp), hs0⟩ ?_
 rintro k f w1 ⟨hf, hk, ha, hs1⟩
 obtain ⟨g1, rfl⟩ := has_upd hf
 clear hf
 refine sq ?_
 refine rg ?_
 refine q trivial rfl rfl (lss (k := .i64) (a := ((k : Nat) : Int)) (b := ((l.length : Nat) : Int)) rfl rfl) ?_
 refine nl ?_
 refine nN ?_
 refine sq ?_
 refine cdd (p := ((k : Nat) : Int) < ((l.length : Nat) : Int)) rfl (fun h1 => ?_) (fun h1 => ?_)
 · refine sk ?_
   refine nN ?_
   refine sq ?_
   refine bl ?_
   refine sq ?_
   refine rg ?_
   refine q trivial rfl rfl (mv (v := I ((k : Nat) : Int)) rfl) ?_
   refine q trivial rfl rfl (asg (v := I ((k : Nat) : Int)) rfl) ?_
   refine nl ?_
   refine nN ?_
   refine sq ?_
   refine rg ?_
   refine q trivial rfl rfl (mv (v := Str l) rfl) ?_
   refine q trivial rfl rfl (mv (v := I ((k : Nat) : Int)) rfl) ?_
   refine q trivial rfl rfl (ixs (l := l) k st9 rfl rfl (by first | omega | (simp; done) | (simp; omega))) ?_
   refine cl trivial rfl (iLetter (c := (l.getD k 0)) (w := _)) ?_
   rintro _ w2 ⟨rfl, hs2'⟩
   have hs2 : SH w w2 [] [] := hs1.call0 hs2'
   clear hs2'
   refine q trivial rfl rfl (nd (p := 97 ≤ (((l.getD k 0).toNat : Nat) : Int) ∧ (((l.getD k 0).toNat : Nat) : Int) ≤ 122) rfl) ?_
   refine q trivial rfl rfl (mv (v := .bool (decide (¬ (97 ≤ (((l.getD k 0).toNat : Nat) : Int) ∧ (((l.getD k 0).toNat : Nat) : Int) ≤ 122)))) rfl) ?_
   refine spd (p := ¬ (97 ≤ (((l.getD k 0).toNat : Nat) : Int) ∧ (((l.getD k 0).toNat : Nat) : Int) ≤ 122)) 16 rfl (fun h2 => ?_) (fun h2 => ?_)
   · refine q ⟨_, rfl, rfl⟩ rfl rfl (mv (v := Str l) rfl) ?_
     refine q ⟨_, rfl, rfl⟩ rfl rfl (mv (v := I ((k : Nat) : Int)) rfl) ?_
     refine q ⟨_, rfl, rfl⟩ rfl rfl (ixs (l := l) k st9 rfl rfl (by first | omega | (simp; done) | (simp; omega))) ?_
     refine cl ⟨_, rfl, rfl⟩ rfl (iDigit (c := (l.getD k 0)) (w := _)) ?_
     rintro _ w3 ⟨rfl, hs3'⟩
     have hs3 : SH w w3 [] [] := hs2.call0 hs3'
     clear hs3'
     refine q ⟨_, rfl, rfl⟩ rfl rfl (nd (p := 48 ≤ (((l.getD k 0).toNat : Nat) : Int) ∧ (((l.getD k 0).toNat : Nat) : Int) ≤ 57) rfl) ?_
     refine q trivial rfl rfl (pt (v := .bool (decide (¬ (48 ≤ (((l.getD k 0).toNat : Nat) : Int) ∧ (((l.getD k 0).toNat : Nat) : Int) ≤ 57)))) rfl rfl) ?_
     refine q trivial rfl rfl (mv (v := .bool (decide (¬ (48 ≤ (((l.getD k 0).toNat : Nat) : Int) ∧ (((l.getD k 0).toNat : Nat) : Int) ≤ 57)))) rfl) ?_
     refine spd (p := ¬ (48 ≤ (((l.getD k 0).toNat : Nat) : Int) ∧ (((l.getD k 0).toNat : Nat) : Int) ≤ 57)) 23 rfl (fun h3 => ?_) (fun h3 => ?_)
     · refine q ⟨_, rfl, rfl⟩ rfl rfl (mv (v := Str m) rfl) ?_
       refine q ⟨_, rfl, rfl⟩ rfl rfl (mv (v := Str l) rfl) ?_
       refine q ⟨_, rfl, rfl⟩ rfl rfl (mv (v := I ((k : Nat) : Int)) rfl) ?_
       refine q ⟨_, rfl, rfl⟩ rfl rfl (ixs (l := l) k st9 rfl rfl (by first | omega | (simp; done) | (simp; omega))) ?_
       refine cl ⟨_, rfl, rfl⟩ rfl (stIndexByte (l := m) (c := (l.getD k 0)) (w := _)) ?_
       rintro _ w4 ⟨rfl, hs4'⟩
       have hs4 : SH w w4 [] [] := hs3.call0 hs4'
       clear hs4'
       refine q ⟨_, rfl, rfl⟩ rfl rfl (lss (k := .i64) (a := idxB m (l.getD k 0)) (b := 0) rfl rfl) ?_
       refine q trivial rfl rfl (pt (v := .bool (decide ((idxB m (l.getD k 0)) < 0))) rfl rfl) ?_
       refine nl ?_
       refine nN ?_
       refine cdd (p := (idxB m (l.getD k 0)) < 0) rfl (fun h4 => ?_) (fun h4 => ?_)
       · refine sq ?_
         refine rg ?_
         refine q trivial rfl rfl (asg (v := .bool false) rfl) ?_
         refine nl ?_
         refine nN ?_
         refine rt (bR (tR (tR (bR (tR ?_)))))
         refine fret (v := .bool false) (.tmp .nil) rfl ?_
         have e1 : false = l.all (okC m) := by exact (all_no (d := 0) (k := k) (by omega) (by simp only [okC, decide_eq_false_iff_not]; omega)).symm
         exact ⟨(congrArg (Value.bool) e1), hs4⟩
       · refine sk ?_
         refine bN ?_
         refine nN ?_
         refine rg ?_
         refine q trivial rfl rfl (add (a := ((k : Nat) : Int)) (b := 1) rfl rfl (by exact ⟨by omega, by omega⟩)) ?_
         refine q trivial rfl rfl (mv (v := I (((k : Nat) : Int) + 1)) rfl) ?_
         refine nl ?_
         refine nN ?_
         refine ⟨(k + 1), ⟨⟨rfl, rfl, rfl, rfl, trivial⟩, (by omega), (all_step (d := 0) (by omega) ha (by simp only [okC, decide_eq_true_eq]; omega)), hs4⟩, ?_⟩
         omega
     · refine gk false rfl rfl rfl rfl rfl ?_
       refine gk false rfl rfl rfl rfl rfl ?_
       refine gk false rfl rfl rfl rfl rfl ?_
       refine gk false rfl rfl rfl rfl rfl ?_
       refine gk false rfl rfl rfl rfl rfl ?_
       refine gk false rfl rfl rfl rfl rfl ?_
       refine q trivial rfl rfl (pf (v := .bool false) rfl rfl) ?_
       refine nl ?_
       refine nN ?_
       refine cdf rfl ?_
       refine sk ?_
       refine bN ?_
       refine nN ?_
       refine rg ?_
       refine q trivial rfl rfl (add (a := ((k : Nat) : Int)) (b := 1) rfl rfl (by exact ⟨by omega, by omega⟩)) ?_
       refine q trivial rfl rfl (mv (v := I (((k : Nat) : Int) + 1)) rfl) ?_
       refine nl ?_
       refine nN ?_
       refine ⟨(k + 1), ⟨⟨rfl, rfl, rfl, rfl, trivial⟩, (by omega), (all_step (d := 0) (by omega) ha (by simp only [okC, decide_eq_true_eq]; omega)), hs3⟩, ?_⟩
       omega
   · refine gk false rfl rfl rfl rfl rfl ?_
     refine gk false rfl rfl rfl rfl rfl ?_
     refine gk false rfl rfl rfl rfl rfl ?_
     refine gk false rfl rfl rfl rfl rfl ?_
     refine gk false rfl rfl rfl rfl rfl ?_
     refine q trivial rfl rfl (pf (v := .bool false) rfl rfl) ?_
     refine q trivial rfl rfl (mv (v := .bool false) rfl) ?_
     refine gk false rfl rfl rfl rfl rfl ?_
     refine gk false rfl rfl rfl rfl rfl ?_
     refine gk false rfl rfl rfl rfl rfl ?_
     refine gk false rfl rfl rfl rfl rfl ?_
     refine gk false rfl rfl rfl rfl rfl ?_
     refine gk false rfl rfl rfl rfl rfl ?_
     refine q trivial rfl rfl (pf (v := .bool false) rfl rfl) ?_
     refine nl ?_
     refine nN ?_
     refine cdf rfl ?_
     refine sk ?_
     refine bN ?_
     refine nN ?_
     refine rg ?_
     refine q trivial rfl rfl (add (a := ((k : Nat) : Int)) (b := 1) rfl rfl (by exact ⟨by omega, by omega⟩)) ?_
     refine q trivial rfl rfl (mv (v := I (((k : Nat) : Int) + 1)) rfl) ?_
     refine nl ?_
     refine nN ?_
     refine ⟨(k + 1), ⟨⟨rfl, rfl, rfl, rfl, trivial⟩, (by omega), (all_step (d := 0) (by omega) ha (by simp only [okC, decide_eq_true_eq]; omega)), hs2⟩, ?_⟩
     omega
 · refine ex (tE (tE (bE ?_)))
   refine nN ?_
   refine sq ?_
   refine rg ?_
   refine q trivial rfl rfl (asg (v := .bool true) rfl) ?_
   refine nl ?_
   refine nN ?_
   refine rt ?_
   refine fret (v := .bool true) (.tmp .nil) rfl ?_
   have e2 : true = l.all (okC m) := by exact (all_yes (by omega) ha).symm
   exact ⟨(congrArg (Value.bool) e2), hs1⟩

theorem slIndexFuncR (p : List UInt8 × Int × Bool → Bool) {Azs : Option Addr} {czs : Nat} (zs : List (List UInt8 × Int × Bool)) (kf : FuncId) (w : World) (hzs : Sl w [] 3 Azs zs.length czs (zs.flatMap gRule)) (hzs_e : ∀ u ∈ zs, u.1.length ≤ 9223372036854775807) (hf : ∀ (x : List UInt8 × Int × Bool) (w : World) (_ : x.1.length ≤ 9223372036854775807), Does Tryd.prog kf [.agg #[Str x.1, .int .i64 x.2.1, .bool x.2.2]] w (fun v w' => v = .bool (p x) ∧ SH w w' [] [])) : Does Tryd.prog 87 [.slice Azs zs.length czs, .func (.func kf) #[] #[]] w (fun v w' => v = .int .i64 (idxP p zs) ∧ SH w w' [] []) := by
 refine fn_enter (N := 19) Tryd.func87 rfl (by kernel_rfl) rfl rfl rfl ?_
 have hs0 : SH w w [] [] := SH.refl w []
 have hzs_m : zs.length ≤ 9223372036854775807 := Nat.le_trans hzs.cap hzs.capMax
 refine sq ?_
 refine rg ?_
 refine q trivial rfl rfl (asg (v := I 0) rfl) ?_
 refine nl ?_
 refine nN ?_
 refine sq ?_
 refine sq ?_
 refine rg ?_
 refine q trivial rfl rfl (mv (v := .slice Azs zs.length czs) rfl) ?_
 refine q trivial rfl rfl (lnA (n := zs.length) sl42 rfl) ?_
 refine q trivial rfl rfl (mv (v := I 0) rfl) ?_
 refine nl ?_
 refine nN ?_
 refine bl ?_
 refine lp (σ := Nat) (fun (k : Nat) f w' => Has f [(0, .slice Azs zs.length czs), (1, .func (.func kf) #[] #[]), (7, I ((zs.length : Nat) : Int)), (8, I ((k : Nat) : Int))] ∧ (k ≤ zs.length) ∧ (∀ j, j < k → p (zs.getD j rule0) = false) ∧ SH w w' [] []) (fun k => zs.length - k) 0 ⟨⟨rfl, rfl, rfl, rfl, trivial⟩, (by simp), (by intro j hj; omega), hs0⟩ ?_
 rintro k f w1 ⟨hf, hk, hn, hs1⟩
 obtain ⟨g1, rfl⟩ := has_upd hf
 clear hf
 refine sq ?_
 refine rg ?_
 refine q trivial rfl rfl (lss (k := .i64) (a := ((k : Nat) : Int)) (b := ((zs.length : Nat) : Int)) rfl rfl) ?_
 refine nl ?_
 refine nN ?_
 refine sq ?_
 refine cdd (p := ((k : Nat) : Int) < ((zs.length : Nat) : Int)) rfl (fun h1 => ?_) (fun h1 => ?_)
 · refine sk ?_
   refine nN ?_
   refine sq ?_
   refine bl ?_
   refine sq ?_
   refine rg ?_
   refine q trivial rfl rfl (mv (v := I ((k : Nat) : Int)) rfl) ?_
   refine q trivial rfl rfl (asg (v := I ((k : Nat) : Int)) rfl) ?_
   refine nl ?_
   refine nN ?_
   refine sq ?_
   refine rg ?_
   refine q trivial rfl rfl (mv (v := .func (.func kf) #[] #[]) rfl) ?_
   refine q trivial rfl rfl (mv (v := .slice Azs zs.length czs) rfl) ?_
   refine q trivial rfl rfl (mv (v := I ((k : Nat) : Int)) rfl) ?_
   refine ixwf (g := gRule) (zs := zs) (fun _ => rfl) rule0 k sl42 rfl rfl hzs (by first | omega | (simp; done) | (simp; omega)) (by first | omega | (simp; done) | (simp; omega)) trivial rfl (fun a1 ha1 => ?_)
   refine q trivial rfl rfl (ldag (us := [Str ((zs.getD k rule0).1), I ((zs.getD k rule0).2.1), .bool ((zs.getD k rule0).2.2)]) hs1 ha1 (fun _ h => h) rfl rfl ag83) ?_
   refine clv (k := kf) trivial rfl rfl (hf (zs.getD k rule0) _ (hzs_e _ (getD_mem' (by omega)))) ?_
   rintro _ w2 ⟨rfl, hs2'⟩
   have hs2 : SH w w2 [] [] := hs1.call0 hs2'
   clear hs2'
   refine nl ?_
   refine nN ?_
   refine cd (b := p (zs.getD k rule0)) rfl (fun h2 => ?_) (fun h2 => ?_)
   · refine sq ?_
     refine rg ?_
     refine q trivial rfl rfl (mv (v := I ((k : Nat) : Int)) rfl) ?_
     refine q trivial rfl rfl (asg (v := I ((k : Nat) : Int)) rfl) ?_
     refine nl ?_
     refine nN ?_
     refine rt (bR (tR (tR (bR (tR ?_)))))
     refine fret (v := I ((k : Nat) : Int)) (.tmp .nil) rfl ?_
     have e1 : ((k : Nat) : Int) = idxP p zs := by exact idxP_eq (d := rule0) (by omega) hn h2
     exact ⟨(congrArg (Value.int .i64) e1), hs2⟩
   · refine sk ?_
     refine bN ?_
     refine nN ?_
     refine rg ?_
     refine q trivial rfl rfl (add (a := ((k : Nat) : Int)) (b := 1) rfl rfl (by exact ⟨by omega, by omega⟩)) ?_
     refine q trivial rfl rfl (mv (v := I (((k : Nat) : Int) + 1)) rfl) ?_
     refine nl ?_
     refine nN ?_
     refine ⟨(k + 1), ⟨⟨rfl, rfl, rfl, rfl, trivial⟩, (by omega), (by intro j hj; rcases Nat.lt_succ_iff_lt_or_eq.1 hj with h | h; exact hn j h; subst h; exact h2), hs2⟩, ?_⟩
     omega
 · refine ex (tE (tE (bE ?_)))
   refine nN ?_
   refine sq ?_
   refine rg ?_
   refine q trivial rfl rfl (asg (v := I (-1)) rfl) ?_
   refine nl ?_
   refine nN ?_
   refine rt ?_
   refine fret (v := I (-1)) (.tmp .nil) rfl ?_
   have e2 : (-1) = idxP p zs := by exact idxP_none (d := rule0) (fun j hj => hn j (by omega))
   exact ⟨(congrArg (Value.int .i64) e2), hs1⟩

theorem slContainsFuncR (p : List UInt8 × Int × Bool → Bool) {Azs : Option Addr} {czs : Nat} (zs : List (List UInt8 × Int × Bool)) (kf : FuncId) (w : World) (hzs : Sl w [] 3 Azs zs.length czs (zs.flatMap gRule)) (hzs_e : ∀ u ∈ zs, u.1.length ≤ 9223372036854775807) (hf : ∀ (x : List UInt8 × Int × Bool) (w : World) (_ : x.1.length ≤ 9223372036854775807), Does Tryd.prog kf [.agg #[Str x.1, .int .i64 x.2.1, .bool x.2.2]] w (fun v w' => v = .bool (p x) ∧ SH w w' [] [])) : Does Tryd.prog 72 [.slice Azs zs.length czs, .func (.func kf) #[] #[]] w (fun v w' => v = .bool (zs.any p) ∧ SH w w' [] []) := by
 refine fn_enter (N := 9) Tryd.func72 rfl (by kernel_rfl) rfl rfl rfl ?_
 have hs0 : SH w w [] [] := SH.refl w []
 have hzs_m : zs.length ≤ 9223372036854775807 := Nat.le_trans hzs.cap hzs.capMax
 refine sq ?_
 refine rg ?_
 refine q trivial rfl rfl (asg (v := .bool false) rfl) ?_
 refine nl ?_
 refine nN ?_
 refine sq ?_
 refine rg ?_
 refine q trivial rfl rfl (mv (v := .slice Azs zs.length czs) rfl) ?_
 refine q trivial rfl rfl (mv (v := .func (.func kf) #[] #[]) rfl) ?_
 refine cl trivial rfl (slIndexFuncR (p := p) (Azs := Azs) (czs := czs) (zs := zs) (kf := kf) (w := _) (hzs := (hzs.up0 hs0)) (hzs_e := hzs_e) (hf := hf)) ?_
 rintro _ w1 ⟨rfl, hs1'⟩
 have hs1 : SH w w1 [] [] := hs0.call0 hs1'
 clear hs1'
 refine q trivial rfl rfl (geq (k := .i64) (a := idxP p zs) (b := 0) rfl rfl) ?_
 refine q trivial rfl rfl (asg (v := .bool (decide ((0 : Int) ≤ (idxP p zs)))) rfl) ?_
 refine nl ?_
 refine nN ?_
 refine rt ?_
 refine fret (v := .bool (decide ((0 : Int) ≤ (idxP p zs)))) (.tmp .nil) rfl ?_
 have e1 : (decide ((0 : Int) ≤ (idxP p zs))) = zs.any p := by exact idxP_any p zs
 exact ⟨(congrArg (Value.bool) e1), hs1⟩

theorem iRV1 (l : List UInt8) (n : Int) (b : Bool) (w : World) (hl_n : l.length ≤ 9223372036854775807) : Does Tryd.prog 73 [.agg #[Str l, I n, .bool b]] w (fun v w' => v = .bool (!ruleOk (l, n, b)) ∧ SH w w' [] []) := by
 refine fn_enter (N := 19) Tryd.func73 rfl (by kernel_rfl) rfl rfl rfl ?_
 have hs0 : SH w w [] [] := SH.refl w []
 refine sq ?_
 refine rg ?_
 refine bx (v := .agg #[Str l, I n, .bool b]) (cs := [Str l, I n, .bool b]) hs0 rfl rfl trivial rfl (fun b1 w1 (hs1 : SH w w1 [] [.blk b1 83 [Str l, I n, .bool b]]) => ?_)
 refine q trivial rfl rfl (asg (v := .bool false) rfl) ?_
 refine nl ?_
 refine nN ?_
 refine sq ?_
 refine rg ?_
 refine q trivial rfl rfl (fa 0 fo83_0 rfl) ?_
 refine q trivial rfl rfl (ld (v := Str l) hs1 0 rfl rfl rfl one9) ?_
 refine q trivial rfl rfl (lnS (l := l) st9 rfl) ?_
 refine q trivial rfl rfl (gtr (k := .i64) (a := ((l.length : Nat) : Int)) (b := 20) rfl rfl) ?_
 refine q trivial rfl rfl (mv (v := .bool (decide ((20 : Int) < ((l.length : Nat) : Int)))) rfl) ?_
 refine spd (p := (20 : Int) < ((l.length : Nat) : Int)) 7 rfl (fun h1 => ?_) (fun h1 => ?_)
 · refine gk true rfl rfl rfl rfl rfl ?_
   refine gk true rfl rfl rfl rfl rfl ?_
   refine gk true rfl rfl rfl rfl rfl ?_
   refine gk true rfl rfl rfl rfl rfl ?_
   refine q trivial rfl rfl (pt (v := .bool true) rfl rfl) ?_
   refine q trivial rfl rfl (mv (v := .bool true) rfl) ?_
   refine gk true rfl rfl rfl rfl rfl ?_
   refine gk true rfl rfl rfl rfl rfl ?_
   refine gk true rfl rfl rfl rfl rfl ?_
   refine gk true rfl rfl rfl rfl rfl ?_
   refine q trivial rfl rfl (pt (v := .bool true) rfl rfl) ?_
   refine q trivial rfl rfl (asg (v := .bool true) rfl) ?_
   refine nl ?_
   refine nN ?_
   refine rt ?_
   refine fret (v := .bool true) (.tmp .nil) rfl ?_
   have e1 : true = !ruleOk (l, n, b) := by first | exact rv1a (by omega) | exact rv1b (by assumption) | exact rv1c (by omega) (by assumption)
   exact ⟨(congrArg (Value.bool) e1), (hs1.pick [] rfl (by decide))⟩
 · refine q ⟨_, rfl, rfl⟩ rfl rfl (fa 0 fo83_0 rfl) ?_
   refine q ⟨_, rfl, rfl⟩ rfl rfl (ld (v := Str l) hs1 0 rfl rfl rfl one9) ?_
   refine cl ⟨_, rfl, rfl⟩ rfl (iConsists (l := l) (m := [45, 46]) (w := _) (hl_n := (by first | omega | (simp; done) | (simp; omega)))) ?_
   rintro _ w2 ⟨rfl, hs2'⟩
   have hs2 : SH w w2 [] [.blk b1 83 [Str l, I n, .bool b]] := hs1.call0 hs2'
   clear hs2'
   refine q ⟨_, rfl, rfl⟩ rfl rfl (nt (b := l.all (okC [45, 46])) rfl) ?_
   refine q trivial rfl rfl (pf (v := .bool (!(l.all (okC [45, 46])))) rfl rfl) ?_
   refine q trivial rfl rfl (mv (v := .bool (!(l.all (okC [45, 46])))) rfl) ?_
   refine spl (b := !(l.all (okC [45, 46]))) 13 rfl (fun h2 => ?_) (fun h2 => ?_)
   · have h3 : (l.all (okC [45, 46])) = false := by simpa using h2
     refine gk true rfl rfl rfl rfl rfl ?_
     refine gk true rfl rfl rfl rfl rfl ?_
     refine gk true rfl rfl rfl rfl rfl ?_
     refine gk true rfl rfl rfl rfl rfl ?_
     refine q trivial rfl rfl (pt (v := .bool true) rfl rfl) ?_
     refine q trivial rfl rfl (asg (v := .bool true) rfl) ?_
     refine nl ?_
     refine nN ?_
     refine rt ?_
     refine fret (v := .bool true) (.tmp .nil) rfl ?_
     have e2 : true = !ruleOk (l, n, b) := by first | exact rv1a (by omega) | exact rv1b (by assumption) | exact rv1c (by omega) (by assumption)
     exact ⟨(congrArg (Value.bool) e2), (hs2.pick [] rfl (by decide))⟩
   · have h4 : (l.all (okC [45, 46])) = true := by simpa using h2
     refine q ⟨_, rfl, rfl⟩ rfl rfl (fa 1 fo83_1 rfl) ?_
     refine q ⟨_, rfl, rfl⟩ rfl rfl (ld (v := I n) hs2 0 rfl rfl rfl one3) ?_
     refine cl ⟨_, rfl, rfl⟩ rfl (isPort (x := n) (w := _)) ?_
     rintro _ w3 ⟨rfl, hs3'⟩
     have hs3 : SH w w3 [] [.blk b1 83 [Str l, I n, .bool b]] := hs2.call0 hs3'
     clear hs3'
     refine q ⟨_, rfl, rfl⟩ rfl rfl (nd (p := 0 ≤ n ∧ n ≤ 65535) rfl) ?_
     refine q trivial rfl rfl (pf (v := .bool (decide (¬ (0 ≤ n ∧ n ≤ 65535)))) rfl rfl) ?_
     refine q trivial rfl rfl (asg (v := .bool (decide (¬ (0 ≤ n ∧ n ≤ 65535)))) rfl) ?_
     refine nl ?_
     refine nN ?_
     refine rt ?_
     refine fret (v := .bool (decide (¬ (0 ≤ n ∧ n ≤ 65535)))) (.tmp .nil) rfl ?_
     have e3 : (decide (¬ (0 ≤ n ∧ n ≤ 65535))) = !ruleOk (l, n, b) := by first | exact rv1a (by omega) | exact rv1b (by assumption) | exact rv1c (by omega) (by assumption)
     exact ⟨(congrArg (Value.bool) e3), (hs3.pick [] rfl (by decide))⟩

theorem iRulesValid {Azs : Option Addr} {czs : Nat} (zs : List (List UInt8 × Int × Bool)) (w : World) (hzs : Sl w [] 3 Azs zs.length czs (zs.flatMap gRule)) (hzs_e : ∀ u ∈ zs, u.1.length ≤ 9223372036854775807) : Does Tryd.prog 45 [.slice Azs zs.length czs] w (fun v w' => v = .bool (rulesOk zs) ∧ SH w w' [] []) := by
 refine fn_enter (N := 11) Tryd.func45 rfl (by kernel_rfl) rfl rfl rfl ?_
 have hs0 : SH w w [] [] := SH.refl w []
 have hzs_m : zs.length ≤ 9223372036854775807 := Nat.le_trans hzs.cap hzs.capMax
 refine sq ?_
 refine rg ?_
 refine q trivial rfl rfl (asg (v := .bool false) rfl) ?_
 refine nl ?_
 refine nN ?_
 refine sq ?_
 refine rg ?_
 refine q trivial rfl rfl (mv (v := .slice Azs zs.length czs) rfl) ?_
 refine q trivial rfl rfl (lnA (n := zs.length) sl42 rfl) ?_
 refine q trivial rfl rfl (leq (k := .i64) (a := ((zs.length : Nat) : Int)) (b := 6) rfl rfl) ?_
 refine q trivial rfl rfl (mv (v := .bool (decide (((zs.length : Nat) : Int) ≤ 6))) rfl) ?_
 refine spd (p := ((zs.length : Nat) : Int) ≤ 6) 6 rfl (fun h1 => ?_) (fun h1 => ?_)
 · refine q ⟨_, rfl, rfl⟩ rfl rfl (mv (v := .slice Azs zs.length czs) rfl) ?_
   refine cl ⟨_, rfl, rfl⟩ rfl (slContainsFuncR (p := (fun x => (!ruleOk (x.1, x.2.1, x.2.2)))) (Azs := Azs) (czs := czs) (zs := zs) (kf := 73) (w := _) (hzs := (hzs.up0 hs0)) (hzs_e := hzs_e) (hf := (fun x w hx => iRV1 (l := x.1) (n := x.2.1) (b := x.2.2) w hx))) ?_
   rintro _ w1 ⟨rfl, hs1'⟩
   have hs1 : SH w w1 [] [] := hs0.call0 hs1'
   clear hs1'
   refine q ⟨_, rfl, rfl⟩ rfl rfl (nt (b := zs.any (fun x => (!ruleOk (x.1, x.2.1, x.2.2)))) rfl) ?_
   refine q trivial rfl rfl (pt (v := .bool (!(zs.any (fun x => (!ruleOk (x.1, x.2.1, x.2.2)))))) rfl rfl) ?_
   refine q trivial rfl rfl (asg (v := .bool (!(zs.any (fun x => (!ruleOk (x.1, x.2.1, x.2.2)))))) rfl) ?_
   refine nl ?_
   refine nN ?_
   refine rt ?_
   refine fret (v := .bool (!(zs.any (fun x => (!ruleOk (x.1, x.2.1, x.2.2)))))) (.tmp .nil) rfl ?_
   have e1 : (!(zs.any (fun x => (!ruleOk (x.1, x.2.1, x.2.2))))) = rulesOk zs := by rw [← rulesOk_any]; simp [h1]
   exact ⟨(congrArg (Value.bool) e1), hs1⟩
 · refine gk false rfl rfl rfl rfl rfl ?_
   refine gk false rfl rfl rfl rfl rfl ?_
   refine gk false rfl rfl rfl rfl rfl ?_
   refine q trivial rfl rfl (pf (v := .bool false) rfl rfl) ?_
   refine q trivial rfl rfl (asg (v := .bool false) rfl) ?_
   refine nl ?_
   refine nN ?_
   refine rt ?_
   refine fret (v := .bool false) (.tmp .nil) rfl ?_
   have e2 : false = rulesOk zs := by rw [← rulesOk_any]; simp [h1]
   exact ⟨(congrArg (Value.bool) e2), hs0⟩

theorem sRulesValid {Azs : Option Addr} {czs : Nat} (zs : List (List UInt8 × Int × Bool)) (w : World) (hzs : Sl w [] 3 Azs zs.length czs (zs.flatMap gRule)) (hzs_e : ∀ u ∈ zs, u.1.length ≤ 9223372036854775807) : Does Tryd.prog 49 [.slice Azs zs.length czs] w (fun v w' => v = .bool (rulesOk zs) ∧ SH w w' [] []) := by
 refine fn_enter (N := 55) Tryd.func49 rfl (by kernel_rfl) rfl rfl rfl ?_
 have hs0 : SH w w [] [] := SH.refl w []
 have hzs_m : zs.length ≤ 9223372036854775807 := Nat.le_trans hzs.cap hzs.capMax
 refine sq ?_
 refine rg ?_
 refine q trivial rfl rfl (asg (v := .bool false) rfl) ?_
 refine nl ?_
 refine nN ?_
 refine sq ?_
 refine sq ?_
 refine rg ?_
 refine q trivial rfl rfl (asg (v := I 0) rfl) ?_
 refine nl ?_
 refine nN ?_
 refine bl ?_
 refine lp (σ := Nat) (fun (k : Nat) f w' => Has f [(0, .slice Azs zs.length czs), (3, I ((k : Nat) : Int))] ∧ (k ≤ zs.length) ∧ ((zs.take k).all ruleOk = true) ∧ SH w w' [] []) (fun k => zs.length - k) 0 ⟨⟨rfl, rfl, trivial⟩, (by simp), (by simp), hs0⟩ ?_
 rintro k f w1 ⟨hf, hk, ha, hs1⟩
 obtain ⟨g1, rfl⟩ := has_upd hf
 clear hf
 refine sq ?_
 refine sq ?_
 refine rg ?_
 refine q trivial rfl rfl (mv (v := I ((k : Nat) : Int)) rfl) ?_
 refine q trivial rfl rfl (mv (v := .slice Azs zs.length czs) rfl) ?_
 refine q trivial rfl rfl (lnA (n := zs.length) sl42 rfl) ?_
 refine q trivial rfl rfl (lss (k := .i64) (a := ((k : Nat) : Int)) (b := ((zs.length : Nat) : Int)) rfl rfl) ?_
 refine nl ?_
 refine nN ?_
 refine cdd (p := ((k : Nat) : Int) < ((zs.length : Nat) : Int)) rfl (fun h1 => ?_) (fun h1 => ?_)
 · refine sk ?_
   refine nN ?_
   refine sq ?_
   refine bl ?_
   refine sq ?_
   refine sq ?_
   refine rg ?_
   refine q trivial rfl rfl (asg (v := I 0) rfl) ?_
   refine nl ?_
   refine nN ?_
   refine bl ?_
   refine lp (σ := Nat) (fun (j : Nat) f w' => Has f [(0, .slice Azs zs.length czs), (3, I ((k : Nat) : Int)), (4, I ((j : Nat) : Int))] ∧ (j ≤ (zs.getD k rule0).1.length) ∧ (((zs.getD k rule0).1.take j).all (okC [45, 46]) = true) ∧ SH w w' [] []) (fun j => (zs.getD k rule0).1.length - j) 0 ⟨⟨rfl, rfl, rfl, trivial⟩, (by simp), (by simp), hs1⟩ ?_
   rintro j f w2 ⟨hf, hj, hb, hs2⟩
   obtain ⟨g2, rfl⟩ := has_upd hf
   clear hf
   refine sq ?_
   refine sq ?_
   refine rg ?_
   refine q trivial rfl rfl (mv (v := I ((j : Nat) : Int)) rfl) ?_
   refine q trivial rfl rfl (mv (v := .slice Azs zs.length czs) rfl) ?_
   refine q trivial rfl rfl (mv (v := I ((k : Nat) : Int)) rfl) ?_
   refine ixwf (g := gRule) (zs := zs) (fun _ => rfl) rule0 k sl42 rfl rfl hzs (by first | (first | omega | (simp; done) | (simp; omega)) | (have hre := hzs_e _ (getD_mem' (d := rule0) (show k < zs.length by omega)); first | omega | (simp; done) | (simp; omega))) (by first | (first | omega | (simp; done) | (simp; omega)) | (have hre := hzs_e _ (getD_mem' (d := rule0) (show k < zs.length by omega)); first | omega | (simp; done) | (simp; omega))) trivial rfl (fun a1 ha1 => ?_)
   refine q trivial rfl rfl (fap 0 fo83_0 rfl) ?_
   refine q trivial rfl rfl (ldf (v := Str ((zs.getD k rule0).1)) 0 hs2 ha1 (fun _ h => h) rfl rfl one9) ?_
   refine q trivial rfl rfl (lnS (l := (zs.getD k rule0).1) st9 rfl) ?_
   refine q trivial rfl rfl (lss (k := .i64) (a := ((j : Nat) : Int)) (b := ((((zs.getD k rule0).1).length : Nat) : Int)) rfl rfl) ?_
   refine nl ?_
   refine nN ?_
   refine cdd (p := ((j : Nat) : Int) < ((((zs.getD k rule0).1).length : Nat) : Int)) rfl (fun h2 => ?_) (fun h2 => ?_)
   · refine sk ?_
     refine nN ?_
     refine sq ?_
     refine bl ?_
     refine sq ?_
     refine rg ?_
     refine q trivial rfl rfl (mv (v := .slice Azs zs.length czs) rfl) ?_
     refine q trivial rfl rfl (mv (v := I ((k : Nat) : Int)) rfl) ?_
     refine ixwf (g := gRule) (zs := zs) (fun _ => rfl) rule0 k sl42 rfl rfl hzs (by first | (first | omega | (simp; done) | (simp; omega)) | (have hre := hzs_e _ (getD_mem' (d := rule0) (show k < zs.length by omega)); first | omega | (simp; done) | (simp; omega))) (by first | (first | omega | (simp; done) | (simp; omega)) | (have hre := hzs_e _ (getD_mem' (d := rule0) (show k < zs.length by omega)); first | omega | (simp; done) | (simp; omega))) trivial rfl (fun a2 ha2 => ?_)
     refine q trivial rfl rfl (fap 0 fo83_0 rfl) ?_
     refine q trivial rfl rfl (ldf (v := Str ((zs.getD k rule0).1)) 0 hs2 ha2 (fun _ h => h) rfl rfl one9) ?_
     refine q trivial rfl rfl (mv (v := I ((j : Nat) : Int)) rfl) ?_
     refine q trivial rfl rfl (ixs (l := (zs.getD k rule0).1) j st9 rfl rfl (by first | (first | omega | (simp; done) | (simp; omega)) | (have hre := hzs_e _ (getD_mem' (d := rule0) (show k < zs.length by omega)); first | omega | (simp; done) | (simp; omega)))) ?_
     refine q trivial rfl rfl (asg (v := .int .u8 (((((zs.getD k rule0).1).getD j 0).toNat : Nat) : Int)) rfl) ?_
     refine nl ?_
     refine nN ?_
     refine sq ?_
     refine rg ?_
     refine q trivial rfl rfl (mv (v := .int .u8 (((((zs.getD k rule0).1).getD j 0).toNat : Nat) : Int)) rfl) ?_
     refine cl trivial rfl (sLetter (c := (((zs.getD k rule0).1).getD j 0)) (w := _)) ?_
     rintro _ w3 ⟨rfl, hs3'⟩
     have hs3 : SH w w3 [] [] := hs2.call0 hs3'
     clear hs3'
     refine q trivial rfl rfl (nt (b := letC (((zs.getD k rule0).1).getD j 0)) rfl) ?_
     refine q trivial rfl rfl (mv (v := .bool (!(letC (((zs.getD k rule0).1).getD j 0)))) rfl) ?_
     refine spl (b := !(letC (((zs.getD k rule0).1).getD j 0))) 32 rfl (fun h3 => ?_) (fun h3 => ?_)
     · have h4 : (letC (((zs.getD k rule0).1).getD j 0)) = false := by simpa using h3
       refine q ⟨_, rfl, rfl⟩ rfl rfl (mv (v := .int .u8 (((((zs.getD k rule0).1).getD j 0).toNat : Nat) : Int)) rfl) ?_
       refine q ⟨_, rfl, rfl⟩ rfl rfl (nei (k := .u8) (a := (((((zs.getD k rule0).1).getD j 0).toNat : Nat) : Int)) (b := 46) rfl rfl) ?_
       refine q trivial rfl rfl (pt (v := .bool (decide ((((((zs.getD k rule0).1).getD j 0).toNat : Nat) : Int) ≠ 46))) rfl rfl) ?_
       refine nl ?_
       refine nN ?_
       refine cdd (p := (((((zs.getD k rule0).1).getD j 0).toNat : Nat) : Int) ≠ 46) rfl (fun h5 => ?_) (fun h5 => ?_)
       · refine sq ?_
         refine rg ?_
         refine q trivial rfl rfl (asg (v := .bool false) rfl) ?_
         refine nl ?_
         refine nN ?_
         refine rt (bR (tR (tR (bR (tR (bR (tR (tR (bR (tR ?_))))))))))
         refine fret (v := .bool false) (.tmp .nil) rfl ?_
         have e1 : false = rulesOk zs := by exact (rules_bad1 (k := k) (j := j) (by omega) (by omega) (ruleC_no (by assumption) (by omega))).symm
         exact ⟨(congrArg (Value.bool) e1), hs3⟩
       · refine sk ?_
         refine bN ?_
         refine nN ?_
         refine rg ?_
         refine q trivial rfl rfl (mv (v := I ((j : Nat) : Int)) rfl) ?_
         refine q trivial rfl rfl (add (a := ((j : Nat) : Int)) (b := 1) rfl rfl (by first | (exact ⟨by omega, by omega⟩) | (have hre := hzs_e _ (getD_mem' (d := rule0) (show k < zs.length by omega)); exact ⟨by omega, by omega⟩))) ?_
         refine q trivial rfl rfl (asg (v := I (((j : Nat) : Int) + 1)) rfl) ?_
         refine nl ?_
         refine nN ?_
         refine ⟨(j + 1), ⟨⟨rfl, rfl, rfl, trivial⟩, (by omega), (all_step (d := 0) (by omega) hb (ruleC_mk (by first | exact .inl (by assumption) | exact .inr (by omega)))), hs3⟩, ?_⟩
         omega
     · have h6 : (letC (((zs.getD k rule0).1).getD j 0)) = true := by simpa using h3
       refine gk false rfl rfl rfl rfl rfl ?_
       refine gk false rfl rfl rfl rfl rfl ?_
       refine q trivial rfl rfl (pf (v := .bool false) rfl rfl) ?_
       refine nl ?_
       refine nN ?_
       refine cdf rfl ?_
       refine sk ?_
       refine bN ?_
       refine nN ?_
       refine rg ?_
       refine q trivial rfl rfl (mv (v := I ((j : Nat) : Int)) rfl) ?_
       refine q trivial rfl rfl (add (a := ((j : Nat) : Int)) (b := 1) rfl rfl (by first | (exact ⟨by omega, by omega⟩) | (have hre := hzs_e _ (getD_mem' (d := rule0) (show k < zs.length by omega)); exact ⟨by omega, by omega⟩))) ?_
       refine q trivial rfl rfl (asg (v := I (((j : Nat) : Int) + 1)) rfl) ?_
       refine nl ?_
       refine nN ?_
       refine ⟨(j + 1), ⟨⟨rfl, rfl, rfl, trivial⟩, (by omega), (all_step (d := 0) (by omega) hb (ruleC_mk (by first | exact .inl (by assumption) | exact .inr (by omega)))), hs3⟩, ?_⟩
       omega
   · refine ex (tE (tE (bE ?_)))
     refine nN ?_
     refine sq ?_
     refine rg ?_
     refine q trivial rfl rfl (mv (v := .slice Azs zs.length czs) rfl) ?_
     refine q trivial rfl rfl (mv (v := I ((k : Nat) : Int)) rfl) ?_
     refine ixwf (g := gRule) (zs := zs) (fun _ => rfl) rule0 k sl42 rfl rfl hzs (by first | (first | omega | (simp; done) | (simp; omega)) | (have hre := hzs_e _ (getD_mem' (d := rule0) (show k < zs.length by omega)); first | omega | (simp; done) | (simp; omega))) (by first | (first | omega | (simp; done) | (simp; omega)) | (have hre := hzs_e _ (getD_mem' (d := rule0) (show k < zs.length by omega)); first | omega | (simp; done) | (simp; omega))) trivial rfl (fun a3 ha3 => ?_)
     refine q trivial rfl rfl (fap 0 fo83_0 rfl) ?_
     refine q trivial rfl rfl (ldf (v := Str ((zs.getD k rule0).1)) 0 hs2 ha3 (fun _ h => h) rfl rfl one9) ?_
     refine q trivial rfl rfl (lnS (l := (zs.getD k rule0).1) st9 rfl) ?_
     refine q trivial rfl rfl (gtr (k := .i64) (a := ((((zs.getD k rule0).1).length : Nat) : Int)) (b := 20) rfl rfl) ?_
     refine q trivial rfl rfl (mv (v := .bool (decide ((20 : Int) < ((((zs.getD k rule0).1).length : Nat) : Int)))) rfl) ?_
     refine spd (p := (20 : Int) < ((((zs.getD k rule0).1).length : Nat) : Int)) 43 rfl (fun h7 => ?_) (fun h7 => ?_)
     · refine gk true rfl rfl rfl rfl rfl ?_
       refine gk true rfl rfl rfl rfl rfl ?_
       refine gk true rfl rfl rfl rfl rfl ?_
       refine gk true rfl rfl rfl rfl rfl ?_
       refine gk true rfl rfl rfl rfl rfl ?_
       refine gk true rfl rfl rfl rfl rfl ?_
       refine gk true rfl rfl rfl rfl rfl ?_
       refine q trivial rfl rfl (pt (v := .bool true) rfl rfl) ?_
       refine nl ?_
       refine nN ?_
       refine cdt rfl ?_
       refine sq ?_
       refine rg ?_
       refine q trivial rfl rfl (asg (v := .bool false) rfl) ?_
       refine nl ?_
       refine nN ?_
       refine rt (bR (tR (tR (bR (tR ?_)))))
       refine fret (v := .bool false) (.tmp .nil) rfl ?_
       have e2 : false = rulesOk zs := by exact (rules_bad2 (k := k) (by omega) (by omega)).symm
       exact ⟨(congrArg (Value.bool) e2), hs2⟩
     · refine q ⟨_, rfl, rfl⟩ rfl rfl (mv (v := .slice Azs zs.length czs) rfl) ?_
       refine q ⟨_, rfl, rfl⟩ rfl rfl (mv (v := I ((k : Nat) : Int)) rfl) ?_
       refine ixwf (g := gRule) (zs := zs) (fun _ => rfl) rule0 k sl42 rfl rfl hzs (by first | (first | omega | (simp; done) | (simp; omega)) | (have hre := hzs_e _ (getD_mem' (d := rule0) (show k < zs.length by omega)); first | omega | (simp; done) | (simp; omega))) (by first | (first | omega | (simp; done) | (simp; omega)) | (have hre := hzs_e _ (getD_mem' (d := rule0) (show k < zs.length by omega)); first | omega | (simp; done) | (simp; omega))) ⟨_, rfl, rfl⟩ rfl (fun a4 ha4 => ?_)
       refine q ⟨_, rfl, rfl⟩ rfl rfl (fap 1 fo83_1 rfl) ?_
       refine q ⟨_, rfl, rfl⟩ rfl rfl (ldf (v := I ((zs.getD k rule0).2.1)) 1 hs2 ha4 (fun _ h => h) rfl rfl one3) ?_
       refine cl ⟨_, rfl, rfl⟩ rfl (sIn (x := (zs.getD k rule0).2.1) (lo := 0) (hi := 65535) (w := _)) ?_
       rintro _ w4 ⟨rfl, hs4'⟩
       have hs4 : SH w w4 [] [] := hs2.call0 hs4'
       clear hs4'
       refine q ⟨_, rfl, rfl⟩ rfl rfl (nd (p := 0 ≤ ((zs.getD k rule0).2.1) ∧ ((zs.getD k rule0).2.1) ≤ 65535) rfl) ?_
       refine q trivial rfl rfl (pf (v := .bool (decide (¬ (0 ≤ ((zs.getD k rule0).2.1) ∧ ((zs.getD k rule0).2.1) ≤ 65535)))) rfl rfl) ?_
       refine nl ?_
       refine nN ?_
       refine cdd (p := ¬ (0 ≤ ((zs.getD k rule0).2.1) ∧ ((zs.getD k rule0).2.1) ≤ 65535)) rfl (fun h8 => ?_) (fun h8 => ?_)
       · refine sq ?_
         refine rg ?_
         refine q trivial rfl rfl (asg (v := .bool false) rfl) ?_
         refine nl ?_
         refine nN ?_
         refine rt (bR (tR (tR (bR (tR ?_)))))
         refine fret (v := .bool false) (.tmp .nil) rfl ?_
         have e3 : false = rulesOk zs := by exact (rules_bad2 (k := k) (by omega) (by omega)).symm
         exact ⟨(congrArg (Value.bool) e3), hs4⟩
       · refine sk ?_
         refine bN ?_
         refine nN ?_
         refine rg ?_
         refine q trivial rfl rfl (mv (v := I ((k : Nat) : Int)) rfl) ?_
         refine q trivial rfl rfl (add (a := ((k : Nat) : Int)) (b := 1) rfl rfl (by first | (exact ⟨by omega, by omega⟩) | (have hre := hzs_e _ (getD_mem' (d := rule0) (show k < zs.length by omega)); exact ⟨by omega, by omega⟩))) ?_
         refine q trivial rfl rfl (asg (v := I (((k : Nat) : Int) + 1)) rfl) ?_
         refine nl ?_
         refine nN ?_
         refine ⟨(k + 1), ⟨⟨rfl, rfl, trivial⟩, (by omega), (all_step (d := rule0) (by omega) ha (ruleOk_mk (by omega) (all_yes (k := j) (by omega) hb) (by omega))), hs4⟩, ?_⟩
         omega
 · refine ex (tE (tE (bE ?_)))
   refine nN ?_
   refine sq ?_
   refine rg ?_
   refine q trivial rfl rfl (mv (v := .slice Azs zs.length czs) rfl) ?_
   refine q trivial rfl rfl (lnA (n := zs.length) sl42 rfl) ?_
   refine q trivial rfl rfl (leq (k := .i64) (a := ((zs.length : Nat) : Int)) (b := 6) rfl rfl) ?_
   refine q trivial rfl rfl (asg (v := .bool (decide (((zs.length : Nat) : Int) ≤ 6))) rfl) ?_
   refine nl ?_
   refine nN ?_
   refine rt ?_
   refine fret (v := .bool (decide (((zs.length : Nat) : Int) ≤ 6))) (.tmp .nil) rfl ?_
   have e4 : (decide (((zs.length : Nat) : Int) ≤ 6)) = rulesOk zs := by exact rules_end (by omega) ha
   exact ⟨(congrArg (Value.bool) e4), hs1⟩


end Go.Proofs.YtcgdccfofinheaaDoor
