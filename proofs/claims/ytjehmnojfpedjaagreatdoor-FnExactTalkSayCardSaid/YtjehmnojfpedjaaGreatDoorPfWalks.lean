/-
  Part of the proofs over this seat: what each function of the program computes, function by function (the text is written by a program of this hand-in's own).
  Conditions: each theorem states its own.
-/
import Derived.Test.YtjehmnojfpedjaaGreatDoorProg
import Derived.KernelRfl
import Derived.Test.YtjehmnojfpedjaaGreatDoorPfModel
import Derived.Test.YtjehmnojfpedjaaGreatDoorPfShelf
namespace Go.Proofs.YtjehmnojfpedjaaGreatDoor
open Go.PF
set_option maxRecDepth 100000
set_option linter.unusedSimpArgs false
set_option linter.unusedVariables false

theorem ag25 : aggOk Tryz.prog 25 4 = true := by kernel_rfl
theorem ag29 : aggOk Tryz.prog 29 4 = true := by kernel_rfl
theorem ag43 : aggOk Tryz.prog 43 4 = true := by kernel_rfl
theorem ag45 : aggOk Tryz.prog 45 5 = true := by kernel_rfl
theorem ag51 : aggOk Tryz.prog 51 2 = true := by kernel_rfl
theorem ag63 : aggOk Tryz.prog 63 2 = true := by kernel_rfl
theorem fo133_0 : fieldOk Tryz.prog 133 0 0 = true := by kernel_rfl
theorem fo133_1 : fieldOk Tryz.prog 133 1 1 = true := by kernel_rfl
theorem fo133_2 : fieldOk Tryz.prog 133 2 2 = true := by kernel_rfl
theorem fo181_1 : fieldOk Tryz.prog 181 1 1 = true := by kernel_rfl
theorem fo25_0 : fieldOk Tryz.prog 25 0 0 = true := by kernel_rfl
theorem fo25_1 : fieldOk Tryz.prog 25 1 1 = true := by kernel_rfl
theorem fo25_2 : fieldOk Tryz.prog 25 2 2 = true := by kernel_rfl
theorem fo25_3 : fieldOk Tryz.prog 25 3 3 = true := by kernel_rfl
theorem fo29_0 : fieldOk Tryz.prog 29 0 0 = true := by kernel_rfl
theorem fo29_1 : fieldOk Tryz.prog 29 1 1 = true := by kernel_rfl
theorem fo29_2 : fieldOk Tryz.prog 29 2 2 = true := by kernel_rfl
theorem fo29_3 : fieldOk Tryz.prog 29 3 3 = true := by kernel_rfl
theorem fo43_0 : fieldOk Tryz.prog 43 0 0 = true := by kernel_rfl
theorem fo43_1 : fieldOk Tryz.prog 43 1 1 = true := by kernel_rfl
theorem fo43_2 : fieldOk Tryz.prog 43 2 2 = true := by kernel_rfl
theorem fo43_3 : fieldOk Tryz.prog 43 3 3 = true := by kernel_rfl
theorem fo45_0 : fieldOk Tryz.prog 45 0 0 = true := by kernel_rfl
theorem fo45_1 : fieldOk Tryz.prog 45 1 1 = true := by kernel_rfl
theorem fo51_0 : fieldOk Tryz.prog 51 0 0 = true := by kernel_rfl
theorem fo51_1 : fieldOk Tryz.prog 51 1 1 = true := by kernel_rfl
theorem fo63_0 : fieldOk Tryz.prog 63 0 0 = true := by kernel_rfl
theorem fo63_1 : fieldOk Tryz.prog 63 1 1 = true := by kernel_rfl
theorem ifc164 : isIfcT Tryz.prog 164 = true := by kernel_rfl
theorem mixed : Tryz.prog.follows .mixedOrders = true := by kernel_rfl
theorem one22 : oneOk Tryz.prog 22 = true := by kernel_rfl
theorem one23 : oneOk Tryz.prog 23 = true := by kernel_rfl
theorem one27 : oneOk Tryz.prog 27 = true := by kernel_rfl
theorem one3 : oneOk Tryz.prog 3 = true := by kernel_rfl
theorem one39 : oneOk Tryz.prog 39 = true := by kernel_rfl
theorem one4 : oneOk Tryz.prog 4 = true := by kernel_rfl
theorem one5 : oneOk Tryz.prog 5 = true := by kernel_rfl
theorem one9 : oneOk Tryz.prog 9 = true := by kernel_rfl
theorem s2_51 : str2Ok Tryz.prog 51 = true := by kernel_rfl
theorem sl147 : SlT Tryz.prog 147 9 1 16 (Str []) := SlT.mk' (by kernel_rfl) (by kernel_rfl)
theorem sl22 : SlT Tryz.prog 22 3 1 8 (.int .i64 0) := SlT.mk' (by kernel_rfl) (by kernel_rfl)
theorem sl23 : SlT Tryz.prog 23 63 2 32 (.agg #[Str [], Str []]) := SlT.mk' (by kernel_rfl) (by kernel_rfl)
theorem sl27 : SlT Tryz.prog 27 51 2 32 (.agg #[Str [], Str []]) := SlT.mk' (by kernel_rfl) (by kernel_rfl)
theorem sl39 : SlT Tryz.prog 39 5 1 1 (.int .u8 0) := SlT.mk' (by kernel_rfl) (by kernel_rfl)
theorem st9 : Tryz.prog.underlying 9 = some .string := by kernel_rfl
theorem tb4 : Tryz.prog.underlying 4 = some .bool := by kernel_rfl
theorem ti3 : Tryz.prog.underlying 3 = some (.int .i64) := by kernel_rfl
theorem ti5 : Tryz.prog.underlying 5 = some (.int .u8) := by kernel_rfl
theorem tp197 : Tryz.prog.underlying 197 = some (.pointer 5) := by kernel_rfl
theorem tz29 : (Tryz.prog.info? 29).bind (·.zero) = some (.agg #[.int .i64 0, .slice none 0 0, .slice none 0 0, Str []]) := by kernel_rfl
theorem tz43 : (Tryz.prog.info? 43).bind (·.zero) = some (.agg #[.int .i64 0, .slice none 0 0, Str [], .int .i64 0]) := by kernel_rfl
theorem tz45 : (Tryz.prog.info? 45).bind (·.zero) = some (.agg #[.int .i64 0, .int .i64 0, .slice none 0 0, Str [], .int .i64 0]) := by kernel_rfl
theorem tz51 : (Tryz.prog.info? 51).bind (·.zero) = some (.agg #[Str [], Str []]) := by kernel_rfl
theorem us39 : Tryz.prog.underlying 39 = some (.slice 5) := by kernel_rfl
theorem sIn (x : Int) (lo : Int) (hi : Int) (w : World)  : Does Tryz.prog 92 [I x, I lo, I hi] w (fun v w' => v = .bool (decide (lo ≤ x ∧ x ≤ hi)) ∧ SH w w' [] []) := by
 refine fn_enter (N := 15) Tryz.func92 rfl (by kernel_rfl) rfl rfl rfl ?_
 have hs0 : SH w w [] [] := SH.refl w []
 refine sq (rg (qt rfl (asg (v := .bool false) rfl) (nl (nN (sq (rg (qt rfl (mv (v := I x) rfl) ?_)))))))
 refine qt rfl (mv (v := I lo) rfl) (qt rfl (geq (k := .i64) (a := x) (b := lo) rfl rfl) (qt rfl (mv (v := .bool (decide (lo ≤ x))) rfl) ?_))
 refine spd (p := lo ≤ x) 10 rfl (fun h1 => ?_) (fun h1 => ?_)
 · refine q ⟨_, rfl, rfl⟩ rfl rfl (mv (v := I x) rfl) (q ⟨_, rfl, rfl⟩ rfl rfl (mv (v := I hi) rfl) (q ⟨_, rfl, rfl⟩ rfl rfl (leq (k := .i64) (a := x) (b := hi) rfl rfl) (qt rfl (pt (v := .bool (decide (x ≤ hi))) rfl rfl) (qt rfl (asg (v := .bool (decide (x ≤ hi))) rfl) (nl (nN (rt ?_)))))))
   refine fret (v := .bool (decide (x ≤ hi))) (.tmp .nil) rfl ?_
   have e1 : (decide (x ≤ hi)) = (decide (lo ≤ x ∧ x ≤ hi)) := by simp [*]
   exact ⟨(congrArg (Value.bool) e1), hs0⟩
 · refine gk false rfl rfl rfl rfl rfl (gk false rfl rfl rfl rfl rfl (gk false rfl rfl rfl rfl rfl (qt rfl (pf (v := .bool false) rfl rfl) (qt rfl (asg (v := .bool false) rfl) (nl (nN (rt ?_)))))))
   refine fret (v := .bool false) (.tmp .nil) rfl ?_
   have e2 : false = (decide (lo ≤ x ∧ x ≤ hi)) := by simp [*]
   exact ⟨(congrArg (Value.bool) e2), hs0⟩
theorem iWithin (x : Int) (lo : Int) (hi : Int) (w : World)  : Does Tryz.prog 73 [I x, I lo, I hi] w (fun v w' => v = .bool (decide (lo ≤ x ∧ x ≤ hi)) ∧ SH w w' [] []) := by
 refine fn_enter (N := 15) Tryz.func73 rfl (by kernel_rfl) rfl rfl rfl ?_
 have hs0 : SH w w [] [] := SH.refl w []
 refine sq (rg (qt rfl (asg (v := .bool false) rfl) (nl (nN (sq (rg (qt rfl (mv (v := I x) rfl) ?_)))))))
 refine qt rfl (mv (v := I lo) rfl) (qt rfl (geq (k := .i64) (a := x) (b := lo) rfl rfl) (qt rfl (mv (v := .bool (decide (lo ≤ x))) rfl) ?_))
 refine spd (p := lo ≤ x) 10 rfl (fun h1 => ?_) (fun h1 => ?_)
 · refine q ⟨_, rfl, rfl⟩ rfl rfl (mv (v := I x) rfl) (q ⟨_, rfl, rfl⟩ rfl rfl (mv (v := I hi) rfl) (q ⟨_, rfl, rfl⟩ rfl rfl (leq (k := .i64) (a := x) (b := hi) rfl rfl) (qt rfl (pt (v := .bool (decide (x ≤ hi))) rfl rfl) (qt rfl (asg (v := .bool (decide (x ≤ hi))) rfl) (nl (nN (rt ?_)))))))
   refine fret (v := .bool (decide (x ≤ hi))) (.tmp .nil) rfl ?_
   have e1 : (decide (x ≤ hi)) = (decide (lo ≤ x ∧ x ≤ hi)) := by simp [*]
   exact ⟨(congrArg (Value.bool) e1), hs0⟩
 · refine gk false rfl rfl rfl rfl rfl (gk false rfl rfl rfl rfl rfl (gk false rfl rfl rfl rfl rfl (qt rfl (pf (v := .bool false) rfl rfl) (qt rfl (asg (v := .bool false) rfl) (nl (nN (rt ?_)))))))
   refine fret (v := .bool false) (.tmp .nil) rfl ?_
   have e2 : false = (decide (lo ≤ x ∧ x ≤ hi)) := by simp [*]
   exact ⟨(congrArg (Value.bool) e2), hs0⟩
theorem iBV1 (x : Int) (w : World)  : Does Tryz.prog 103 [I x] w (fun v w' => v = .bool (decide (¬ (0 ≤ x ∧ x ≤ 255))) ∧ SH w w' [] []) := by
 refine fn_enter (N := 6) Tryz.func103 rfl (by kernel_rfl) rfl rfl rfl ?_
 have hs0 : SH w w [] [] := SH.refl w []
 refine sq (rg (qt rfl (asg (v := .bool false) rfl) (nl (nN (sq (rg (qt rfl (mv (v := I x) rfl) ?_)))))))
 refine cl trivial rfl (iWithin (x := x) (lo := 0) (hi := 255) (w := _)) ?_
 rintro _ w1 ⟨rfl, hs1'⟩
 have hs1 := hs0.call0 hs1'
 clear hs1'
 refine qt rfl (nd (p := 0 ≤ x ∧ x ≤ 255) rfl) (qt rfl (asg (v := .bool (decide (¬ (0 ≤ x ∧ x ≤ 255)))) rfl) (nl (nN (rt (fret (v := .bool (decide (¬ (0 ≤ x ∧ x ≤ 255)))) (.tmp .nil) rfl ?_)))))
 exact ⟨rfl, hs1⟩
theorem sBytesValid {Azs : Option Addr} {czs : Nat} (zs : List Int) (w : World) (hzs : Sl w [] 1 Azs zs.length czs (zs.map I)) : Does Tryz.prog 41 [.slice Azs zs.length czs] w (fun v w' => v = .bool (isBytes zs) ∧ SH w w' [] []) := by
 refine fn_enter (N := 19) Tryz.func41 rfl (by kernel_rfl) rfl rfl rfl ?_
 have hs0 : SH w w [] [] := SH.refl w []
 have hzs_m : zs.length ≤ 9223372036854775807 := Nat.le_trans hzs.cap hzs.capMax
 refine sq (rg (qt rfl (asg (v := .bool false) rfl) (nl (nN (sq (sq (rg ?_)))))))
 refine qt rfl (asg (v := I 0) rfl) (nl (nN (bl (lp (σ := Nat) (fun (k : Nat) f w' => Has f [(0, .slice Azs zs.length czs), (3, I ((k : Nat) : Int))] ∧ (k ≤ zs.length) ∧ (allB (zs.take k) = true) ∧ SH w w' [] []) (fun k => zs.length - k) 0 ⟨⟨rfl, rfl, trivial⟩, (by simp), (by simp [allB]), hs0⟩ ?_))))
 rintro k f w1 ⟨hf, hk, ha, hs1⟩
 obtain ⟨g1, rfl⟩ := has_upd hf
 clear hf
 refine sq (sq (rg (qt rfl (mv (v := I ((k : Nat) : Int)) rfl) (qt rfl (mv (v := .slice Azs zs.length czs) rfl) (qt rfl (lnA (n := zs.length) sl22 rfl) (qt rfl (lss (k := .i64) (a := ((k : Nat) : Int)) (b := ((zs.length : Nat) : Int)) rfl rfl) (nl ?_)))))))
 refine nN ?_
 refine cdd (p := ((k : Nat) : Int) < ((zs.length : Nat) : Int)) rfl (fun h1 => ?_) (fun h1 => ?_)
 · refine sk (nN (sq (bl (sq (rg (qt rfl (mv (v := .slice Azs zs.length czs) rfl) (qt rfl (mv (v := I ((k : Nat) : Int)) rfl) ?_)))))))
   refine ixw1 k sl22 rfl rfl hzs (by omega) (getm I 0 (by omega)) trivial rfl (fun a1 ha1 => ?_)
   refine qt rfl (lda (v := I (zs.getD k 0)) hs1 ha1 (fun _ h => h) rfl rfl one3) (cl trivial rfl (sIn (x := zs.getD k 0) (lo := 0) (hi := 255) (w := _)) ?_)
   rintro _ w2 ⟨rfl, hs2'⟩
   have hs2 := hs1.call0 hs2'
   clear hs2'
   refine qt rfl (nd (p := 0 ≤ (zs.getD k 0) ∧ (zs.getD k 0) ≤ 255) rfl) (nl (nN ?_))
   refine cdd (p := ¬ (0 ≤ (zs.getD k 0) ∧ (zs.getD k 0) ≤ 255)) rfl (fun h2 => ?_) (fun h2 => ?_)
   · refine sq (rg (qt rfl (asg (v := .bool false) rfl) (nl (nN ?_))))
     refine rt (bR (tR (tR (bR (tR ?_)))))
     refine fret (v := .bool false) (.tmp .nil) rfl ?_
     have e1 : false = isBytes zs := by exact bytes_no1 (k := k) (by omega) (by simpa using h2)
     exact ⟨(congrArg (Value.bool) e1), hs2⟩
   · refine sk (bN (nN (rg (qt rfl (mv (v := I ((k : Nat) : Int)) rfl) (qt rfl (add (a := ((k : Nat) : Int)) (b := 1) rfl rfl (by exact ⟨by omega, by omega⟩)) (qt rfl (asg (v := I (((k : Nat) : Int) + 1)) rfl) (nl ?_)))))))
     refine nN ?_
     refine ⟨(k + 1), ⟨⟨rfl, rfl, trivial⟩, (by omega), (allB_step (by omega) ha (by simpa using h2)), hs2⟩, ?_⟩
     omega
 · refine ex (tE (tE (bE ?_)))
   refine nN (sq (rg (qt rfl (mv (v := .slice Azs zs.length czs) rfl) (qt rfl (lnA (n := zs.length) sl22 rfl) (qt rfl (leq (k := .i64) (a := ((zs.length : Nat) : Int)) (b := 120) rfl rfl) (qt rfl (asg (v := .bool (decide (((zs.length : Nat) : Int) ≤ 120))) rfl) (nl ?_)))))))
   refine nN (rt (fret (v := .bool (decide (((zs.length : Nat) : Int) ≤ 120))) (.tmp .nil) rfl ?_))
   have e2 : (decide (((zs.length : Nat) : Int) ≤ 120)) = isBytes zs := by exact bytes_yes (k := k) (by omega) ha
   exact ⟨(congrArg (Value.bool) e2), hs1⟩
theorem slIndexFunc (p : Int → Bool) {Azs : Option Addr} {czs : Nat} (zs : List Int) (kf : FuncId) (w : World) (hzs : Sl w [] 1 Azs zs.length czs (zs.map I)) (hf : ∀ (x : Int) (w : World), Does Tryz.prog kf [.int .i64 x] w (fun v w' => v = .bool (p x) ∧ SH w w' [] [])) : Does Tryz.prog 133 [.slice Azs zs.length czs, .func (.func kf) #[] #[]] w (fun v w' => v = .int .i64 (idxF p zs) ∧ SH w w' [] []) := by
 refine fn_enter (N := 19) Tryz.func133 rfl (by kernel_rfl) rfl rfl rfl ?_
 have hs0 : SH w w [] [] := SH.refl w []
 have hzs_m : zs.length ≤ 9223372036854775807 := Nat.le_trans hzs.cap hzs.capMax
 refine sq (rg (qt rfl (asg (v := I 0) rfl) (nl (nN (sq (sq (rg ?_)))))))
 refine qt rfl (mv (v := .slice Azs zs.length czs) rfl) (qt rfl (lnA (n := zs.length) sl22 rfl) (qt rfl (mv (v := I 0) rfl) (nl (nN (bl (lp (σ := Nat) (fun (k : Nat) f w' => Has f [(0, .slice Azs zs.length czs), (1, .func (.func kf) #[] #[]), (7, I ((zs.length : Nat) : Int)), (8, I ((k : Nat) : Int))] ∧ (k ≤ zs.length) ∧ (∀ j, j < k → p (zs.getD j 0) = false) ∧ SH w w' [] []) (fun k => zs.length - k) 0 ⟨⟨rfl, rfl, rfl, rfl, trivial⟩, (by simp), (by intro j hj; omega), hs0⟩ ?_))))))
 rintro k f w1 ⟨hf, hk, hn, hs1⟩
 obtain ⟨g1, rfl⟩ := has_upd hf
 clear hf
 refine sq (rg (qt rfl (lss (k := .i64) (a := ((k : Nat) : Int)) (b := ((zs.length : Nat) : Int)) rfl rfl) (nl (nN (sq ?_)))))
 refine cdd (p := ((k : Nat) : Int) < ((zs.length : Nat) : Int)) rfl (fun h1 => ?_) (fun h1 => ?_)
 · refine sk (nN (sq (bl (sq (rg (qt rfl (mv (v := I ((k : Nat) : Int)) rfl) (qt rfl (asg (v := I ((k : Nat) : Int)) rfl) ?_)))))))
   refine nl (nN (sq (rg (qt rfl (mv (v := .func (.func kf) #[] #[]) rfl) (qt rfl (mv (v := .slice Azs zs.length czs) rfl) (qt rfl (mv (v := I ((k : Nat) : Int)) rfl) (ixw1 k sl22 rfl rfl hzs (by omega) (getm I 0 (by omega)) trivial rfl (fun a1 ha1 => ?_))))))))
   refine qt rfl (lda (v := I (zs.getD k 0)) hs1 ha1 (fun _ h => h) rfl rfl one3) (clv (k := kf) trivial rfl rfl (hf (zs.getD k 0) _) ?_)
   rintro _ w2 ⟨rfl, hs2'⟩
   have hs2 := hs1.call0 hs2'
   clear hs2'
   refine nl (nN ?_)
   refine cd (b := p (zs.getD k 0)) rfl (fun h2 => ?_) (fun h2 => ?_)
   · refine sq (rg (qt rfl (mv (v := I ((k : Nat) : Int)) rfl) (qt rfl (asg (v := I ((k : Nat) : Int)) rfl) (nl (nN ?_)))))
     refine rt (bR (tR (tR (bR (tR ?_)))))
     refine fret (v := I ((k : Nat) : Int)) (.tmp .nil) rfl ?_
     have e1 : ((k : Nat) : Int) = idxF p zs := by exact idxF_eq (by omega) hn h2
     exact ⟨(congrArg (Value.int .i64) e1), hs2⟩
   · refine sk (bN (nN (rg (qt rfl (add (a := ((k : Nat) : Int)) (b := 1) rfl rfl (by exact ⟨by omega, by omega⟩)) (qt rfl (mv (v := I (((k : Nat) : Int) + 1)) rfl) (nl (nN ?_)))))))
     refine ⟨(k + 1), ⟨⟨rfl, rfl, rfl, rfl, trivial⟩, (by omega), (by intro j hj; rcases Nat.lt_succ_iff_lt_or_eq.1 hj with h | h; exact hn j h; subst h; exact h2), hs2⟩, ?_⟩
     omega
 · refine ex (tE (tE (bE ?_)))
   refine nN (sq (rg (qt rfl (asg (v := I (-1)) rfl) (nl (nN (rt (fret (v := I (-1)) (.tmp .nil) rfl ?_)))))))
   have e2 : (-1) = idxF p zs := by exact idxF_none (fun j hj => hn j (by omega))
   exact ⟨(congrArg (Value.int .i64) e2), hs1⟩
theorem slContainsFunc (p : Int → Bool) {Azs : Option Addr} {czs : Nat} (zs : List Int) (kf : FuncId) (w : World) (hzs : Sl w [] 1 Azs zs.length czs (zs.map I)) (hf : ∀ (x : Int) (w : World), Does Tryz.prog kf [.int .i64 x] w (fun v w' => v = .bool (p x) ∧ SH w w' [] [])) : Does Tryz.prog 75 [.slice Azs zs.length czs, .func (.func kf) #[] #[]] w (fun v w' => v = .bool (zs.any p) ∧ SH w w' [] []) := by
 refine fn_enter (N := 9) Tryz.func75 rfl (by kernel_rfl) rfl rfl rfl ?_
 have hs0 : SH w w [] [] := SH.refl w []
 have hzs_m : zs.length ≤ 9223372036854775807 := Nat.le_trans hzs.cap hzs.capMax
 refine sq (rg (qt rfl (asg (v := .bool false) rfl) (nl (nN (sq (rg (qt rfl (mv (v := .slice Azs zs.length czs) rfl) ?_)))))))
 refine qt rfl (mv (v := .func (.func kf) #[] #[]) rfl) (cl trivial rfl (slIndexFunc (p := p) (Azs := Azs) (czs := czs) (zs := zs) (kf := kf) (w := _) (hzs := (hzs.up0 hs0)) (hf := hf)) ?_)
 rintro _ w1 ⟨rfl, hs1'⟩
 have hs1 := hs0.call0 hs1'
 clear hs1'
 refine qt rfl (geq (k := .i64) (a := idxF p zs) (b := 0) rfl rfl) (qt rfl (asg (v := .bool (decide ((0 : Int) ≤ (idxF p zs)))) rfl) (nl (nN (rt (fret (v := .bool (decide ((0 : Int) ≤ (idxF p zs)))) (.tmp .nil) rfl ?_)))))
 have e1 : (decide ((0 : Int) ≤ (idxF p zs))) = zs.any p := by exact idxF_any p zs
 exact ⟨(congrArg (Value.bool) e1), hs1⟩
theorem iBytesValid {Azs : Option Addr} {czs : Nat} (zs : List Int) (w : World) (hzs : Sl w [] 1 Azs zs.length czs (zs.map I)) : Does Tryz.prog 46 [.slice Azs zs.length czs] w (fun v w' => v = .bool (isBytes zs) ∧ SH w w' [] []) := by
 refine fn_enter (N := 11) Tryz.func46 rfl (by kernel_rfl) rfl rfl rfl ?_
 have hs0 : SH w w [] [] := SH.refl w []
 have hzs_m : zs.length ≤ 9223372036854775807 := Nat.le_trans hzs.cap hzs.capMax
 refine sq (rg (qt rfl (asg (v := .bool false) rfl) (nl (nN (sq (rg (qt rfl (mv (v := .slice Azs zs.length czs) rfl) ?_)))))))
 refine qt rfl (lnA (n := zs.length) sl22 rfl) (qt rfl (leq (k := .i64) (a := ((zs.length : Nat) : Int)) (b := 120) rfl rfl) (qt rfl (mv (v := .bool (decide (((zs.length : Nat) : Int) ≤ 120))) rfl) ?_))
 refine spd (p := ((zs.length : Nat) : Int) ≤ 120) 6 rfl (fun h1 => ?_) (fun h1 => ?_)
 · refine q ⟨_, rfl, rfl⟩ rfl rfl (mv (v := .slice Azs zs.length czs) rfl) (cl ⟨_, rfl, rfl⟩ rfl (slContainsFunc (p := (fun x => (decide (¬ (0 ≤ x ∧ x ≤ 255))))) (Azs := Azs) (czs := czs) (zs := zs) (kf := 103) (w := _) (hzs := (hzs.up0 hs0)) (hf := (fun x w => iBV1 x w))) ?_)
   rintro _ w1 ⟨rfl, hs1'⟩
   have hs1 := hs0.call0 hs1'
   clear hs1'
   refine q ⟨_, rfl, rfl⟩ rfl rfl (nt (b := zs.any (fun x => (decide (¬ (0 ≤ x ∧ x ≤ 255))))) rfl) (qt rfl (pt (v := .bool (!(zs.any (fun x => (decide (¬ (0 ≤ x ∧ x ≤ 255))))))) rfl rfl) (qt rfl (asg (v := .bool (!(zs.any (fun x => (decide (¬ (0 ≤ x ∧ x ≤ 255))))))) rfl) (nl (nN (rt (fret (v := .bool (!(zs.any (fun x => (decide (¬ (0 ≤ x ∧ x ≤ 255))))))) (.tmp .nil) rfl ?_))))))
   have e1 : (!(zs.any (fun x => (decide (¬ (0 ≤ x ∧ x ≤ 255)))))) = isBytes zs := by rw [← isBytes_not]; simp [*]
   exact ⟨(congrArg (Value.bool) e1), hs1⟩
 · refine gk false rfl rfl rfl rfl rfl (gk false rfl rfl rfl rfl rfl (gk false rfl rfl rfl rfl rfl (qt rfl (pf (v := .bool false) rfl rfl) (qt rfl (asg (v := .bool false) rfl) (nl (nN (rt ?_)))))))
   refine fret (v := .bool false) (.tmp .nil) rfl ?_
   have e2 : false = isBytes zs := by rw [← isBytes_not]; simp [*]
   exact ⟨(congrArg (Value.bool) e2), hs0⟩
theorem eqIntS {Axs : Option Addr} {cxs : Nat} (xs : List Int) {Abs : Option Addr} {cbs : Nat} (bs : List Int) (w : World) (hxs : Sl w [] 1 Axs xs.length cxs (xs.map I)) (hbs : Sl w [] 1 Abs bs.length cbs (bs.map I)) : Does Tryz.prog 17 [.slice Axs xs.length cxs, .slice Abs bs.length cbs] w (fun v w' => v = .bool (decide (xs = bs)) ∧ SH w w' [] []) := by
 refine fn_enter (N := 26) Tryz.func17 rfl (by kernel_rfl) rfl rfl rfl ?_
 have hs0 : SH w w [] [] := SH.refl w []
 have hxs_m : xs.length ≤ 9223372036854775807 := Nat.le_trans hxs.cap hxs.capMax
 have hbs_m : bs.length ≤ 9223372036854775807 := Nat.le_trans hbs.cap hbs.capMax
 refine sq (rg (qt rfl (asg (v := .bool false) rfl) (nl (nN (sq (sq (rg ?_)))))))
 refine qt rfl (mv (v := .slice Axs xs.length cxs) rfl) (qt rfl (lnA (n := xs.length) sl22 rfl) (qt rfl (mv (v := .slice Abs bs.length cbs) rfl) (qt rfl (lnA (n := bs.length) sl22 rfl) (qt rfl (nei (k := .i64) (a := ((xs.length : Nat) : Int)) (b := ((bs.length : Nat) : Int)) rfl rfl) (nl (nN ?_))))))
 refine cdd (p := ((xs.length : Nat) : Int) ≠ ((bs.length : Nat) : Int)) rfl (fun h1 => ?_) (fun h1 => ?_)
 · refine sq (rg (qt rfl (asg (v := .bool false) rfl) (nl (nN (rt (tR ?_))))))
   refine fret (v := .bool false) (.tmp .nil) rfl ?_
   have e1 : false = (decide (xs = bs)) := by simp; intro h; subst h; exact h1 rfl
   exact ⟨(congrArg (Value.bool) e1), hs0⟩
 · refine sk (nN (sq (sq (rg (qt rfl (asg (v := I 0) rfl) (nl (nN ?_)))))))
   refine bl (lp (σ := Nat) (fun (k : Nat) f w' => Has f [(0, .slice Axs xs.length cxs), (1, .slice Abs bs.length cbs), (5, I ((k : Nat) : Int))] ∧ (xs.length = bs.length) ∧ (k ≤ xs.length) ∧ (xs.take k = bs.take k) ∧ SH w w' [] []) (fun k => xs.length - k) 0 ⟨⟨rfl, rfl, rfl, trivial⟩, (by omega), (by simp), (by simp), hs0⟩ ?_)
   rintro k f w1 ⟨hf, hl, hk, ha, hs1⟩
   obtain ⟨g1, rfl⟩ := has_upd hf
   clear hf
   refine sq (sq (rg (qt rfl (mv (v := I ((k : Nat) : Int)) rfl) (qt rfl (mv (v := .slice Axs xs.length cxs) rfl) (qt rfl (lnA (n := xs.length) sl22 rfl) (qt rfl (lss (k := .i64) (a := ((k : Nat) : Int)) (b := ((xs.length : Nat) : Int)) rfl rfl) (nl ?_)))))))
   refine nN ?_
   refine cdd (p := ((k : Nat) : Int) < ((xs.length : Nat) : Int)) rfl (fun h2 => ?_) (fun h2 => ?_)
   · refine sk (nN (sq (bl (sq (rq (fun w' => SH w w' [] []) mixed (by kernel_rfl) hs1.drew (qq trivial rfl rfl (fun wq hsq => mv (v := .slice Axs xs.length cxs) rfl) (qq trivial rfl rfl (fun wq hsq => mv (v := I ((k : Nat) : Int)) rfl) ?_)))))))
     refine ixq1 k sl22 rfl rfl hxs (by omega) (getm I 0 (by omega)) trivial rfl (fun a1 ha1 => ?_)
     refine qq trivial rfl rfl (fun wq hsq => lda (v := I (xs.getD k 0)) hsq ha1 (fun _ h => h) rfl rfl one3) (qq trivial rfl rfl (fun wq hsq => mv (v := .slice Abs bs.length cbs) rfl) (qq trivial rfl rfl (fun wq hsq => mv (v := I ((k : Nat) : Int)) rfl) (ixq1 k sl22 rfl rfl hbs (by omega) (getm I 0 (by omega)) trivial rfl (fun a2 ha2 => ?_))))
     refine qq trivial rfl rfl (fun wq hsq => lda (v := I (bs.getD k 0)) hsq ha2 (fun _ h => h) rfl rfl one3) (qq trivial rfl rfl (fun wq hsq => nei (k := .i64) (a := xs.getD k 0) (b := bs.getD k 0) rfl rfl) (qn (fun w2 hs2 => ?_)))
     refine nN ?_
     refine cdd (p := (xs.getD k 0) ≠ (bs.getD k 0)) rfl (fun h3 => ?_) (fun h3 => ?_)
     · refine sq (rg (qt rfl (asg (v := .bool false) rfl) (nl (nN ?_))))
       refine rt (bR (tR (tR (bR (tR ?_)))))
       refine fret (v := .bool false) (.tmp .nil) rfl ?_
       have e2 : false = (decide (xs = bs)) := by simp; intro h; subst h; exact h3 rfl
       exact ⟨(congrArg (Value.bool) e2), hs2⟩
     · refine sk (bN (nN (rg (qt rfl (mv (v := I ((k : Nat) : Int)) rfl) (qt rfl (add (a := ((k : Nat) : Int)) (b := 1) rfl rfl (by exact ⟨by omega, by omega⟩)) (qt rfl (asg (v := I (((k : Nat) : Int) + 1)) rfl) (nl ?_)))))))
       refine nN ?_
       refine ⟨(k + 1), ⟨⟨rfl, rfl, rfl, trivial⟩, (hl), (by omega), (take_succ_eq (by omega) (by omega) ha (by simpa using h3)), hs2⟩, ?_⟩
       omega
   · refine ex (tE (tE (bE ?_)))
     refine nN (sq (rg (qt rfl (asg (v := .bool true) rfl) (nl (nN (rt (fret (v := .bool true) (.tmp .nil) rfl ?_)))))))
     have e3 : true = (decide (xs = bs)) := by simp; exact take_all_eq hl (by omega) ha
     exact ⟨(congrArg (Value.bool) e3), hs1⟩
theorem heldIntS {Axs : Option Addr} {cxs : Nat} (xs : List Int) (k0 : Int) (w : World) (hxs : Sl w [] 1 Axs xs.length cxs (xs.map I)) (hxs_n : xs.length ≤ 1099511627776) (hk0 : 0 ≤ k0 ∧ k0 ≤ 4294967296) : Does Tryz.prog 21 [.slice Axs xs.length cxs, I k0] w (fun v w' => v = .int .i64 (heldI xs k0) ∧ SH w w' [] []) := by
 refine fn_enter (N := 21) Tryz.func21 rfl (by kernel_rfl) rfl rfl rfl ?_
 have hs0 : SH w w [] [] := SH.refl w []
 have hxs_m : xs.length ≤ 9223372036854775807 := Nat.le_trans hxs.cap hxs.capMax
 refine sq (rg (qt rfl (asg (v := I 0) rfl) (nl (nN (sq (sq (rg ?_)))))))
 refine qt rfl (asg (v := I 0) rfl) (nl (nN (bl (lp (σ := Nat) (fun (k : Nat) f w' => Has f [(0, .slice Axs xs.length cxs), (1, I (k0 + (k : Nat))), (5, I ((k : Nat) : Int))] ∧ (k ≤ xs.length) ∧ (xs.take k = marks k0 k) ∧ SH w w' [] []) (fun k => xs.length - k) 0 ⟨⟨rfl, (show (I k0 : Value) = I (k0 + (0 : Nat)) from congrArg (Value.int .i64) (by simp)), rfl, trivial⟩, (by simp), (by simp [marks]), hs0⟩ ?_))))
 rintro k f w1 ⟨hf, hk, hm, hs1⟩
 obtain ⟨g1, rfl⟩ := has_upd hf
 clear hf
 refine sq (sq (rg (qt rfl (mv (v := I ((k : Nat) : Int)) rfl) (qt rfl (mv (v := .slice Axs xs.length cxs) rfl) (qt rfl (lnA (n := xs.length) sl22 rfl) (qt rfl (lss (k := .i64) (a := ((k : Nat) : Int)) (b := ((xs.length : Nat) : Int)) rfl rfl) (nl ?_)))))))
 refine nN ?_
 refine cdd (p := ((k : Nat) : Int) < ((xs.length : Nat) : Int)) rfl (fun h1 => ?_) (fun h1 => ?_)
 · refine sk (nN (sq (bl (sq (sq (rg (qt rfl (mv (v := .slice Axs xs.length cxs) rfl) ?_)))))))
   refine qt rfl (mv (v := I ((k : Nat) : Int)) rfl) (ixw1 k sl22 rfl rfl hxs (by omega) (getm I 0 (by omega)) trivial rfl (fun a1 ha1 => ?_))
   refine qt rfl (lda (v := I (xs.getD k 0)) hs1 ha1 (fun _ h => h) rfl rfl one3) (qt rfl (mv (v := I (k0 + (k : Nat))) rfl) (qt rfl (nei (k := .i64) (a := xs.getD k 0) (b := k0 + (k : Nat)) rfl rfl) (nl (nN ?_))))
   refine cdd (p := (xs.getD k 0) ≠ (k0 + (k : Nat))) rfl (fun h2 => ?_) (fun h2 => ?_)
   · refine sq (rg (qt rfl (asg (v := I (-1)) rfl) (nl (nN ?_))))
     refine rt (tR (bR (tR (tR (bR (tR ?_))))))
     refine fret (v := I (-1)) (.tmp .nil) rfl ?_
     have e1 : (-1) = heldI xs k0 := by exact held_no (by omega) hm (by omega)
     exact ⟨(congrArg (Value.int .i64) e1), hs1⟩
   · refine sk (nN (rg (qt rfl (mv (v := I (k0 + (k : Nat))) rfl) (qt rfl (add (a := k0 + (k : Nat)) (b := 1) rfl rfl (by exact ⟨by omega, by omega⟩)) (qt rfl (asg (v := I ((k0 + (k : Nat)) + 1)) rfl) (nl (bN ?_)))))))
     refine nN (rg (qt rfl (mv (v := I ((k : Nat) : Int)) rfl) (qt rfl (add (a := ((k : Nat) : Int)) (b := 1) rfl rfl (by exact ⟨by omega, by omega⟩)) (qt rfl (asg (v := I (((k : Nat) : Int) + 1)) rfl) (nl (nN ?_))))))
     refine ⟨(k + 1), ⟨⟨rfl, (show (I ((k0 + (k : Nat)) + 1) : Value) = I (k0 + ((k + 1) : Nat)) from congrArg (Value.int .i64) (by omega)), rfl, trivial⟩, (by omega), (marks_take (by omega) hm (by omega)), hs1⟩, ?_⟩
     omega
 · refine ex (tE (tE (bE ?_)))
   refine nN (sq (rg (qt rfl (mv (v := I (k0 + (k : Nat))) rfl) (qt rfl (asg (v := I (k0 + (k : Nat))) rfl) (nl (nN (rt ?_)))))))
   refine fret (v := I (k0 + (k : Nat))) (.tmp .nil) rfl ?_
   have e2 : k0 + (k : Nat) = heldI xs k0 := by have : k = xs.length := (by omega); subst this; exact held_yes (by simpa using hm)
   exact ⟨(congrArg (Value.int .i64) e2), hs1⟩
theorem slIndexByte (l : List UInt8) (c : UInt8) (w : World)  : Does Tryz.prog 192 [Str l, .int .u8 ((c.toNat : Nat) : Int)] w (fun v w' => v = .int .i64 (idxB l c) ∧ SH w w' [] []) := by
 refine fn_enter (N := 8) Tryz.func192 rfl (by kernel_rfl) rfl rfl rfl ?_
 have hs0 : SH w w [] [] := SH.refl w []
 refine sq (rg (qt rfl (asg (v := I 0) rfl) (nl (nN (sq (rg (qt rfl (mv (v := Str l) rfl) ?_)))))))
 refine qt rfl (mv (v := .int .u8 ((c.toNat : Nat) : Int)) rfl) (qt rfl (ibs (l := l) (c := c) Tryz.func211 (by kernel_rfl) rfl (by kernel_rfl) (by kernel_rfl) rfl rfl) (qt rfl (asg (v := I (idxB l c)) rfl) (nl (nN (rt (fret (v := I (idxB l c)) (.tmp .nil) rfl ?_))))))
 exact ⟨rfl, hs0⟩
theorem stIndexByte (l : List UInt8) (c : UInt8) (w : World)  : Does Tryz.prog 177 [Str l, .int .u8 ((c.toNat : Nat) : Int)] w (fun v w' => v = .int .i64 (idxB l c) ∧ SH w w' [] []) := by
 refine fn_enter (N := 8) Tryz.func177 rfl (by kernel_rfl) rfl rfl rfl ?_
 have hs0 : SH w w [] [] := SH.refl w []
 refine sq (rg (qt rfl (asg (v := I 0) rfl) (nl (nN (sq (rg (qt rfl (mv (v := Str l) rfl) ?_)))))))
 refine qt rfl (mv (v := .int .u8 ((c.toNat : Nat) : Int)) rfl) (cl trivial rfl (slIndexByte (l := l) (c := c) (w := _)) ?_)
 rintro _ w1 ⟨rfl, hs1'⟩
 have hs1 := hs0.call0 hs1'
 clear hs1'
 refine qt rfl (asg (v := I (idxB l c)) rfl) (nl (nN (rt (fret (v := I (idxB l c)) (.tmp .nil) rfl ?_))))
 exact ⟨rfl, hs1⟩
theorem markIntS {Axs : Option Addr} {cxs : Nat} (xs : List Int) (k0 : Int) (w : World) (hxs : OwnR w Axs xs.length cxs 3 1 (xs.map I)) (hxs_n : xs.length ≤ 1099511627776) (hk0 : 0 ≤ k0 ∧ k0 ≤ 4294967296) : Does Tryz.prog 19 [.slice Axs xs.length cxs, I k0] w (fun v w' => v = .int .i64 (k0 + ((xs.length : Nat) : Int)) ∧ SH w w' (ownM Axs cxs ++ []) [.own Axs xs.length cxs 3 1 ((marks k0 xs.length).map I)]) := by
 refine fn_enter (N := 19) Tryz.func19 rfl (by kernel_rfl) rfl rfl rfl ?_
 have hs0 : SH w w (ownM Axs cxs ++ []) [.own Axs xs.length cxs 3 1 (xs.map I)] := entry1o hxs
 have hxs_m : xs.length ≤ 9223372036854775807 := Nat.le_trans hxs.2.1 hxs.2.2.1
 refine sq (rg (qt rfl (asg (v := I 0) rfl) (nl (nN (sq (sq (rg ?_)))))))
 refine qt rfl (asg (v := I 0) rfl) (nl (nN (bl ?_)))
 have e1 : xs = marks k0 0 ++ xs.drop 0 := by simp [marks]
 refine lp (σ := (Option Addr) × Nat × Nat) (fun ⟨Ag0, cg0, k⟩ f w' => Has f [(0, .slice Ag0 xs.length cg0), (1, I (k0 + (k : Nat))), (5, I ((k : Nat) : Int))] ∧ (k ≤ xs.length) ∧ (Ag0 = Axs) ∧ (cg0 = cxs) ∧ SH w w' (ownM Axs cxs ++ []) [.own Ag0 xs.length cg0 3 1 ((marks k0 k ++ xs.drop k).map I)]) (fun ⟨Ag0, cg0, k⟩ => xs.length - k) (Axs, cxs, 0) ⟨⟨rfl, (show (I k0 : Value) = I (k0 + (0 : Nat)) from congrArg (Value.int .i64) (by simp)), rfl, trivial⟩, (by simp), (rfl), (rfl), (hs0.cast (lc (own_eq (g := I) rfl rfl rfl e1) rfl))⟩ ?_
 rintro ⟨Ag0, cg0, k⟩ f w1 ⟨hf, hk, hA, hC, hs1⟩
 obtain ⟨g1, rfl⟩ := has_upd hf
 clear hf
 refine sq (sq (rg (qt rfl (mv (v := I ((k : Nat) : Int)) rfl) (qt rfl (mv (v := .slice Ag0 xs.length cg0) rfl) (qt rfl (lnA (n := xs.length) sl22 rfl) (qt rfl (lss (k := .i64) (a := ((k : Nat) : Int)) (b := ((xs.length : Nat) : Int)) rfl rfl) (nl ?_)))))))
 refine nN ?_
 refine cdd (p := ((k : Nat) : Int) < ((xs.length : Nat) : Int)) rfl (fun h1 => ?_) (fun h1 => ?_)
 · refine sk (nN (sq (bl (sq (rg (qt rfl (mv (v := .slice Ag0 xs.length cg0) rfl) (qt rfl (mv (v := I ((k : Nat) : Int)) rfl) ?_)))))))
   refine qt rfl (mv (v := I (k0 + (k : Nat))) rfl) ?_
   obtain ⟨b1, rfl⟩ := own_form hs1 0 rfl (by omega)
   refine qt rfl (ixo k sl22 rfl rfl (by omega)) (stomn (g := I) (ys := marks k0 k ++ xs.drop k) (o := k) (u := k0 + (k : Nat)) hs1 0 rfl rfl rfl rfl (by omega) rfl one3 trivial (fun w2 (hs2 : SH w w2 (ownM Axs cxs ++ []) [.own (some ⟨b1, 0, none⟩) xs.length cg0 3 1 (((marks k0 k ++ xs.drop k).set k (k0 + (k : Nat))).map I)]) => ?_))
   refine nl (nN (rg (qt rfl (mv (v := I (k0 + (k : Nat))) rfl) (qt rfl (add (a := k0 + (k : Nat)) (b := 1) rfl rfl (by exact ⟨by omega, by omega⟩)) (qt rfl (asg (v := I ((k0 + (k : Nat)) + 1)) rfl) (nl (bN ?_)))))))
   refine nN (rg (qt rfl (mv (v := I ((k : Nat) : Int)) rfl) (qt rfl (add (a := ((k : Nat) : Int)) (b := 1) rfl rfl (by exact ⟨by omega, by omega⟩)) (qt rfl (asg (v := I (((k : Nat) : Int) + 1)) rfl) (nl (nN ?_))))))
   have e2 : (marks k0 k ++ xs.drop k).set k (k0 + (k : Nat)) = marks k0 (k + 1) ++ xs.drop (k + 1) := by exact marks_set (by omega)
   refine ⟨((some ⟨b1, 0, none⟩), cg0, k + 1), ⟨⟨rfl, (show (I ((k0 + (k : Nat)) + 1) : Value) = I (k0 + ((k + 1) : Nat)) from congrArg (Value.int .i64) (by omega)), rfl, trivial⟩, (by omega), (hA), (hC), (hs2.cast (lc (own_eq (g := I) rfl rfl rfl e2) rfl))⟩, ?_⟩
   show xs.length - (k + 1) < xs.length - k
   omega
 · refine ex (tE (tE (bE ?_)))
   refine nN (sq (rg (qt rfl (mv (v := I (k0 + (k : Nat))) rfl) (qt rfl (asg (v := I (k0 + (k : Nat))) rfl) (nl (nN (rt ?_)))))))
   refine fret (v := I (k0 + (k : Nat))) (.tmp .nil) rfl ?_
   have e3 : k0 + (k : Nat) = k0 + ((xs.length : Nat) : Int) := by have : k = xs.length := (by omega); subst this; rfl
   have e4 : Ag0 = Axs := by assumption
   have e5 : cg0 = cxs := by assumption
   have e6 : marks k0 k ++ xs.drop k = marks k0 xs.length := by have : k = xs.length := (by omega); subst this; simp
   exact ⟨(congrArg (Value.int .i64) e3), (hs1.cast (lc (own_eq (g := I) e4 rfl e5 e6) rfl))⟩
theorem toIntS {Axs : Option Addr} {cxs : Nat} (xs : List Int) (w : World) (hxs : Sl w [] 1 Axs xs.length cxs (xs.map I)) (hxs_n : xs.length ≤ 1099511627776) : Does Tryz.prog 14 [.slice Axs xs.length cxs] w (fun v w' => ∃ Ar : Option Addr, ∃ cr : Nat, v = .slice Ar xs.length cr ∧ SH w w' [] [.own Ar xs.length cr 3 1 (xs.map I)]) := by
 refine fn_enter (N := 22) Tryz.func14 rfl (by kernel_rfl) rfl rfl rfl ?_
 have hs0 : SH w w [] [] := SH.refl w []
 have hxs_m : xs.length ≤ 9223372036854775807 := Nat.le_trans hxs.cap hxs.capMax
 refine sq (rg (qt rfl (asg (v := ns) rfl) (nl (nN (sq (rg (qt rfl (mv (v := .slice Axs xs.length cxs) rfl) ?_)))))))
 refine qt rfl (lnA (n := xs.length) sl22 rfl) (mkm (g := I) (z := 0) (n := xs.length) hs0 sl22 rfl rfl rfl (by omega) (by unfold maxLen; omega) trivial rfl (fun b1 w1 (hs1 : SH w w1 [] [oI b1 (List.replicate xs.length (0 : Int)) xs.length 3]) => ?_))
 refine qt rfl (asg (v := sb b1 ((List.replicate xs.length (0 : Int)).length) xs.length) rfl) (nl (nN (sq (sq (rg (qt rfl (asg (v := I 0) rfl) (nl ?_)))))))
 refine nN (bl ?_)
 have e1 : List.replicate xs.length (0 : Int) = xs.take 0 ++ List.replicate (xs.length - 0) (0 : Int) := by simp
 have e2 : (List.replicate xs.length (0 : Int)).length = xs.length := by (simp; done)
 refine lp (σ := (Option Addr) × Nat × Nat) (fun ⟨Ag3, cg3, k⟩ f w' => Has f [(0, .slice Axs xs.length cxs), (3, .slice Ag3 xs.length cg3), (4, I ((k : Nat) : Int))] ∧ (k ≤ xs.length) ∧ SH w w' [] [.own Ag3 xs.length cg3 3 1 ((xs.take k ++ List.replicate (xs.length - k) (0 : Int)).map I)]) (fun ⟨Ag3, cg3, k⟩ => xs.length - k) ((some ⟨b1, 0, none⟩), xs.length, 0) ⟨⟨rfl, (show (.slice (some ⟨b1, 0, none⟩) ((List.replicate xs.length (0 : Int)).length) xs.length : Value) = .slice (some ⟨b1, 0, none⟩) xs.length xs.length from slv rfl e2 rfl), rfl, trivial⟩, (by simp), (hs1.cast (lc (own_eq (g := I) rfl e2 rfl e1) rfl))⟩ ?_
 rintro ⟨Ag3, cg3, k⟩ f w2 ⟨hf, hk, hs2⟩
 obtain ⟨g1, rfl⟩ := has_upd hf
 clear hf
 refine sq (sq (rg (qt rfl (mv (v := I ((k : Nat) : Int)) rfl) (qt rfl (mv (v := .slice Axs xs.length cxs) rfl) (qt rfl (lnA (n := xs.length) sl22 rfl) (qt rfl (lss (k := .i64) (a := ((k : Nat) : Int)) (b := ((xs.length : Nat) : Int)) rfl rfl) (nl ?_)))))))
 refine nN ?_
 refine cdd (p := ((k : Nat) : Int) < ((xs.length : Nat) : Int)) rfl (fun h1 => ?_) (fun h1 => ?_)
 · refine sk (nN (sq (bl (rg (qt rfl (mv (v := .slice Ag3 xs.length cg3) rfl) (qt rfl (mv (v := I ((k : Nat) : Int)) rfl) (qt rfl (mv (v := .slice Axs xs.length cxs) rfl) ?_)))))))
   refine qt rfl (mv (v := I ((k : Nat) : Int)) rfl) (ixw1 k sl22 rfl rfl hxs (by omega) (getm I 0 (by omega)) trivial rfl (fun a1 ha1 => ?_))
   refine qt rfl (lda (v := I (xs.getD k 0)) hs2 ha1 (fun _ h => h) rfl rfl one3) ?_
   obtain ⟨b2, rfl⟩ := own_form hs2 0 rfl (by omega)
   refine qt rfl (ixo k sl22 rfl rfl (by omega)) (stomn (g := I) (ys := xs.take k ++ List.replicate (xs.length - k) (0 : Int)) (o := k) (u := xs.getD k 0) hs2 0 rfl rfl rfl rfl (by omega) rfl one3 trivial (fun w3 (hs3 : SH w w3 [] [.own (some ⟨b2, 0, none⟩) xs.length cg3 3 1 (((xs.take k ++ List.replicate (xs.length - k) (0 : Int)).set k (xs.getD k 0)).map I)]) => ?_))
   refine nl (bN (nN (rg (qt rfl (mv (v := I ((k : Nat) : Int)) rfl) (qt rfl (add (a := ((k : Nat) : Int)) (b := 1) rfl rfl (by exact ⟨by omega, by omega⟩)) (qt rfl (asg (v := I (((k : Nat) : Int) + 1)) rfl) (nl ?_)))))))
   refine nN ?_
   have e3 : (xs.take k ++ List.replicate (xs.length - k) (0 : Int)).set k (xs.getD k 0) = xs.take (k + 1) ++ List.replicate (xs.length - (k + 1)) (0 : Int) := by exact copy_set (by omega)
   refine ⟨((some ⟨b2, 0, none⟩), cg3, k + 1), ⟨⟨rfl, rfl, rfl, trivial⟩, (by omega), (hs3.cast (lc (own_eq (g := I) rfl rfl rfl e3) rfl))⟩, ?_⟩
   show xs.length - (k + 1) < xs.length - k
   omega
 · refine ex (tE (tE (bE ?_)))
   refine nN (sq (rg (qt rfl (mv (v := .slice Ag3 xs.length cg3) rfl) (qt rfl (asg (v := .slice Ag3 xs.length cg3) rfl) (nl (nN (rt ?_)))))))
   refine fret (v := .slice Ag3 xs.length cg3) (.tmp .nil) rfl ?_
   have e4 : xs.take k ++ List.replicate (xs.length - k) (0 : Int) = xs := by have : k = xs.length := (by omega); subst this; simp
   exact ⟨Ag3, cg3, rfl, (hs2.cast (lc (own_eq (g := I) rfl rfl rfl e4) rfl))⟩
theorem bStringN {bb : Nat} {pb : Option Addr} (w : World) (hbd : w.heap[bb]? = some (.cells [.pointer pb, .slice none 0 0].toArray 181 (0, 0))) : Does Tryz.prog 195 [pB bb] w (fun v w' => v = Str [] ∧ SH w w' [bb] []) := by
 refine fn_enter (N := 14) Tryz.func195 rfl (by kernel_rfl) rfl rfl rfl ?_
 have hs0 : SH w w [bb] [.blk bb 181 [.pointer pb, ns]] := SH.entry1 hbd
 refine sq (rg (qt rfl (asg (v := Str []) rfl) (nl (nN (sq (ra (fun w' => ∃ L, SH w w' [bb] L ∧ (.blk bb 181 [.pointer pb, ns]) ∈ L ∧ True) mixed ?_))))))
 have hs1 := hs0.drew
 refine tk (fuel := 2) (is := [0, 1, 2, 3, 4, 5, 6, 7, 8, 9]) (.cons rfl (.cons rfl (.cons rfl (.cons rfl (.cons rfl (.cons rfl (.cons rfl (.cons rfl (.cons rfl (.cons rfl (.nil))))))))))) (by kernel_rfl) (by kernel_rfl) ⟨_, hs1, memi 0 rfl, trivial⟩ (.op trivial rfl rfl (fun wq _ => mv (v := pB bb) rfl) (.op trivial rfl rfl (fun wq _ => nc rfl) (.op trivial rfl rfl (fun wq _ => fa 1 fo181_1 rfl) (.op trivial rfl rfl (fun wq ⟨Lq, hsq, mh0, _⟩ => ldm (v := ns) hsq mh0 rfl rfl one39) (.op trivial rfl rfl (fun wq _ => usd0 rfl) (.op trivial rfl rfl (fun wq _ => mv (v := pB bb) rfl) (.op trivial rfl rfl (fun wq _ => nc rfl) ?_)))))))
 refine .op trivial rfl rfl (fun wq _ => fa 1 fo181_1 rfl) (.op trivial rfl rfl (fun wq ⟨Lq, hsq, mh0, _⟩ => ldm (v := ns) hsq mh0 rfl rfl one39) (.op trivial rfl rfl (fun wq _ => lnA (n := 0) sl39 rfl) (.nil (a1 (i := 10) (by kernel_rfl) (one_ rfl (qt rfl (ust0 (p := none) rfl rfl) (nl (kq ⟨_, hs1, memi 0 rfl, trivial⟩ ?_))))))))
 refine tk (fuel := 0) (is := [11]) (.cons rfl (.nil)) (by kernel_rfl) (by kernel_rfl) ⟨_, hs1, memi 0 rfl, trivial⟩ (.op trivial rfl rfl (fun wq _ => asg (v := Str []) rfl) (.nil (ad (by kernel_rfl) (nN (rt (fret (v := Str []) (.tmp .nil) rfl ?_))))))
 exact ⟨rfl, (hs1.pick [] rfl (by decide))⟩
theorem bStringR {bb gb : Nat} {pb : Option Addr} {cbb : Nat} (l : List UInt8) (w : World) (hbd : w.heap[bb]? = some (.cells [.pointer pb, .slice (some ⟨gb, 0, none⟩) l.length cbb].toArray 181 (0, 0))) (hbo : OwnR w (some ⟨gb, 0, none⟩) l.length cbb 5 1 (l.map U)) (hbx : ∀ k, (It.own (some ⟨gb, 0, none⟩) l.length cbb 5 1 (l.map U)).has k → ¬ (It.blk bb 181 [.pointer pb, .slice (some ⟨gb, 0, none⟩) l.length cbb]).has k) (hl0 : 0 < l.length) (hlc : cbb ≠ 0) : Does Tryz.prog 195 [pB bb] w (fun v w' => v = Str l ∧ SH w w' ([bb] ++ (ownM (some ⟨gb, 0, none⟩) cbb ++ [])) []) := by
 refine fn_enter (N := 14) Tryz.func195 rfl (by kernel_rfl) rfl rfl rfl ?_
 have hs0 : SH w w ([bb] ++ (ownM (some ⟨gb, 0, none⟩) cbb ++ [])) [.blk bb 181 [.pointer pb, sb gb l.length cbb], .own (some ⟨gb, 0, none⟩) l.length cbb 5 1 (l.map U)] := entryB hbd hbo hbx
 refine sq (rg (qt rfl (asg (v := Str []) rfl) (nl (nN (sq (ra (fun w' => ∃ L, SH w w' ([bb] ++ (ownM (some ⟨gb, 0, none⟩) cbb ++ [])) L ∧ (.blk bb 181 [.pointer pb, sb gb l.length cbb]) ∈ L ∧ True) mixed ?_))))))
 have hs1 := hs0.drew
 refine tk (fuel := 2) (is := [0, 1, 2, 3, 4, 5, 6, 7, 8, 9]) (.cons rfl (.cons rfl (.cons rfl (.cons rfl (.cons rfl (.cons rfl (.cons rfl (.cons rfl (.cons rfl (.cons rfl (.nil))))))))))) (by kernel_rfl) (by kernel_rfl) ⟨_, hs1, memi 0 rfl, trivial⟩ (.op trivial rfl rfl (fun wq _ => mv (v := pB bb) rfl) (.op trivial rfl rfl (fun wq _ => nc rfl) (.op trivial rfl rfl (fun wq _ => fa 1 fo181_1 rfl) (.op trivial rfl rfl (fun wq ⟨Lq, hsq, mh0, _⟩ => ldm (v := sb gb l.length cbb) hsq mh0 rfl rfl one39) (.op trivial rfl rfl (fun wq _ => usd (a := ⟨gb, 0, none⟩) rfl (by exact hlc)) (.op trivial rfl rfl (fun wq _ => mv (v := pB bb) rfl) (.op trivial rfl rfl (fun wq _ => nc rfl) ?_)))))))
 refine .op trivial rfl rfl (fun wq _ => fa 1 fo181_1 rfl) (.op trivial rfl rfl (fun wq ⟨Lq, hsq, mh0, _⟩ => ldm (v := sb gb l.length cbb) hsq mh0 rfl rfl one39) (.op trivial rfl rfl (fun wq _ => lnA (n := l.length) sl39 rfl) (.nil (a1 (i := 10) (by kernel_rfl) (one_ rfl (ust (l := l) hs1 1 rfl tp197 (by kernel_rfl) rfl rfl (by omega) trivial rfl (fun w1 (hs2 : SH w w1 ([bb] ++ (ownM (some ⟨gb, 0, none⟩) cbb ++ [])) [.blk bb 181 [.pointer pb, sb gb l.length cbb]]) => ?_)))))))
 refine nl (kq ⟨_, hs2, memi 0 rfl, trivial⟩ ?_)
 refine tk (fuel := 0) (is := [11]) (.cons rfl (.nil)) (by kernel_rfl) (by kernel_rfl) ⟨_, hs2, memi 0 rfl, trivial⟩ (.op trivial rfl rfl (fun wq _ => asg (v := Str l) rfl) (.nil (ad (by kernel_rfl) (nN (rt (fret (v := Str l) (.tmp .nil) rfl ?_))))))
 exact ⟨rfl, (hs2.pick [] rfl (by decide))⟩
theorem bString {bb : Nat} {pb : Option Addr} {Abb : Option Addr} {cbb : Nat} (l : List UInt8) (w : World) (hbd : w.heap[bb]? = some (.cells [.pointer pb, .slice Abb l.length cbb].toArray 181 (0, 0))) (hpb : pb = none ∨ pb = some ⟨bb, 0, none⟩) (hbo : OwnR w Abb l.length cbb 5 1 (l.map U)) (hbx : ∀ k, (It.own Abb l.length cbb 5 1 (l.map U)).has k → ¬ (It.blk bb 181 [.pointer pb, .slice Abb l.length cbb]).has k) (hA : l.length = 0 → Abb = none ∧ cbb = 0) : Does Tryz.prog 195 [pB bb] w (fun v w' => v = Str l ∧ SH w w' ([bb] ++ (ownM Abb cbb ++ [])) []) := by
  rcases Nat.eq_zero_or_pos l.length with h0 | h0
  · obtain ⟨rfl, rfl⟩ := hA h0
    have hl : l = [] := List.eq_nil_of_length_eq_zero h0
    subst hl
    exact (bStringN w hbd).mono fun v w' h => ⟨h.1, h.2.monoM (by intro k hk; simp at hk; subst hk; simp)⟩
  · obtain ⟨gb, rfl⟩ := ownR_form hbo h0
    exact bStringR l w hbd hbo hbx h0 (by have := hbo.2.1; omega)
theorem iLetter (c : UInt8) (w : World)  : Does Tryz.prog 156 [.int .u8 ((c.toNat : Nat) : Int)] w (fun v w' => v = .bool (decide (97 ≤ ((c.toNat : Nat) : Int) ∧ ((c.toNat : Nat) : Int) ≤ 122)) ∧ SH w w' [] []) := by
 refine fn_enter (N := 9) Tryz.func156 rfl (by kernel_rfl) rfl rfl rfl ?_
 have hs0 : SH w w [] [] := SH.refl w []
 refine sq (rg (qt rfl (asg (v := .bool false) rfl) (nl (nN (sq (rg (qt rfl (mv (v := .int .u8 ((c.toNat : Nat) : Int)) rfl) ?_)))))))
 refine qt rfl (geq (k := .u8) (a := ((c.toNat : Nat) : Int)) (b := 97) rfl rfl) (qt rfl (mv (v := .bool (decide ((97 : Int) ≤ ((c.toNat : Nat) : Int)))) rfl) ?_)
 refine spd (p := (97 : Int) ≤ ((c.toNat : Nat) : Int)) 5 rfl (fun h1 => ?_) (fun h1 => ?_)
 · refine q ⟨_, rfl, rfl⟩ rfl rfl (mv (v := .int .u8 ((c.toNat : Nat) : Int)) rfl) (q ⟨_, rfl, rfl⟩ rfl rfl (leq (k := .u8) (a := ((c.toNat : Nat) : Int)) (b := 122) rfl rfl) (qt rfl (pt (v := .bool (decide (((c.toNat : Nat) : Int) ≤ 122))) rfl rfl) (qt rfl (asg (v := .bool (decide (((c.toNat : Nat) : Int) ≤ 122))) rfl) (nl (nN (rt (fret (v := .bool (decide (((c.toNat : Nat) : Int) ≤ 122))) (.tmp .nil) rfl ?_)))))))
   have e1 : (decide (((c.toNat : Nat) : Int) ≤ 122)) = (decide (97 ≤ ((c.toNat : Nat) : Int) ∧ ((c.toNat : Nat) : Int) ≤ 122)) := by simp [h1]
   exact ⟨(congrArg (Value.bool) e1), hs0⟩
 · refine gk false rfl rfl rfl rfl rfl (gk false rfl rfl rfl rfl rfl (qt rfl (pf (v := .bool false) rfl rfl) (qt rfl (asg (v := .bool false) rfl) (nl (nN (rt (fret (v := .bool false) (.tmp .nil) rfl ?_)))))))
   have e2 : false = (decide (97 ≤ ((c.toNat : Nat) : Int) ∧ ((c.toNat : Nat) : Int) ≤ 122)) := by simp [h1]
   exact ⟨(congrArg (Value.bool) e2), hs0⟩
theorem iDigit (c : UInt8) (w : World)  : Does Tryz.prog 176 [.int .u8 ((c.toNat : Nat) : Int)] w (fun v w' => v = .bool (decide (48 ≤ ((c.toNat : Nat) : Int) ∧ ((c.toNat : Nat) : Int) ≤ 57)) ∧ SH w w' [] []) := by
 refine fn_enter (N := 9) Tryz.func176 rfl (by kernel_rfl) rfl rfl rfl ?_
 have hs0 : SH w w [] [] := SH.refl w []
 refine sq (rg (qt rfl (asg (v := .bool false) rfl) (nl (nN (sq (rg (qt rfl (mv (v := .int .u8 ((c.toNat : Nat) : Int)) rfl) ?_)))))))
 refine qt rfl (geq (k := .u8) (a := ((c.toNat : Nat) : Int)) (b := 48) rfl rfl) (qt rfl (mv (v := .bool (decide ((48 : Int) ≤ ((c.toNat : Nat) : Int)))) rfl) ?_)
 refine spd (p := (48 : Int) ≤ ((c.toNat : Nat) : Int)) 5 rfl (fun h1 => ?_) (fun h1 => ?_)
 · refine q ⟨_, rfl, rfl⟩ rfl rfl (mv (v := .int .u8 ((c.toNat : Nat) : Int)) rfl) (q ⟨_, rfl, rfl⟩ rfl rfl (leq (k := .u8) (a := ((c.toNat : Nat) : Int)) (b := 57) rfl rfl) (qt rfl (pt (v := .bool (decide (((c.toNat : Nat) : Int) ≤ 57))) rfl rfl) (qt rfl (asg (v := .bool (decide (((c.toNat : Nat) : Int) ≤ 57))) rfl) (nl (nN (rt (fret (v := .bool (decide (((c.toNat : Nat) : Int) ≤ 57))) (.tmp .nil) rfl ?_)))))))
   have e1 : (decide (((c.toNat : Nat) : Int) ≤ 57)) = (decide (48 ≤ ((c.toNat : Nat) : Int) ∧ ((c.toNat : Nat) : Int) ≤ 57)) := by simp [h1]
   exact ⟨(congrArg (Value.bool) e1), hs0⟩
 · refine gk false rfl rfl rfl rfl rfl (gk false rfl rfl rfl rfl rfl (qt rfl (pf (v := .bool false) rfl rfl) (qt rfl (asg (v := .bool false) rfl) (nl (nN (rt (fret (v := .bool false) (.tmp .nil) rfl ?_)))))))
   have e2 : false = (decide (48 ≤ ((c.toNat : Nat) : Int) ∧ ((c.toNat : Nat) : Int) ≤ 57)) := by simp [h1]
   exact ⟨(congrArg (Value.bool) e2), hs0⟩
theorem sLetter (c : UInt8) (w : World)  : Does Tryz.prog 181 [.int .u8 ((c.toNat : Nat) : Int)] w (fun v w' => v = .bool (letC c) ∧ SH w w' [] []) := by
 refine fn_enter (N := 21) Tryz.func181 rfl (by kernel_rfl) rfl rfl rfl ?_
 have hs0 : SH w w [] [] := SH.refl w []
 refine sq (rg (qt rfl (asg (v := .bool false) rfl) (nl (nN (sq (rg (qt rfl (mv (v := .int .u8 ((c.toNat : Nat) : Int)) rfl) ?_)))))))
 refine qt rfl (geq (k := .u8) (a := ((c.toNat : Nat) : Int)) (b := 97) rfl rfl) (qt rfl (mv (v := .bool (decide ((97 : Int) ≤ ((c.toNat : Nat) : Int)))) rfl) ?_)
 refine spd (p := (97 : Int) ≤ ((c.toNat : Nat) : Int)) 5 rfl (fun h1 => ?_) (fun h1 => ?_)
 · refine q ⟨_, rfl, rfl⟩ rfl rfl (mv (v := .int .u8 ((c.toNat : Nat) : Int)) rfl) (q ⟨_, rfl, rfl⟩ rfl rfl (leq (k := .u8) (a := ((c.toNat : Nat) : Int)) (b := 122) rfl rfl) (qt rfl (pt (v := .bool (decide (((c.toNat : Nat) : Int) ≤ 122))) rfl rfl) (qt rfl (mv (v := .bool (decide (((c.toNat : Nat) : Int) ≤ 122))) rfl) ?_)))
   refine spd (p := ((c.toNat : Nat) : Int) ≤ 122) 9 rfl (fun h2 => ?_) (fun h2 => ?_)
   · refine gk true rfl rfl rfl rfl rfl (gk true rfl rfl rfl rfl rfl (gk true rfl rfl rfl rfl rfl (gku rfl rfl rfl rfl rfl (gku rfl rfl rfl rfl rfl (gk true rfl rfl rfl rfl rfl (qt rfl (pt (v := .bool true) rfl rfl) (qt rfl (mv (v := .bool true) rfl) ?_)))))))
     refine gk true rfl rfl rfl rfl rfl (gk true rfl rfl rfl rfl rfl (qt rfl (pt (v := .bool true) rfl rfl) (qt rfl (asg (v := .bool true) rfl) (nl (nN (rt (fret (v := .bool true) (.tmp .nil) rfl ?_)))))))
     have e1 : true = letC c := by simp only [letC]; (simp; omega)
     exact ⟨(congrArg (Value.bool) e1), hs0⟩
   · refine q ⟨_, rfl, rfl⟩ rfl rfl (mv (v := .int .u8 ((c.toNat : Nat) : Int)) rfl) (q ⟨_, rfl, rfl⟩ rfl rfl (geq (k := .u8) (a := ((c.toNat : Nat) : Int)) (b := 48) rfl rfl) (q ⟨_, rfl, rfl⟩ rfl rfl (mv (v := .bool (decide ((48 : Int) ≤ ((c.toNat : Nat) : Int)))) rfl) ?_))
     refine spd (p := (48 : Int) ≤ ((c.toNat : Nat) : Int)) 12 rfl (fun h3 => ?_) (fun h3 => ?_)
     · refine q ⟨_, rfl, rfl⟩ rfl rfl (mv (v := .int .u8 ((c.toNat : Nat) : Int)) rfl) (q ⟨_, rfl, rfl⟩ rfl rfl (leq (k := .u8) (a := ((c.toNat : Nat) : Int)) (b := 57) rfl rfl) (q ⟨_, rfl, rfl⟩ rfl rfl (pt (v := .bool (decide (((c.toNat : Nat) : Int) ≤ 57))) rfl rfl) (qt rfl (pf (v := .bool (decide (((c.toNat : Nat) : Int) ≤ 57))) rfl rfl) (qt rfl (mv (v := .bool (decide (((c.toNat : Nat) : Int) ≤ 57))) rfl) ?_))))
       refine spd (p := ((c.toNat : Nat) : Int) ≤ 57) 17 rfl (fun h4 => ?_) (fun h4 => ?_)
       · refine gk true rfl rfl rfl rfl rfl (gk true rfl rfl rfl rfl rfl (qt rfl (pt (v := .bool true) rfl rfl) (qt rfl (asg (v := .bool true) rfl) (nl (nN (rt (fret (v := .bool true) (.tmp .nil) rfl ?_)))))))
         have e2 : true = letC c := by simp only [letC]; (simp; omega)
         exact ⟨(congrArg (Value.bool) e2), hs0⟩
       · refine q ⟨_, rfl, rfl⟩ rfl rfl (mv (v := .int .u8 ((c.toNat : Nat) : Int)) rfl) (q ⟨_, rfl, rfl⟩ rfl rfl (eqi (k := .u8) (a := ((c.toNat : Nat) : Int)) (b := 45) rfl rfl) (qt rfl (pf (v := .bool (decide (((c.toNat : Nat) : Int) = 45))) rfl rfl) (qt rfl (asg (v := .bool (decide (((c.toNat : Nat) : Int) = 45))) rfl) (nl (nN (rt (fret (v := .bool (decide (((c.toNat : Nat) : Int) = 45))) (.tmp .nil) rfl ?_)))))))
         have e3 : (decide (((c.toNat : Nat) : Int) = 45)) = letC c := by simp only [letC]; simp [h1, h2, h3, h4]
         exact ⟨(congrArg (Value.bool) e3), hs0⟩
     · refine gk false rfl rfl rfl rfl rfl (gk false rfl rfl rfl rfl rfl (q ⟨_, rfl, rfl⟩ rfl rfl (pf (v := .bool false) rfl rfl) (qt rfl (pf (v := .bool false) rfl rfl) (qt rfl (mv (v := .bool false) rfl) (q ⟨_, rfl, rfl⟩ rfl rfl (mv (v := .int .u8 ((c.toNat : Nat) : Int)) rfl) (q ⟨_, rfl, rfl⟩ rfl rfl (eqi (k := .u8) (a := ((c.toNat : Nat) : Int)) (b := 45) rfl rfl) (qt rfl (pf (v := .bool (decide (((c.toNat : Nat) : Int) = 45))) rfl rfl) ?_)))))))
       refine qt rfl (asg (v := .bool (decide (((c.toNat : Nat) : Int) = 45))) rfl) (nl (nN (rt (fret (v := .bool (decide (((c.toNat : Nat) : Int) = 45))) (.tmp .nil) rfl ?_))))
       have e4 : (decide (((c.toNat : Nat) : Int) = 45)) = letC c := by simp only [letC]; (simp; omega)
       exact ⟨(congrArg (Value.bool) e4), hs0⟩
 · refine gk false rfl rfl rfl rfl rfl (gk false rfl rfl rfl rfl rfl (qt rfl (pf (v := .bool false) rfl rfl) (qt rfl (mv (v := .bool false) rfl) (q ⟨_, rfl, rfl⟩ rfl rfl (mv (v := .int .u8 ((c.toNat : Nat) : Int)) rfl) (q ⟨_, rfl, rfl⟩ rfl rfl (geq (k := .u8) (a := ((c.toNat : Nat) : Int)) (b := 48) rfl rfl) (q ⟨_, rfl, rfl⟩ rfl rfl (mv (v := .bool (decide ((48 : Int) ≤ ((c.toNat : Nat) : Int)))) rfl) ?_))))))
   refine spd (p := (48 : Int) ≤ ((c.toNat : Nat) : Int)) 12 rfl (fun h5 => ?_) (fun h5 => ?_)
   · refine q ⟨_, rfl, rfl⟩ rfl rfl (mv (v := .int .u8 ((c.toNat : Nat) : Int)) rfl) (q ⟨_, rfl, rfl⟩ rfl rfl (leq (k := .u8) (a := ((c.toNat : Nat) : Int)) (b := 57) rfl rfl) (q ⟨_, rfl, rfl⟩ rfl rfl (pt (v := .bool (decide (((c.toNat : Nat) : Int) ≤ 57))) rfl rfl) (qt rfl (pf (v := .bool (decide (((c.toNat : Nat) : Int) ≤ 57))) rfl rfl) (qt rfl (mv (v := .bool (decide (((c.toNat : Nat) : Int) ≤ 57))) rfl) ?_))))
     refine spd (p := ((c.toNat : Nat) : Int) ≤ 57) 17 rfl (fun h6 => ?_) (fun h6 => ?_)
     · refine gk true rfl rfl rfl rfl rfl (gk true rfl rfl rfl rfl rfl (qt rfl (pt (v := .bool true) rfl rfl) (qt rfl (asg (v := .bool true) rfl) (nl (nN (rt (fret (v := .bool true) (.tmp .nil) rfl ?_)))))))
       have e5 : true = letC c := by simp only [letC]; (simp; omega)
       exact ⟨(congrArg (Value.bool) e5), hs0⟩
     · refine q ⟨_, rfl, rfl⟩ rfl rfl (mv (v := .int .u8 ((c.toNat : Nat) : Int)) rfl) (q ⟨_, rfl, rfl⟩ rfl rfl (eqi (k := .u8) (a := ((c.toNat : Nat) : Int)) (b := 45) rfl rfl) (qt rfl (pf (v := .bool (decide (((c.toNat : Nat) : Int) = 45))) rfl rfl) (qt rfl (asg (v := .bool (decide (((c.toNat : Nat) : Int) = 45))) rfl) (nl (nN (rt (fret (v := .bool (decide (((c.toNat : Nat) : Int) = 45))) (.tmp .nil) rfl ?_)))))))
       have e6 : (decide (((c.toNat : Nat) : Int) = 45)) = letC c := by simp only [letC]; simp [h1, h5, h6]
       exact ⟨(congrArg (Value.bool) e6), hs0⟩
   · refine gk false rfl rfl rfl rfl rfl (gk false rfl rfl rfl rfl rfl (q ⟨_, rfl, rfl⟩ rfl rfl (pf (v := .bool false) rfl rfl) (qt rfl (pf (v := .bool false) rfl rfl) (qt rfl (mv (v := .bool false) rfl) (q ⟨_, rfl, rfl⟩ rfl rfl (mv (v := .int .u8 ((c.toNat : Nat) : Int)) rfl) (q ⟨_, rfl, rfl⟩ rfl rfl (eqi (k := .u8) (a := ((c.toNat : Nat) : Int)) (b := 45) rfl rfl) (qt rfl (pf (v := .bool (decide (((c.toNat : Nat) : Int) = 45))) rfl rfl) ?_)))))))
     refine qt rfl (asg (v := .bool (decide (((c.toNat : Nat) : Int) = 45))) rfl) (nl (nN (rt (fret (v := .bool (decide (((c.toNat : Nat) : Int) = 45))) (.tmp .nil) rfl ?_))))
     have e7 : (decide (((c.toNat : Nat) : Int) = 45)) = letC c := by simp only [letC]; simp [h1, h5]
     exact ⟨(congrArg (Value.bool) e7), hs0⟩
theorem isPort (x : Int) (w : World)  : Does Tryz.prog 122 [I x] w (fun v w' => v = .bool (decide (0 ≤ x ∧ x ≤ 65535)) ∧ SH w w' [] []) := by
 refine fn_enter (N := 5) Tryz.func122 rfl (by kernel_rfl) rfl rfl rfl ?_
 have hs0 : SH w w [] [] := SH.refl w []
 refine sq (rg (qt rfl (asg (v := .bool false) rfl) (nl (nN (sq (rg (qt rfl (mv (v := I x) rfl) ?_)))))))
 refine cl trivial rfl (iWithin (x := x) (lo := 0) (hi := 65535) (w := _)) ?_
 rintro _ w1 ⟨rfl, hs1'⟩
 have hs1 := hs0.call0 hs1'
 clear hs1'
 refine qt rfl (asg (v := .bool (decide (0 ≤ x ∧ x ≤ 65535))) rfl) (nl (nN (rt (fret (v := .bool (decide (0 ≤ x ∧ x ≤ 65535))) (.tmp .nil) rfl ?_))))
 exact ⟨rfl, hs1⟩
theorem iConsists (l : List UInt8) (m : List UInt8) (w : World) (hl_n : l.length ≤ 9223372036854775807) : Does Tryz.prog 155 [Str l, Str m] w (fun v w' => v = .bool (l.all (okC m)) ∧ SH w w' [] []) := by
 refine fn_enter (N := 32) Tryz.func155 rfl (by kernel_rfl) rfl rfl rfl ?_
 have hs0 : SH w w [] [] := SH.refl w []
 refine sq (rg (qt rfl (asg (v := .bool false) rfl) (nl (nN (sq (sq (rg ?_)))))))
 refine qt rfl (mv (v := Str l) rfl) (qt rfl (lnS (l := l) st9 rfl) (qt rfl (mv (v := I 0) rfl) (nl (nN (bl (lp (σ := Nat) (fun (k : Nat) f w' => Has f [(0, Str l), (1, Str m), (7, I ((l.length : Nat) : Int)), (8, I ((k : Nat) : Int))] ∧ (k ≤ l.length) ∧ ((l.take k).all (okC m) = true) ∧ SH w w' [] []) (fun k => l.length - k) 0 ⟨⟨rfl, rfl, rfl, rfl, trivial⟩, (by simp), (by simp), hs0⟩ ?_))))))
 rintro k f w1 ⟨hf, hk, ha, hs1⟩
 obtain ⟨g1, rfl⟩ := has_upd hf
 clear hf
 refine sq (rg (qt rfl (lss (k := .i64) (a := ((k : Nat) : Int)) (b := ((l.length : Nat) : Int)) rfl rfl) (nl (nN (sq ?_)))))
 refine cdd (p := ((k : Nat) : Int) < ((l.length : Nat) : Int)) rfl (fun h1 => ?_) (fun h1 => ?_)
 · refine sk (nN (sq (bl (sq (rg (qt rfl (mv (v := I ((k : Nat) : Int)) rfl) (qt rfl (asg (v := I ((k : Nat) : Int)) rfl) ?_)))))))
   refine nl (nN (sq (rg (qt rfl (mv (v := Str l) rfl) (qt rfl (mv (v := I ((k : Nat) : Int)) rfl) (qt rfl (ixs (l := l) k st9 rfl rfl (by omega)) (cl trivial rfl (iLetter (c := (l.getD k 0)) (w := _)) ?_)))))))
   rintro _ w2 ⟨rfl, hs2'⟩
   have hs2 := hs1.call0 hs2'
   clear hs2'
   refine qt rfl (nd (p := 97 ≤ (((l.getD k 0).toNat : Nat) : Int) ∧ (((l.getD k 0).toNat : Nat) : Int) ≤ 122) rfl) (qt rfl (mv (v := .bool (decide (¬ (97 ≤ (((l.getD k 0).toNat : Nat) : Int) ∧ (((l.getD k 0).toNat : Nat) : Int) ≤ 122)))) rfl) ?_)
   refine spd (p := ¬ (97 ≤ (((l.getD k 0).toNat : Nat) : Int) ∧ (((l.getD k 0).toNat : Nat) : Int) ≤ 122)) 16 rfl (fun h2 => ?_) (fun h2 => ?_)
   · refine q ⟨_, rfl, rfl⟩ rfl rfl (mv (v := Str l) rfl) (q ⟨_, rfl, rfl⟩ rfl rfl (mv (v := I ((k : Nat) : Int)) rfl) (q ⟨_, rfl, rfl⟩ rfl rfl (ixs (l := l) k st9 rfl rfl (by omega)) (cl ⟨_, rfl, rfl⟩ rfl (iDigit (c := (l.getD k 0)) (w := _)) ?_)))
     rintro _ w3 ⟨rfl, hs3'⟩
     have hs3 := hs2.call0 hs3'
     clear hs3'
     refine q ⟨_, rfl, rfl⟩ rfl rfl (nd (p := 48 ≤ (((l.getD k 0).toNat : Nat) : Int) ∧ (((l.getD k 0).toNat : Nat) : Int) ≤ 57) rfl) (qt rfl (pt (v := .bool (decide (¬ (48 ≤ (((l.getD k 0).toNat : Nat) : Int) ∧ (((l.getD k 0).toNat : Nat) : Int) ≤ 57)))) rfl rfl) (qt rfl (mv (v := .bool (decide (¬ (48 ≤ (((l.getD k 0).toNat : Nat) : Int) ∧ (((l.getD k 0).toNat : Nat) : Int) ≤ 57)))) rfl) ?_))
     refine spd (p := ¬ (48 ≤ (((l.getD k 0).toNat : Nat) : Int) ∧ (((l.getD k 0).toNat : Nat) : Int) ≤ 57)) 23 rfl (fun h3 => ?_) (fun h3 => ?_)
     · refine q ⟨_, rfl, rfl⟩ rfl rfl (mv (v := Str m) rfl) (q ⟨_, rfl, rfl⟩ rfl rfl (mv (v := Str l) rfl) (q ⟨_, rfl, rfl⟩ rfl rfl (mv (v := I ((k : Nat) : Int)) rfl) (q ⟨_, rfl, rfl⟩ rfl rfl (ixs (l := l) k st9 rfl rfl (by omega)) (cl ⟨_, rfl, rfl⟩ rfl (stIndexByte (l := m) (c := (l.getD k 0)) (w := _)) ?_))))
       rintro _ w4 ⟨rfl, hs4'⟩
       have hs4 := hs3.call0 hs4'
       clear hs4'
       refine q ⟨_, rfl, rfl⟩ rfl rfl (lss (k := .i64) (a := idxB m (l.getD k 0)) (b := 0) rfl rfl) (qt rfl (pt (v := .bool (decide ((idxB m (l.getD k 0)) < 0))) rfl rfl) (nl (nN ?_)))
       refine cdd (p := (idxB m (l.getD k 0)) < 0) rfl (fun h4 => ?_) (fun h4 => ?_)
       · refine sq (rg (qt rfl (asg (v := .bool false) rfl) (nl (nN ?_))))
         refine rt (bR (tR (tR (bR (tR ?_)))))
         refine fret (v := .bool false) (.tmp .nil) rfl ?_
         have e1 : false = l.all (okC m) := by exact (all_no (d := 0) (k := k) (by omega) (by simp only [okC, decide_eq_false_iff_not]; omega)).symm
         exact ⟨(congrArg (Value.bool) e1), hs4⟩
       · refine sk (bN (nN (rg (qt rfl (add (a := ((k : Nat) : Int)) (b := 1) rfl rfl (by exact ⟨by omega, by omega⟩)) (qt rfl (mv (v := I (((k : Nat) : Int) + 1)) rfl) (nl (nN ?_)))))))
         refine ⟨(k + 1), ⟨⟨rfl, rfl, rfl, rfl, trivial⟩, (by omega), (all_step (d := 0) (by omega) ha (by simp only [okC, decide_eq_true_eq]; omega)), hs4⟩, ?_⟩
         omega
     · refine gk false rfl rfl rfl rfl rfl (gk false rfl rfl rfl rfl rfl (gk false rfl rfl rfl rfl rfl (gk false rfl rfl rfl rfl rfl (gk false rfl rfl rfl rfl rfl (gk false rfl rfl rfl rfl rfl (qt rfl (pf (v := .bool false) rfl rfl) (nl ?_)))))))
       refine nN (cdf rfl (sk (bN (nN (rg (qt rfl (add (a := ((k : Nat) : Int)) (b := 1) rfl rfl (by exact ⟨by omega, by omega⟩)) (qt rfl (mv (v := I (((k : Nat) : Int) + 1)) rfl) ?_)))))))
       refine nl (nN ?_)
       refine ⟨(k + 1), ⟨⟨rfl, rfl, rfl, rfl, trivial⟩, (by omega), (all_step (d := 0) (by omega) ha (by simp only [okC, decide_eq_true_eq]; omega)), hs3⟩, ?_⟩
       omega
   · refine gk false rfl rfl rfl rfl rfl (gk false rfl rfl rfl rfl rfl (gk false rfl rfl rfl rfl rfl (gk false rfl rfl rfl rfl rfl (gk false rfl rfl rfl rfl rfl (qt rfl (pf (v := .bool false) rfl rfl) (qt rfl (mv (v := .bool false) rfl) (gk false rfl rfl rfl rfl rfl ?_)))))))
     refine gk false rfl rfl rfl rfl rfl (gk false rfl rfl rfl rfl rfl (gk false rfl rfl rfl rfl rfl (gk false rfl rfl rfl rfl rfl (gk false rfl rfl rfl rfl rfl (qt rfl (pf (v := .bool false) rfl rfl) (nl (nN ?_)))))))
     refine cdf rfl (sk (bN (nN (rg (qt rfl (add (a := ((k : Nat) : Int)) (b := 1) rfl rfl (by exact ⟨by omega, by omega⟩)) (qt rfl (mv (v := I (((k : Nat) : Int) + 1)) rfl) (nl ?_)))))))
     refine nN ?_
     refine ⟨(k + 1), ⟨⟨rfl, rfl, rfl, rfl, trivial⟩, (by omega), (all_step (d := 0) (by omega) ha (by simp only [okC, decide_eq_true_eq]; omega)), hs2⟩, ?_⟩
     omega
 · refine ex (tE (tE (bE ?_)))
   refine nN (sq (rg (qt rfl (asg (v := .bool true) rfl) (nl (nN (rt (fret (v := .bool true) (.tmp .nil) rfl ?_)))))))
   have e2 : true = l.all (okC m) := by exact (all_yes (by omega) ha).symm
   exact ⟨(congrArg (Value.bool) e2), hs1⟩
theorem slClone {Axs : Option Addr} {cxs : Nat} (xs : List Int) (w : World) (hxs : Sl w [] 1 Axs xs.length cxs (xs.map I)) (hxs_n : xs.length ≤ 1099511627776) : Does Tryz.prog 104 [.slice Axs xs.length cxs] w (fun v w' => ∃ Ar : Option Addr, ∃ cr : Nat, v = .slice Ar xs.length cr ∧ SH w w' [] [.own Ar xs.length cr 3 1 (xs.map I)]) := by
 refine fn_enter (N := 8) Tryz.func104 rfl (by kernel_rfl) rfl rfl rfl ?_
 have hs0 : SH w w [] [] := SH.refl w []
 have hxs_m : xs.length ≤ 9223372036854775807 := Nat.le_trans hxs.cap hxs.capMax
 refine sq (rg (qt rfl (asg (v := ns) rfl) (nl (nN (sq (sq (rg ?_)))))))
 refine qt rfl (mv (v := .slice Axs xs.length cxs) rfl) (qt rfl (slnil (A := Axs) sl22 rfl rfl) (nl (nN ?_)))
 refine cdd (p := Axs = none) rfl (fun h1 => ?_) (fun h1 => ?_)
 · refine sq (rg (qt rfl (asg (v := ns) rfl) (nl (nN (rt (tR ?_))))))
   refine fret (v := ns) (.tmp .nil) rfl ?_
   have hs1 : SH w w [] [.own none (([] : List Int).length) 0 3 1 (([] : List Int).map I)] := SH.nils (by intro i hi; simp at hi; subst hi; exact nilItem) hs0
   have e1 : ([] : List Int) = xs := by exact (sl_none hxs (by assumption)).symm
   have e2 : ([] : List Int).length = xs.length := by exact congrArg List.length e1
   exact ⟨none, 0, (slv rfl e2 rfl), (hs1.cast (lc (own_eq (g := I) rfl e2 rfl e1) rfl))⟩
 · refine sk (nN (sq (rg (bsk hs0 sl22 [] [] trivial rfl (fun b1 w1 (hs2 : SH w w1 [] [oI b1 ([] : List Int) 0 3]) => ?_)))))
   refine qt rfl (mv (v := .slice Axs xs.length cxs) rfl) (apm (g := I) (ys := ([] : List Int)) (zs := xs) hs2 0 rfl sl22 rfl rfl rfl (hxs.up0 hs2) (fun _ => rfl) (by unfold maxLen; (simp; omega)) (by (simp; omega)) trivial rfl (fun A1 c1 w2 (hs3 : SH w w2 [] [.own A1 xs.length c1 3 1 (xs.map I)]) => ?_))
   refine qt rfl (asg (v := .slice A1 xs.length c1) rfl) (nl (nN (rt (fret (v := .slice A1 xs.length c1) (.tmp .nil) rfl ?_))))
   exact ⟨A1, c1, rfl, hs3⟩
theorem szIntS {Axs : Option Addr} {cxs : Nat} (xs : List Int) (z : Int) (w : World) (hxs : Sl w [] 1 Axs xs.length cxs (xs.map I)) (hz : 0 ≤ z ∧ z ≤ 1099511627776) : Does Tryz.prog 38 [.slice Axs xs.length cxs, I z] w (fun v w' => v = .int .i64 (szI xs.length z) ∧ SH w w' [] []) := by
 refine fn_enter (N := 12) Tryz.func38 rfl (by kernel_rfl) rfl rfl rfl ?_
 have hs0 : SH w w [] [] := SH.refl w []
 have hxs_m : xs.length ≤ 9223372036854775807 := Nat.le_trans hxs.cap hxs.capMax
 refine sq (rg (qt rfl (asg (v := I 0) rfl) (nl (nN (sq (rg (qt rfl (mv (v := I z) rfl) ?_)))))))
 refine qt rfl (mv (v := .slice Axs xs.length cxs) rfl) (qt rfl (lnA (n := xs.length) sl22 rfl) (qt rfl (sub (a := z) (b := ((xs.length : Nat) : Int)) rfl rfl (by exact ⟨by omega, by omega⟩)) (qt rfl (asg (v := I (z - ((xs.length : Nat) : Int))) rfl) (nl (nN (sq (sq ?_)))))))
 refine rg (qt rfl (mv (v := I (z - ((xs.length : Nat) : Int))) rfl) (qt rfl (lss (k := .i64) (a := z - ((xs.length : Nat) : Int)) (b := 0) rfl rfl) (nl (nN ?_))))
 refine cdd (p := (z - ((xs.length : Nat) : Int)) < 0) rfl (fun h1 => ?_) (fun h1 => ?_)
 · refine sq (rg (qt rfl (asg (v := I (-1)) rfl) (nl (nN (rt (tR ?_))))))
   refine fret (v := I (-1)) (.tmp .nil) rfl ?_
   have e1 : (-1) = szI xs.length z := by simp [szI] <;> omega
   exact ⟨(congrArg (Value.int .i64) e1), hs0⟩
 · refine sk (nN (sq (rg (qt rfl (mv (v := I (z - ((xs.length : Nat) : Int))) rfl) (qt rfl (asg (v := I (z - ((xs.length : Nat) : Int))) rfl) (nl (nN ?_)))))))
   refine rt (fret (v := I (z - ((xs.length : Nat) : Int))) (.tmp .nil) rfl ?_)
   have e2 : z - ((xs.length : Nat) : Int) = szI xs.length z := by simp [szI] <;> omega
   exact ⟨(congrArg (Value.int .i64) e2), hs0⟩
theorem slIndexS (l : List UInt8) (c : UInt8) (w : World)  : Does Tryz.prog 182 [Str l, Str [c]] w (fun v w' => v = .int .i64 (idxB l c) ∧ SH w w' [] []) := by
 refine fn_enter (N := 143) Tryz.func182 rfl (by kernel_rfl) rfl rfl rfl ?_
 have hs0 : SH w w [] [] := SH.refl w []
 refine sq (rg (qt rfl (asg (v := I 0) rfl) (nl (nN (sq (rg (qt rfl (mv (v := Str [c]) rfl) ?_)))))))
 refine qt rfl (lnS (l := [c]) st9 rfl) (qt rfl (asg (v := I (([c].length : Nat) : Int)) rfl) (nl (nN (sq (bl (sq (rg ?_)))))))
 refine qt rfl (mv (v := I (([c].length : Nat) : Int)) rfl) (qt rfl (eqi (k := .i64) (a := (([c].length : Nat) : Int)) (b := 0) rfl rfl) (qt rfl (mv (v := .bool (decide ((([c].length : Nat) : Int) = 0))) rfl) ?_))
 refine spd (p := (([c].length : Nat) : Int) = 0) 19 rfl (fun h1 => absurd h1 (by simp)) (fun h1 => ?_)
 refine q ⟨_, rfl, rfl⟩ rfl rfl (mv (v := Str [c]) rfl) (q ⟨_, rfl, rfl⟩ rfl rfl (mv (v := Str l) rfl) (q ⟨_, rfl, rfl⟩ rfl rfl (eqs (l := [c]) (m := l) rfl rfl) (qt rfl (pf (v := .bool (decide ([c] = l))) rfl rfl) (qt rfl (asg (v := .bool (decide ([c] = l))) rfl) (nl (nN ?_))))))
 refine cdd (p := [c] = l) rfl (fun h2 => ?_) (fun h2 => ?_)
 · refine sq (rg (qt rfl (asg (v := I 0) rfl) (nl (nN ?_))))
   refine rt (bR (tR ?_))
   refine fret (v := I 0) (.tmp .nil) rfl ?_
   have e1 : 0 = idxB l c := by subst h2; exact (idxB_self c).symm
   exact ⟨(congrArg (Value.int .i64) e1), hs0⟩
 · refine sq (rg (qt rfl (mv (v := I (([c].length : Nat) : Int)) rfl) (qt rfl (eqi (k := .i64) (a := (([c].length : Nat) : Int)) (b := 1) rfl rfl) (qt rfl (asg (v := .bool (decide ((([c].length : Nat) : Int) = 1))) rfl) (nl (nN ?_))))))
   refine cdd (p := (([c].length : Nat) : Int) = 1) rfl (fun h3 => ?_) (fun h3 => absurd (by rfl) h3)
   refine sq (rg (qt rfl (mv (v := Str l) rfl) (qt rfl (mv (v := Str [c]) rfl) (qt rfl (ixs (l := [c]) 0 st9 rfl rfl (by omega)) (cl trivial rfl (slIndexByte (l := l) (c := ([c].getD 0 0)) (w := _)) ?_)))))
   rintro _ w1 ⟨rfl, hs1'⟩
   have hs1 := hs0.call0 hs1'
   clear hs1'
   refine qt rfl (asg (v := I (idxB l ([c].getD 0 0))) rfl) (nl (nN ?_))
   refine rt (bR (tR ?_))
   refine fret (v := I (idxB l ([c].getD 0 0))) (.tmp .nil) rfl ?_
   have e2 : idxB l ([c].getD 0 0) = idxB l c := by rfl
   exact ⟨(congrArg (Value.int .i64) e2), hs1⟩
theorem stIndex (l : List UInt8) (c : UInt8) (w : World)  : Does Tryz.prog 191 [Str l, Str [c]] w (fun v w' => v = .int .i64 (idxB l c) ∧ SH w w' [] []) := by
 refine fn_enter (N := 8) Tryz.func191 rfl (by kernel_rfl) rfl rfl rfl ?_
 have hs0 : SH w w [] [] := SH.refl w []
 refine sq (rg (qt rfl (asg (v := I 0) rfl) (nl (nN (sq (rg (qt rfl (mv (v := Str l) rfl) ?_)))))))
 refine qt rfl (mv (v := Str [c]) rfl) (cl trivial rfl (slIndexS (l := l) (c := c) (w := _)) ?_)
 rintro _ w1 ⟨rfl, hs1'⟩
 have hs1 := hs0.call0 hs1'
 clear hs1'
 refine qt rfl (asg (v := I (idxB l c)) rfl) (nl (nN (rt (fret (v := I (idxB l c)) (.tmp .nil) rfl ?_))))
 exact ⟨rfl, hs1⟩
theorem stCount (l : List UInt8) (c : UInt8) (w : World)  : Does Tryz.prog 190 [Str l, Str [c]] w (fun v w' => v = .int .i64 ((l.count c : Nat) : Int) ∧ SH w w' [] []) := by
 refine fn_enter (N := 34) Tryz.func190 rfl (by kernel_rfl) rfl rfl rfl ?_
 have hs0 : SH w w [] [] := SH.refl w []
 refine sq (rg (qt rfl (asg (v := I 0) rfl) (nl (nN (sq (sq (rg ?_)))))))
 refine qt rfl (mv (v := Str [c]) rfl) (qt rfl (lnS (l := [c]) st9 rfl) (qt rfl (eqi (k := .i64) (a := (([c].length : Nat) : Int)) (b := 0) rfl rfl) (nl (nN ?_))))
 refine cdd (p := (([c].length : Nat) : Int) = 0) rfl (fun h1 => absurd h1 (by simp)) (fun h1 => ?_)
 refine sk (nN (sq (sq (rg (qt rfl (mv (v := Str [c]) rfl) (qt rfl (lnS (l := [c]) st9 rfl) (qt rfl (eqi (k := .i64) (a := (([c].length : Nat) : Int)) (b := 1) rfl rfl) ?_)))))))
 refine nl (nN ?_)
 refine cdd (p := (([c].length : Nat) : Int) = 1) rfl (fun h2 => ?_) (fun h2 => absurd (by rfl) h2)
 refine sq (rg (qt rfl (mv (v := Str l) rfl) (qt rfl (mv (v := Str [c]) rfl) (qt rfl (ixs (l := [c]) 0 st9 rfl rfl (by omega)) (qt rfl (csc (l := l) (c := ([c].getD 0 0)) Tryz.func210 (by kernel_rfl) rfl (by kernel_rfl) (by kernel_rfl) rfl rfl) (qt rfl (asg (v := I ((l.count ([c].getD 0 0) : Nat) : Int)) rfl) (nl ?_)))))))
 refine nN (rt (tR ?_))
 refine fret (v := I ((l.count ([c].getD 0 0) : Nat) : Int)) (.tmp .nil) rfl ?_
 have e1 : ((l.count ([c].getD 0 0) : Nat) : Int) = ((l.count c : Nat) : Int) := by rfl
 exact ⟨(congrArg (Value.int .i64) e1), hs0⟩
theorem genSplit (l : List UInt8) (c : UInt8) (w : World) (hl_n : l.length ≤ 1099511627776) : Does Tryz.prog 175 [Str l, Str [c], I 0, I (-1)] w (fun v w' => ∃ Ar : Option Addr, ∃ cr : Nat, v = .slice Ar (splitB c l).length cr ∧ SH w w' [] [.own Ar ((splitB c l).length) cr 9 1 ((splitB c l).map Str)]) := by
 refine fn_enter (N := 66) Tryz.func175 rfl (by kernel_rfl) rfl rfl rfl ?_
 have hs0 : SH w w [] [] := SH.refl w []
 refine sq (rg (qt rfl (asg (v := ns) rfl) (nl (nN (sq (sq (rg ?_)))))))
 refine qt rfl (mv (v := I (-1)) rfl) (qt rfl (eqi (k := .i64) (a := (-1)) (b := 0) rfl rfl) (nl (nN ?_)))
 refine cdd (p := ((-1) : Int) = 0) rfl (fun h1 => absurd h1 (by decide)) (fun h1 => ?_)
 refine sk (nN (sq (sq (rg (qt rfl (mv (v := Str [c]) rfl) (qt rfl (eqs (l := [c]) (m := []) rfl rfl) (nl ?_)))))))
 refine nN ?_
 refine cdd (p := [c] = []) rfl (fun h2 => absurd h2 (by simp)) (fun h2 => ?_)
 refine sk (nN (sq (sq (rg (qt rfl (mv (v := I (-1)) rfl) (qt rfl (lss (k := .i64) (a := (-1)) (b := 0) rfl rfl) (nl ?_)))))))
 refine nN ?_
 refine cdd (p := (-1) < 0) rfl (fun h3 => ?_) (fun h3 => absurd (by decide) h3)
 refine rg (qt rfl (mv (v := Str l) rfl) (qt rfl (mv (v := Str [c]) rfl) (cl trivial rfl (stCount (l := l) (c := c) (w := _)) ?_)))
 rintro _ w1 ⟨rfl, hs1'⟩
 have hs1 := hs0.call0 hs1'
 clear hs1'
 refine qt rfl (add (a := ((l.count c : Nat) : Int)) (b := 1) rfl rfl (by (have hsl := splitB_len c l; have hcl := List.count_le_length (a := c) (l := l); exact ⟨by omega, by omega⟩))) (qt rfl (asg (v := I (((l.count c : Nat) : Int) + 1)) rfl) (nl (nN (sq (rg (qt rfl (mv (v := I (((l.count c : Nat) : Int) + 1)) rfl) (qt rfl (mv (v := Str l) rfl) ?_)))))))
 refine qt rfl (lnS (l := l) st9 rfl) (qt rfl (add (a := ((l.length : Nat) : Int)) (b := 1) rfl rfl (by (exact ⟨by omega, by omega⟩))) (qt rfl (mnI (a := ((l.count c : Nat) : Int) + 1) (b := ((l.length : Nat) : Int) + 1) rfl rfl) (qt rfl (asg (v := I (min (((l.count c : Nat) : Int) + 1) (((l.length : Nat) : Int) + 1))) rfl) (nl (nN (sq (rg ?_)))))))
 refine qt rfl (mv (v := I (min (((l.count c : Nat) : Int) + 1) (((l.length : Nat) : Int) + 1))) rfl) (mkm (g := Str) (z := []) (n := (min (((l.count c : Nat) : Int) + 1) (((l.length : Nat) : Int) + 1)).toNat) hs1 sl147 rfl (ieq (x := min (((l.count c : Nat) : Int) + 1) (((l.length : Nat) : Int) + 1)) (by (omega))) (ieq (x := min (((l.count c : Nat) : Int) + 1) (((l.length : Nat) : Int) + 1)) (by (omega))) (by (omega)) (by unfold maxLen; (omega)) trivial rfl (fun b1 w2 (hs2 : SH w w2 [] [.own (some ⟨b1, 0, none⟩) ((List.replicate ((min (((l.count c : Nat) : Int) + 1) (((l.length : Nat) : Int) + 1)).toNat) ([] : List UInt8)).length) ((min (((l.count c : Nat) : Int) + 1) (((l.length : Nat) : Int) + 1)).toNat) 9 1 ((List.replicate ((min (((l.count c : Nat) : Int) + 1) (((l.length : Nat) : Int) + 1)).toNat) ([] : List UInt8)).map Str)]) => ?_))
 refine qt rfl (asg (v := sb b1 ((List.replicate ((min (((l.count c : Nat) : Int) + 1) (((l.length : Nat) : Int) + 1)).toNat) ([] : List UInt8)).length) ((min (((l.count c : Nat) : Int) + 1) (((l.length : Nat) : Int) + 1)).toNat)) rfl) (nl (nN (sq (rg (qt rfl (mv (v := I (min (((l.count c : Nat) : Int) + 1) (((l.length : Nat) : Int) + 1))) rfl) (qt rfl (sub (a := min (((l.count c : Nat) : Int) + 1) (((l.length : Nat) : Int) + 1)) (b := 1) rfl rfl (by (exact ⟨by omega, by omega⟩))) (qt rfl (asg (v := I ((min (((l.count c : Nat) : Int) + 1) (((l.length : Nat) : Int) + 1)) - 1)) rfl) ?_)))))))
 refine nl (nN (sq (rg (qt rfl (asg (v := I 0) rfl) (nl (nN (sq ?_)))))))
 refine bl ?_
 have e1 : List.replicate ((min (((l.count c : Nat) : Int) + 1) (((l.length : Nat) : Int) + 1)).toNat) ([] : List UInt8) = (splitB c l).take 0 ++ List.replicate ((splitB c l).length - 0) ([] : List UInt8) := by have hsl := splitB_len c l; have hcl := List.count_le_length (a := c) (l := l); rw [show (min (((l.count c : Nat) : Int) + 1) (((l.length : Nat) : Int) + 1)).toNat = (splitB c l).length by omega]; simp
 have e2 : (List.replicate ((min (((l.count c : Nat) : Int) + 1) (((l.length : Nat) : Int) + 1)).toNat) ([] : List UInt8)).length = (splitB c l).length := by (have hsl := splitB_len c l; have hcl := List.count_le_length (a := c) (l := l); first | rfl | (simp; done) | (simp; omega) | omega)
 refine lp (σ := (Option Addr) × Nat × Nat × (List UInt8)) (fun ⟨Ag9, cg9, k, s⟩ f w' => Has f [(0, Str s), (1, Str [c]), (2, I 0), (3, I ((l.count c : Nat) : Int)), (9, .slice Ag9 ((splitB c l).length) cg9), (10, I ((k : Nat) : Int))] ∧ (k < (splitB c l).length) ∧ (splitB c s = (splitB c l).drop k) ∧ (s.length ≤ l.length) ∧ SH w w' [] [.own Ag9 ((splitB c l).length) cg9 9 1 (((splitB c l).take k ++ List.replicate ((splitB c l).length - k) ([] : List UInt8)).map Str)]) (fun ⟨Ag9, cg9, k, s⟩ => l.length + 1 - k) ((some ⟨b1, 0, none⟩), (min (((l.count c : Nat) : Int) + 1) (((l.length : Nat) : Int) + 1)).toNat, 0, l) ⟨⟨rfl, rfl, rfl, (show (I ((min (((l.count c : Nat) : Int) + 1) (((l.length : Nat) : Int) + 1)) - 1) : Value) = I ((l.count c : Nat) : Int) from congrArg (Value.int .i64) (by have hsl := splitB_len c l; have hcl := List.count_le_length (a := c) (l := l); omega)), (show (.slice (some ⟨b1, 0, none⟩) ((List.replicate ((min (((l.count c : Nat) : Int) + 1) (((l.length : Nat) : Int) + 1)).toNat) ([] : List UInt8)).length) ((min (((l.count c : Nat) : Int) + 1) (((l.length : Nat) : Int) + 1)).toNat) : Value) = .slice (some ⟨b1, 0, none⟩) ((splitB c l).length) ((min (((l.count c : Nat) : Int) + 1) (((l.length : Nat) : Int) + 1)).toNat) from slv rfl e2 rfl), rfl, trivial⟩, (by have hsl := splitB_len c l; have hcl := List.count_le_length (a := c) (l := l); omega), (by simp), (Nat.le_refl _), (hs2.cast (lc (own_eq (g := Str) rfl e2 rfl e1) rfl))⟩ ?_
 rintro ⟨Ag9, cg9, k, s⟩ f w3 ⟨hf, hk, hs_, hsn, hs3⟩
 obtain ⟨g1, rfl⟩ := has_upd hf
 clear hf
 refine sq (sq (rg (qt rfl (mv (v := I ((k : Nat) : Int)) rfl) (qt rfl (mv (v := I ((l.count c : Nat) : Int)) rfl) (qt rfl (lss (k := .i64) (a := ((k : Nat) : Int)) (b := ((l.count c : Nat) : Int)) rfl rfl) (nl (nN ?_)))))))
 refine cdd (p := ((k : Nat) : Int) < ((l.count c : Nat) : Int)) rfl (fun h4 => ?_) (fun h4 => ?_)
 · refine sk (nN (bl (sq (rg (qt rfl (mv (v := Str s) rfl) (qt rfl (mv (v := Str [c]) rfl) (cl trivial rfl (stIndex (l := s) (c := c) (w := _)) ?_)))))))
   rintro _ w4 ⟨rfl, hs4'⟩
   have hs4 := hs3.call0 hs4'
   clear hs4'
   refine qt rfl (asg (v := I (idxB s c)) rfl) (nl (nN (sq (sq (rg (qt rfl (mv (v := I (idxB s c)) rfl) (qt rfl (lss (k := .i64) (a := idxB s c) (b := 0) rfl rfl) ?_)))))))
   refine nl (nN ?_)
   refine cdd (p := (idxB s c) < 0) rfl (fun h5 => ?_) (fun h5 => ?_)
   · refine ex (tE (bX rfl (tE (bE ?_))))
     refine nN (sq (rg (qt rfl (mv (v := .slice Ag9 ((splitB c l).length) cg9) rfl) (qt rfl (mv (v := I ((k : Nat) : Int)) rfl) (qt rfl (mv (v := Str s) rfl) ?_)))))
     obtain ⟨b2, rfl⟩ := own_form hs4 0 rfl (by (first | omega | (simp; done) | (simp; omega)))
     refine qt rfl (ixo k sl147 rfl rfl (by (first | omega | (simp; done) | (simp; omega)))) (stomn (g := Str) (ys := (splitB c l).take k ++ List.replicate ((splitB c l).length - k) ([] : List UInt8)) (o := k) (u := s) hs4 0 rfl rfl rfl rfl (by (first | omega | (simp; done) | (simp; omega))) rfl one9 trivial (fun w5 (hs5 : SH w w5 [] [.own (some ⟨b2, 0, none⟩) ((splitB c l).length) cg9 9 1 ((((splitB c l).take k ++ List.replicate ((splitB c l).length - k) ([] : List UInt8)).set k s).map Str)]) => ?_))
     refine nl (nN (sq (rg (qt rfl (mv (v := sb b2 ((splitB c l).length) cg9) rfl) (qt rfl (mv (v := I ((k : Nat) : Int)) rfl) (qt rfl (add (a := ((k : Nat) : Int)) (b := 1) rfl rfl (by (have hsl := splitB_len c l; have hcl := List.count_le_length (a := c) (l := l); exact ⟨by omega, by omega⟩))) ?_))))))
     have e3 : ((((splitB c l).take k ++ List.replicate ((splitB c l).length - k) ([] : List UInt8)).set k s).map Str).take ((k + 1) * 1) = ((((splitB c l).take k ++ List.replicate ((splitB c l).length - k) ([] : List UInt8)).set k s).take (k + 1)).map Str := by simp [List.map_take]
     have hs6 : SH w w5 [] [.own (some ⟨b2, 0, none⟩) (k + 1) cg9 9 1 (((((splitB c l).take k ++ List.replicate ((splitB c l).length - k) ([] : List UInt8)).set k s).take (k + 1)).map Str)] := e3 ▸ SH.trunc hs5 0 (k + 1) rfl (by (first | omega | (simp; omega)))
     refine qt rfl (cuh (k + 1) sl147 rfl rfl (Nat.le_trans (by (first | omega | (simp; omega))) (own_cap hs5 0 rfl).1)) (qt rfl (asg (v := sb b2 (k + 1) cg9) rfl) ?_)
     have e4 : k + 1 = ((((splitB c l).take k ++ List.replicate ((splitB c l).length - k) ([] : List UInt8)).set k s).take (k + 1)).length := by (first | rfl | (simp; done) | (simp; omega) | (simp at *; omega))
     have hs7 : SH w w5 [] [.own (some ⟨b2, 0, none⟩) (((((splitB c l).take k ++ List.replicate ((splitB c l).length - k) ([] : List UInt8)).set k s).take (k + 1)).length) cg9 9 1 (((((splitB c l).take k ++ List.replicate ((splitB c l).length - k) ([] : List UInt8)).set k s).take (k + 1)).map Str)] := (hs6.cast (lc (own_eq (g := Str) rfl e4 rfl rfl) rfl))
     refine re 8 (v := sb b2 (((((splitB c l).take k ++ List.replicate ((splitB c l).length - k) ([] : List UInt8)).set k s).take (k + 1)).length) cg9) (show (sb b2 (k + 1) cg9 : Value) = sb b2 (((((splitB c l).take k ++ List.replicate ((splitB c l).length - k) ([] : List UInt8)).set k s).take (k + 1)).length) cg9 from slv rfl e4 rfl) (nl (nN (rt (fret (v := sb b2 (((((splitB c l).take k ++ List.replicate ((splitB c l).length - k) ([] : List UInt8)).set k s).take (k + 1)).length) cg9) (.tmp .nil) rfl ?_))))
     have e5 : (((splitB c l).take k ++ List.replicate ((splitB c l).length - k) ([] : List UInt8)).set k s).take (k + 1) = splitB c l := by exact split_end (split_stop hs_ (by omega))
     have e6 : ((((splitB c l).take k ++ List.replicate ((splitB c l).length - k) ([] : List UInt8)).set k s).take (k + 1)).length = (splitB c l).length := by exact congrArg List.length e5
     exact ⟨(some ⟨b2, 0, none⟩), cg9, (slv rfl e6 rfl), (hs7.cast (lc (own_eq (g := Str) rfl e6 rfl e5) rfl))⟩
   · refine sk (nN (sq (rg (qt rfl (mv (v := .slice Ag9 ((splitB c l).length) cg9) rfl) (qt rfl (mv (v := I ((k : Nat) : Int)) rfl) (qt rfl (mv (v := Str s) rfl) (qt rfl (mv (v := I (idxB s c)) rfl) ?_)))))))
     refine qt rfl (mv (v := I 0) rfl) (qt rfl (add (a := idxB s c) (b := 0) rfl rfl (by (have hsl := splitB_len c l; have hcl := List.count_le_length (a := c) (l := l); have hib := idxB_lt s c; (try have e1 : [c].length = 1 := rfl); exact ⟨by omega, by omega⟩))) (qt rfl (cuhs (l := s) (((idxB s c) + 0).toNat) st9 rfl (ieq (x := (idxB s c) + 0) (by (omega))) (by (have hsl := splitB_len c l; have hcl := List.count_le_length (a := c) (l := l); have hib := idxB_lt s c; (try have e1 : [c].length = 1 := rfl); first | omega | (simp; omega)))) ?_))
     obtain ⟨b3, rfl⟩ := own_form hs4 0 rfl (by (first | omega | (simp; done) | (simp; omega)))
     refine qt rfl (ixo k sl147 rfl rfl (by (first | omega | (simp; done) | (simp; omega)))) (stomn (g := Str) (ys := (splitB c l).take k ++ List.replicate ((splitB c l).length - k) ([] : List UInt8)) (o := k) (u := s.take (((idxB s c) + 0).toNat)) hs4 0 rfl rfl rfl rfl (by (first | omega | (simp; done) | (simp; omega))) rfl one9 trivial (fun w6 (hs8 : SH w w6 [] [.own (some ⟨b3, 0, none⟩) ((splitB c l).length) cg9 9 1 ((((splitB c l).take k ++ List.replicate ((splitB c l).length - k) ([] : List UInt8)).set k (s.take (((idxB s c) + 0).toNat))).map Str)]) => ?_))
     refine nl (nN (sq (rg (qt rfl (mv (v := Str s) rfl) (qt rfl (mv (v := I (idxB s c)) rfl) (qt rfl (mv (v := Str [c]) rfl) (qt rfl (lnS (l := [c]) st9 rfl) ?_)))))))
     refine qt rfl (add (a := idxB s c) (b := (([c].length : Nat) : Int)) rfl rfl (by (have hsl := splitB_len c l; have hcl := List.count_le_length (a := c) (l := l); have hib := idxB_lt s c; (try have e1 : [c].length = 1 := rfl); exact ⟨by omega, by omega⟩))) (qt rfl (culs (l := s) (((idxB s c) + (([c].length : Nat) : Int)).toNat) st9 rfl (ieq (x := (idxB s c) + (([c].length : Nat) : Int)) (by (omega))) (by (have hsl := splitB_len c l; have hcl := List.count_le_length (a := c) (l := l); have hib := idxB_lt s c; (try have e1 : [c].length = 1 := rfl); first | omega | (simp; omega)))) (qt rfl (asg (v := Str (s.drop (((idxB s c) + (([c].length : Nat) : Int)).toNat))) rfl) (nl (nN (rg (qt rfl (mv (v := I ((k : Nat) : Int)) rfl) (qt rfl (add (a := ((k : Nat) : Int)) (b := 1) rfl rfl (by (have hsl := splitB_len c l; have hcl := List.count_le_length (a := c) (l := l); exact ⟨by omega, by omega⟩))) ?_)))))))
     refine qt rfl (asg (v := I (((k : Nat) : Int) + 1)) rfl) (nl (bN (nN ?_)))
     have e7 : ((splitB c l).take k ++ List.replicate ((splitB c l).length - k) ([] : List UInt8)).set k (s.take (((idxB s c) + 0).toNat)) = (splitB c l).take (k + 1) ++ List.replicate ((splitB c l).length - (k + 1)) ([] : List UInt8) := by exact split_set (split_take hs_ (by omega) (by omega))
     refine ⟨((some ⟨b3, 0, none⟩), cg9, k + 1, (s.drop (((idxB s c) + (([c].length : Nat) : Int)).toNat))), ⟨⟨rfl, rfl, rfl, rfl, rfl, rfl, trivial⟩, (by have h_ := splitB_len c l; omega), (split_next hs_ (by omega) (by simp; omega)), (by simp; omega), (hs8.cast (lc (own_eq (g := Str) rfl rfl rfl e7) rfl))⟩, ?_⟩
     show l.length + 1 - (k + 1) < l.length + 1 - k
     (have hcl := List.count_le_length (a := c) (l := l); omega)
 · refine ex (tE (tE (bE ?_)))
   refine nN (sq (rg (qt rfl (mv (v := .slice Ag9 ((splitB c l).length) cg9) rfl) (qt rfl (mv (v := I ((k : Nat) : Int)) rfl) (qt rfl (mv (v := Str s) rfl) ?_)))))
   obtain ⟨b4, rfl⟩ := own_form hs3 0 rfl (by (first | omega | (simp; done) | (simp; omega)))
   refine qt rfl (ixo k sl147 rfl rfl (by (first | omega | (simp; done) | (simp; omega)))) (stomn (g := Str) (ys := (splitB c l).take k ++ List.replicate ((splitB c l).length - k) ([] : List UInt8)) (o := k) (u := s) hs3 0 rfl rfl rfl rfl (by (first | omega | (simp; done) | (simp; omega))) rfl one9 trivial (fun w7 (hs9 : SH w w7 [] [.own (some ⟨b4, 0, none⟩) ((splitB c l).length) cg9 9 1 ((((splitB c l).take k ++ List.replicate ((splitB c l).length - k) ([] : List UInt8)).set k s).map Str)]) => ?_))
   refine nl (nN (sq (rg (qt rfl (mv (v := sb b4 ((splitB c l).length) cg9) rfl) (qt rfl (mv (v := I ((k : Nat) : Int)) rfl) (qt rfl (add (a := ((k : Nat) : Int)) (b := 1) rfl rfl (by (have hsl := splitB_len c l; have hcl := List.count_le_length (a := c) (l := l); exact ⟨by omega, by omega⟩))) ?_))))))
   have e8 : ((((splitB c l).take k ++ List.replicate ((splitB c l).length - k) ([] : List UInt8)).set k s).map Str).take ((k + 1) * 1) = ((((splitB c l).take k ++ List.replicate ((splitB c l).length - k) ([] : List UInt8)).set k s).take (k + 1)).map Str := by simp [List.map_take]
   have hs10 : SH w w7 [] [.own (some ⟨b4, 0, none⟩) (k + 1) cg9 9 1 (((((splitB c l).take k ++ List.replicate ((splitB c l).length - k) ([] : List UInt8)).set k s).take (k + 1)).map Str)] := e8 ▸ SH.trunc hs9 0 (k + 1) rfl (by (first | omega | (simp; omega)))
   refine qt rfl (cuh (k + 1) sl147 rfl rfl (Nat.le_trans (by (first | omega | (simp; omega))) (own_cap hs9 0 rfl).1)) (qt rfl (asg (v := sb b4 (k + 1) cg9) rfl) ?_)
   have e9 : k + 1 = ((((splitB c l).take k ++ List.replicate ((splitB c l).length - k) ([] : List UInt8)).set k s).take (k + 1)).length := by (first | rfl | (simp; done) | (simp; omega) | (simp at *; omega))
   have hs11 : SH w w7 [] [.own (some ⟨b4, 0, none⟩) (((((splitB c l).take k ++ List.replicate ((splitB c l).length - k) ([] : List UInt8)).set k s).take (k + 1)).length) cg9 9 1 (((((splitB c l).take k ++ List.replicate ((splitB c l).length - k) ([] : List UInt8)).set k s).take (k + 1)).map Str)] := (hs10.cast (lc (own_eq (g := Str) rfl e9 rfl rfl) rfl))
   refine re 8 (v := sb b4 (((((splitB c l).take k ++ List.replicate ((splitB c l).length - k) ([] : List UInt8)).set k s).take (k + 1)).length) cg9) (show (sb b4 (k + 1) cg9 : Value) = sb b4 (((((splitB c l).take k ++ List.replicate ((splitB c l).length - k) ([] : List UInt8)).set k s).take (k + 1)).length) cg9 from slv rfl e9 rfl) (nl (nN (rt (fret (v := sb b4 (((((splitB c l).take k ++ List.replicate ((splitB c l).length - k) ([] : List UInt8)).set k s).take (k + 1)).length) cg9) (.tmp .nil) rfl ?_))))
   have e10 : (((splitB c l).take k ++ List.replicate ((splitB c l).length - k) ([] : List UInt8)).set k s).take (k + 1) = splitB c l := by exact split_end (split_last hs_ hk (by omega))
   have e11 : ((((splitB c l).take k ++ List.replicate ((splitB c l).length - k) ([] : List UInt8)).set k s).take (k + 1)).length = (splitB c l).length := by exact congrArg List.length e10
   exact ⟨(some ⟨b4, 0, none⟩), cg9, (slv rfl e11 rfl), (hs11.cast (lc (own_eq (g := Str) rfl e11 rfl e10) rfl))⟩
theorem stSplit (l : List UInt8) (c : UInt8) (w : World) (hl_n : l.length ≤ 1099511627776) : Does Tryz.prog 154 [Str l, Str [c]] w (fun v w' => ∃ Ar : Option Addr, ∃ cr : Nat, v = .slice Ar (splitB c l).length cr ∧ SH w w' [] [.own Ar ((splitB c l).length) cr 9 1 ((splitB c l).map Str)]) := by
 refine fn_enter (N := 8) Tryz.func154 rfl (by kernel_rfl) rfl rfl rfl ?_
 have hs0 : SH w w [] [] := SH.refl w []
 refine sq (rg (qt rfl (asg (v := ns) rfl) (nl (nN (sq (rg (qt rfl (mv (v := Str l) rfl) ?_)))))))
 refine qt rfl (mv (v := Str [c]) rfl) (cl trivial rfl (genSplit (l := l) (c := c) (w := _) (hl_n := (by omega))) ?_)
 rintro _ w1 ⟨A1, c1, rfl, hs1'⟩
 have hs1 := hs0.call0 hs1'
 clear hs1'
 refine qt rfl (asg (v := .slice A1 ((splitB c l).length) c1) rfl) (nl (nN (rt (fret (v := .slice A1 ((splitB c l).length) c1) (.tmp .nil) rfl ?_))))
 exact ⟨A1, c1, rfl, hs1⟩
theorem l2Cut (l : List UInt8) (c : UInt8) (w : World) (hl_n : l.length ≤ 1099511627776) : Does Tryz.prog 141 [Str l, .int .u8 ((c.toNat : Nat) : Int)] w (fun v w' => ∃ Ar : Option Addr, ∃ cr : Nat, v = .slice Ar (splitB c l).length cr ∧ SH w w' [] [.own Ar ((splitB c l).length) cr 9 1 ((splitB c l).map Str)]) := by
 refine fn_enter (N := 35) Tryz.func141 rfl (by kernel_rfl) rfl rfl rfl ?_
 have hs0 : SH w w [] [] := SH.refl w []
 refine sq (rg (qt rfl (asg (v := ns) rfl) (nl (nN (sq (rg (bsk hs0 sl147 [] [] trivial rfl (fun b1 w1 (hs1 : SH w w1 [] [.own (some ⟨b1, 0, none⟩) (([] : List (List UInt8)).length) 0 9 1 (([] : List (List UInt8)).map Str)]) => ?_))))))))
 refine qt rfl (asg (v := sb b1 (([] : List (List UInt8)).length) 0) rfl) (nl (nN (sq (rg (qt rfl (asg (v := I 0) rfl) (nl (nN ?_)))))))
 refine sq (sq (rg (qt rfl (asg (v := I 0) rfl) (nl (nN (bl (lp (σ := (Option Addr) × Nat × Nat × Nat × (List (List UInt8))) (fun ⟨Ag5, cg5, i, a, zs⟩ f w' => Has f [(0, Str l), (1, .int .u8 ((c.toNat : Nat) : Int)), (5, .slice Ag5 zs.length cg5), (6, I ((a : Nat) : Int)), (7, I ((i : Nat) : Int))] ∧ (i ≤ l.length) ∧ (a ≤ i) ∧ (zs ++ splitB c (l.drop a) = splitB c l) ∧ (∀ j, a ≤ j → j < i → l.getD j 0 ≠ c) ∧ SH w w' [] [.own Ag5 zs.length cg5 9 1 (zs.map Str)]) (fun ⟨Ag5, cg5, i, a, zs⟩ => l.length - i) ((some ⟨b1, 0, none⟩), 0, 0, 0, ([] : List (List UInt8))) ⟨⟨rfl, rfl, rfl, rfl, rfl, trivial⟩, (by omega), (by omega), (by simp), (by intro j _ hj; omega), hs1⟩ ?_)))))))
 rintro ⟨Ag5, cg5, i, a, zs⟩ f w2 ⟨hf, hi, ha, hz, hn, hs2⟩
 obtain ⟨g1, rfl⟩ := has_upd hf
 clear hf
 refine sq (sq (rg (qt rfl (mv (v := I ((i : Nat) : Int)) rfl) (qt rfl (mv (v := Str l) rfl) (qt rfl (lnS (l := l) st9 rfl) (qt rfl (lss (k := .i64) (a := ((i : Nat) : Int)) (b := ((l.length : Nat) : Int)) rfl rfl) (nl ?_)))))))
 refine nN ?_
 refine cdd (p := ((i : Nat) : Int) < ((l.length : Nat) : Int)) rfl (fun h1 => ?_) (fun h1 => ?_)
 · refine sk (nN (sq (bl (sq (rg (qt rfl (mv (v := Str l) rfl) (qt rfl (mv (v := I ((i : Nat) : Int)) rfl) ?_)))))))
   refine qt rfl (ixs (l := l) i st9 rfl rfl (by (first | omega | (simp; done) | (simp; omega)))) (qt rfl (mv (v := .int .u8 ((c.toNat : Nat) : Int)) rfl) (qt rfl (eqi (k := .u8) (a := (((l.getD i 0).toNat : Nat) : Int)) (b := ((c.toNat : Nat) : Int)) rfl rfl) (nl (nN ?_))))
   refine cdd (p := (((l.getD i 0).toNat : Nat) : Int) = ((c.toNat : Nat) : Int)) rfl (fun h2 => ?_) (fun h2 => ?_)
   · refine sq (rg (qt rfl (mv (v := .slice Ag5 zs.length cg5) rfl) (qt rfl (mv (v := Str l) rfl) (qt rfl (mv (v := I ((a : Nat) : Int)) rfl) (qt rfl (mv (v := I ((i : Nat) : Int)) rfl) (qt rfl (cus (l := l) a i st9 rfl rfl rfl (by (first | omega | (simp; done) | (simp; omega))) (by (first | omega | (simp; done) | (simp; omega)))) (bsk hs2 sl147 [Str ((l.take i).drop a)] [Str ((l.take i).drop a)] trivial rfl (fun b2 w3 (hs3 : SH w w3 [] [.own Ag5 zs.length cg5 9 1 (zs.map Str), .own (some ⟨b2, 0, none⟩) (([(l.take i).drop a] : List (List UInt8)).length) 1 9 1 (([(l.take i).drop a] : List (List UInt8)).map Str)]) => ?_))))))))
     refine apm (g := Str) (ys := zs) (zs := ([(l.take i).drop a] : List (List UInt8))) hs3 0 rfl sl147 rfl rfl rfl (hs3.sl0 1 rfl) (fun _ => rfl) (by unfold maxLen; (have hzl := cut_len hz; first | omega | (simp; done) | (simp; omega))) (by (have hzl := cut_len hz; first | omega | (simp; done) | (simp; omega))) trivial rfl (fun A1 c1 w4 (hs4 : SH w w4 [] [.own (some ⟨b2, 0, none⟩) (([(l.take i).drop a] : List (List UInt8)).length) 1 9 1 (([(l.take i).drop a] : List (List UInt8)).map Str), .own A1 ((zs ++ ([(l.take i).drop a] : List (List UInt8))).length) c1 9 1 ((zs ++ ([(l.take i).drop a] : List (List UInt8))).map Str)]) => ?_)
     refine qt rfl (asg (v := .slice A1 ((zs ++ ([(l.take i).drop a] : List (List UInt8))).length) c1) rfl) (nl (nN (rg (qt rfl (mv (v := I ((i : Nat) : Int)) rfl) (qt rfl (add (a := ((i : Nat) : Int)) (b := 1) rfl rfl (by (exact ⟨by omega, by omega⟩))) (qt rfl (asg (v := I (((i : Nat) : Int) + 1)) rfl) (nl ?_)))))))
     refine bN (nN (rg (qt rfl (mv (v := I ((i : Nat) : Int)) rfl) (qt rfl (add (a := ((i : Nat) : Int)) (b := 1) rfl rfl (by (exact ⟨by omega, by omega⟩))) (qt rfl (asg (v := I (((i : Nat) : Int) + 1)) rfl) (nl (nN ?_)))))))
     refine ⟨(A1, c1, i + 1, i + 1, (zs ++ ([(l.take i).drop a] : List (List UInt8)))), ⟨⟨rfl, rfl, rfl, rfl, rfl, trivial⟩, (by omega), (by omega), (cut_step hz ha (by omega) hn (u8_eq (by omega))), (by intro j h_ hj; omega), (hs4.pick [1] rfl (by decide))⟩, ?_⟩
     show l.length - (i + 1) < l.length - i
     omega
   · refine sk (bN (nN (rg (qt rfl (mv (v := I ((i : Nat) : Int)) rfl) (qt rfl (add (a := ((i : Nat) : Int)) (b := 1) rfl rfl (by (exact ⟨by omega, by omega⟩))) (qt rfl (asg (v := I (((i : Nat) : Int) + 1)) rfl) (nl ?_)))))))
     refine nN ?_
     refine ⟨(Ag5, cg5, i + 1, a, zs), ⟨⟨rfl, rfl, rfl, rfl, rfl, trivial⟩, (by omega), (by omega), (hz), (by intro j h_ hj; rcases Nat.lt_succ_iff_lt_or_eq.1 hj with h | h; exact hn j h_ h; subst h; intro he; exact absurd (congrArg (fun z => ((UInt8.toNat z : Nat) : Int)) he) (by assumption)), hs2⟩, ?_⟩
     show l.length - (i + 1) < l.length - i
     omega
 · refine ex (tE (tE (bE ?_)))
   refine nN (sq (rg (qt rfl (mv (v := .slice Ag5 zs.length cg5) rfl) (qt rfl (mv (v := Str l) rfl) (qt rfl (mv (v := I ((a : Nat) : Int)) rfl) (qt rfl (culs (l := l) a st9 rfl rfl (by (first | omega | (simp; done) | (simp; omega)))) (bsk hs2 sl147 [Str (l.drop a)] [Str (l.drop a)] trivial rfl (fun b3 w5 (hs5 : SH w w5 [] [.own Ag5 zs.length cg5 9 1 (zs.map Str), .own (some ⟨b3, 0, none⟩) (([l.drop a] : List (List UInt8)).length) 1 9 1 (([l.drop a] : List (List UInt8)).map Str)]) => ?_))))))))
   refine apm (g := Str) (ys := zs) (zs := ([l.drop a] : List (List UInt8))) hs5 0 rfl sl147 rfl rfl rfl (hs5.sl0 1 rfl) (fun _ => rfl) (by unfold maxLen; (have hzl := cut_len hz; first | omega | (simp; done) | (simp; omega))) (by (have hzl := cut_len hz; first | omega | (simp; done) | (simp; omega))) trivial rfl (fun A2 c2 w6 (hs6 : SH w w6 [] [.own (some ⟨b3, 0, none⟩) (([l.drop a] : List (List UInt8)).length) 1 9 1 (([l.drop a] : List (List UInt8)).map Str), .own A2 ((zs ++ ([l.drop a] : List (List UInt8))).length) c2 9 1 ((zs ++ ([l.drop a] : List (List UInt8))).map Str)]) => ?_)
   refine qt rfl (asg (v := .slice A2 ((zs ++ ([l.drop a] : List (List UInt8))).length) c2) rfl) (nl (nN (rt (fret (v := .slice A2 ((zs ++ ([l.drop a] : List (List UInt8))).length) c2) (.tmp .nil) rfl ?_))))
   have e1 : zs ++ ([l.drop a] : List (List UInt8)) = splitB c l := by exact cut_end hz (by omega) hn
   have e2 : (zs ++ ([l.drop a] : List (List UInt8))).length = (splitB c l).length := by exact congrArg List.length e1
   exact ⟨A2, c2, (slv rfl e2 rfl), ((hs6.pick [1] rfl (by decide)).cast (lc (own_eq (g := Str) rfl e2 rfl e1) rfl))⟩
theorem iNameValid (l : List UInt8) (w : World) (hl_n : l.length ≤ 1099511627776) : Does Tryz.prog 123 [Str l] w (fun v w' => v = .bool (nameOk l) ∧ SH w w' [] []) := by
 refine fn_enter (N := 35) Tryz.func123 rfl (by kernel_rfl) rfl rfl rfl ?_
 have hs0 : SH w w [] [] := SH.refl w []
 refine sq (rg (qt rfl (asg (v := .bool false) rfl) (nl (nN (sq (rg (qt rfl (mv (v := Str l) rfl) ?_)))))))
 refine cl trivial rfl (stSplit (l := l) (c := 46) (w := _) (hl_n := (by (first | omega | (simp; done) | (simp; omega))))) ?_
 rintro _ w1 ⟨A1, c1, rfl, hs1'⟩
 have hs1 := hs0.call0 hs1'
 clear hs1'
 refine qt rfl (asg (v := .slice A1 ((splitB 46 l).length) c1) rfl) (nl (nN (sq (sq (rg (qt rfl (mv (v := .slice A1 ((splitB 46 l).length) c1) rfl) (qt rfl (lnA (n := (splitB 46 l).length) sl147 rfl) ?_)))))))
 refine qt rfl (mv (v := I 0) rfl) (nl (nN (bl (lp (σ := Nat) (fun (k : Nat) f w' => Has f [(0, Str l), (3, .slice A1 ((splitB 46 l).length) c1), (8, .slice A1 ((splitB 46 l).length) c1), (9, I (((splitB 46 l).length : Nat) : Int)), (10, I ((k : Nat) : Int))] ∧ (k ≤ (splitB 46 l).length) ∧ (((splitB 46 l).take k).all partOk = true) ∧ SH w w' [] [.own A1 ((splitB 46 l).length) c1 9 1 ((splitB 46 l).map Str)]) (fun k => (splitB 46 l).length - k) 0 ⟨⟨rfl, rfl, rfl, rfl, rfl, trivial⟩, (by simp), (by simp), hs1⟩ ?_))))
 rintro k f w2 ⟨hf, hk, ha, hs2⟩
 obtain ⟨g1, rfl⟩ := has_upd hf
 clear hf
 refine sq (rg (qt rfl (lss (k := .i64) (a := ((k : Nat) : Int)) (b := (((splitB 46 l).length : Nat) : Int)) rfl rfl) (nl (nN (sq ?_)))))
 refine cdd (p := ((k : Nat) : Int) < (((splitB 46 l).length : Nat) : Int)) rfl (fun h1 => ?_) (fun h1 => ?_)
 · refine sk (nN (sq (bl (sq (rg (ixw1 k sl147 rfl rfl (hs2.sl0 0 rfl) (by (first | omega | (simp; done) | (simp; omega))) (getm Str [] (by (first | omega | (simp; done) | (simp; omega)))) trivial rfl (fun a1 ha1 => ?_)))))))
   refine qt rfl (lda (v := Str ((splitB 46 l).getD k [])) (SH.refl w2 []) ha1 (fun _ h => h) rfl rfl one9) (qt rfl (asg (v := Str ((splitB 46 l).getD k [])) rfl) (nl (nN (sq (rg (qt rfl (mv (v := Str ((splitB 46 l).getD k [])) rfl) (qt rfl (eqs (l := (splitB 46 l).getD k []) (m := []) rfl rfl) ?_)))))))
   refine qt rfl (mv (v := .bool (decide ((splitB 46 l).getD k [] = []))) rfl) ?_
   refine spd (p := (splitB 46 l).getD k [] = []) 16 rfl (fun h2 => ?_) (fun h2 => ?_)
   · refine gk true rfl rfl rfl rfl rfl (gk true rfl rfl rfl rfl rfl (gk true rfl rfl rfl rfl rfl (qt rfl (pt (v := .bool true) rfl rfl) (nl (nN (cdt rfl (sq ?_)))))))
     refine rg (qt rfl (asg (v := .bool false) rfl) (nl (nN ?_)))
     refine rt (bR (tR (tR (bR (tR ?_)))))
     refine fret (v := .bool false) (.tmp .nil) rfl ?_
     have e1 : false = nameOk l := by (exact (name_bad (k := k) (by omega) (part_nil (by assumption))).symm)
     exact ⟨(congrArg (Value.bool) e1), (hs2.pick [] rfl (by decide))⟩
   · refine q ⟨_, rfl, rfl⟩ rfl rfl (mv (v := Str ((splitB 46 l).getD k [])) rfl) (cl ⟨_, rfl, rfl⟩ rfl (iConsists (l := (splitB 46 l).getD k []) (m := [45]) (w := _) (hl_n := (by (have hsb := splitB_getD 46 l k; have hsl := splitB_len 46 l; have hcl := List.count_le_length (a := (46 : UInt8)) (l := l); first | omega | (simp; done) | (simp; omega))))) ?_)
     rintro _ w3 ⟨rfl, hs3'⟩
     have hs3 := hs2.call0 hs3'
     clear hs3'
     refine q ⟨_, rfl, rfl⟩ rfl rfl (nt (b := ((splitB 46 l).getD k []).all (okC [45])) rfl) (qt rfl (pf (v := .bool (!(((splitB 46 l).getD k []).all (okC [45])))) rfl rfl) (nl (nN ?_)))
     refine cd (b := !(((splitB 46 l).getD k []).all (okC [45]))) rfl (fun h3 => ?_) (fun h3 => ?_)
     · have h4 : (((splitB 46 l).getD k []).all (okC [45])) = false := by simpa using h3
       refine sq (rg (qt rfl (asg (v := .bool false) rfl) (nl (nN ?_))))
       refine rt (bR (tR (tR (bR (tR ?_)))))
       refine fret (v := .bool false) (.tmp .nil) rfl ?_
       have e2 : false = nameOk l := by (exact (name_bad (k := k) (by omega) (part_bad (by assumption))).symm)
       exact ⟨(congrArg (Value.bool) e2), (hs3.pick [] rfl (by decide))⟩
     · have h5 : (((splitB 46 l).getD k []).all (okC [45])) = true := by simpa using h3
       refine sk (bN (nN (rg (qt rfl (add (a := ((k : Nat) : Int)) (b := 1) rfl rfl (by (have hsb := splitB_getD 46 l k; have hsl := splitB_len 46 l; have hcl := List.count_le_length (a := (46 : UInt8)) (l := l); exact ⟨by omega, by omega⟩))) (qt rfl (mv (v := I (((k : Nat) : Int) + 1)) rfl) (nl (nN ?_)))))))
       refine ⟨(k + 1), ⟨⟨rfl, rfl, rfl, rfl, rfl, trivial⟩, (by omega), (all_step (d := []) (by omega) ha (part_mk (by assumption) (by assumption))), hs3⟩, ?_⟩
       omega
 · refine ex (tE (tE (bE ?_)))
   refine nN (sq (rg (qt rfl (mv (v := Str l) rfl) (qt rfl (lnS (l := l) st9 rfl) (qt rfl (leq (k := .i64) (a := ((l.length : Nat) : Int)) (b := 20) rfl rfl) (qt rfl (mv (v := .bool (decide (((l.length : Nat) : Int) ≤ 20))) rfl) ?_))))))
   refine spd (p := ((l.length : Nat) : Int) ≤ 20) 25 rfl (fun h6 => ?_) (fun h6 => ?_)
   · refine q ⟨_, rfl, rfl⟩ rfl rfl (mv (v := .slice A1 ((splitB 46 l).length) c1) rfl) (q ⟨_, rfl, rfl⟩ rfl rfl (mv (v := .slice A1 ((splitB 46 l).length) c1) rfl) (q ⟨_, rfl, rfl⟩ rfl rfl (lnA (n := (splitB 46 l).length) sl147 rfl) (q ⟨_, rfl, rfl⟩ rfl rfl (subN (a := (splitB 46 l).length) (b := 1) rfl rfl (by have hsb := splitB_getD 46 l k; have hsl := splitB_len 46 l; have hcl := List.count_le_length (a := (46 : UInt8)) (l := l); have := splitB_pos 46 l; omega) (by have hsb := splitB_getD 46 l k; have hsl := splitB_len 46 l; have hcl := List.count_le_length (a := (46 : UInt8)) (l := l); have := splitB_pos 46 l; omega)) (ixw1 (((splitB 46 l).length) - 1) sl147 rfl rfl (hs2.sl0 0 rfl) (by (have hsb := splitB_getD 46 l k; have hsl := splitB_len 46 l; have hcl := List.count_le_length (a := (46 : UInt8)) (l := l); first | omega | (simp; done) | (simp; omega))) (getm Str [] (by (have hsb := splitB_getD 46 l k; have hsl := splitB_len 46 l; have hcl := List.count_le_length (a := (46 : UInt8)) (l := l); first | omega | (simp; done) | (simp; omega)))) ⟨_, rfl, rfl⟩ rfl (fun a2 ha2 => ?_)))))
     refine q ⟨_, rfl, rfl⟩ rfl rfl (lda (v := Str ((splitB 46 l).getD (((splitB 46 l).length) - 1) [])) (SH.refl w2 []) ha2 (fun _ h => h) rfl rfl one9) (q ⟨_, rfl, rfl⟩ rfl rfl (ixs (l := (splitB 46 l).getD (((splitB 46 l).length) - 1) []) 0 st9 rfl rfl (by exact name_last (by omega) ha (by have := splitB_pos 46 l; omega))) (cl ⟨_, rfl, rfl⟩ rfl (iLetter (c := (((splitB 46 l).getD (((splitB 46 l).length) - 1) []).getD 0 0)) (w := _)) ?_))
     rintro _ w4 ⟨rfl, hs4'⟩
     have hs4 := hs2.call0 hs4'
     clear hs4'
     refine qt rfl (pt (v := .bool (decide (97 ≤ (((((splitB 46 l).getD (((splitB 46 l).length) - 1) []).getD 0 0).toNat : Nat) : Int) ∧ (((((splitB 46 l).getD (((splitB 46 l).length) - 1) []).getD 0 0).toNat : Nat) : Int) ≤ 122))) rfl rfl) (qt rfl (asg (v := .bool (decide (97 ≤ (((((splitB 46 l).getD (((splitB 46 l).length) - 1) []).getD 0 0).toNat : Nat) : Int) ∧ (((((splitB 46 l).getD (((splitB 46 l).length) - 1) []).getD 0 0).toNat : Nat) : Int) ≤ 122))) rfl) (nl (nN (rt (fret (v := .bool (decide (97 ≤ (((((splitB 46 l).getD (((splitB 46 l).length) - 1) []).getD 0 0).toNat : Nat) : Int) ∧ (((((splitB 46 l).getD (((splitB 46 l).length) - 1) []).getD 0 0).toNat : Nat) : Int) ≤ 122))) (.tmp .nil) rfl ?_)))))
     have e3 : (decide (97 ≤ (((((splitB 46 l).getD (((splitB 46 l).length) - 1) []).getD 0 0).toNat : Nat) : Int) ∧ (((((splitB 46 l).getD (((splitB 46 l).length) - 1) []).getD 0 0).toNat : Nat) : Int) ≤ 122)) = nameOk l := by (exact (name_end2 (by omega) ha (by omega)).symm)
     exact ⟨(congrArg (Value.bool) e3), (hs4.pick [] rfl (by decide))⟩
   · refine gk false rfl rfl rfl rfl rfl (gk false rfl rfl rfl rfl rfl (gk false rfl rfl rfl rfl rfl (gk false rfl rfl rfl rfl rfl (gk false rfl rfl rfl rfl rfl (gk false rfl rfl rfl rfl rfl (gk false rfl rfl rfl rfl rfl (gk false rfl rfl rfl rfl rfl ?_)))))))
     refine qt rfl (pf (v := .bool false) rfl rfl) (qt rfl (asg (v := .bool false) rfl) (nl (nN (rt (fret (v := .bool false) (.tmp .nil) rfl ?_)))))
     have e4 : false = nameOk l := by (exact (name_end1 (by omega) ha (by omega)).symm)
     exact ⟨(congrArg (Value.bool) e4), (hs2.pick [] rfl (by decide))⟩
theorem sNameValid (l : List UInt8) (w : World) (hl_n : l.length ≤ 1099511627776) : Does Tryz.prog 163 [Str l] w (fun v w' => v = .bool (nameOk l) ∧ SH w w' [] []) := by
 refine fn_enter (N := 53) Tryz.func163 rfl (by kernel_rfl) rfl rfl rfl ?_
 have hs0 : SH w w [] [] := SH.refl w []
 refine sq (rg (qt rfl (asg (v := .bool false) rfl) (nl (nN (sq (rg (qt rfl (mv (v := Str l) rfl) ?_)))))))
 refine cl trivial rfl (l2Cut (l := l) (c := (46 : UInt8)) (w := _) (hl_n := (by (first | omega | (simp; done) | (simp; omega))))) ?_
 rintro _ w1 ⟨A1, c1, rfl, hs1'⟩
 have hs1 := hs0.call0 hs1'
 clear hs1'
 refine qt rfl (asg (v := .slice A1 ((splitB (46 : UInt8) l).length) c1) rfl) (nl (nN (sq (sq (rg (qt rfl (asg (v := I 0) rfl) (nl ?_)))))))
 refine nN (bl (lp (σ := Nat) (fun (k : Nat) f w' => Has f [(0, Str l), (3, .slice A1 ((splitB (46 : UInt8) l).length) c1), (4, I ((k : Nat) : Int))] ∧ (k ≤ (splitB 46 l).length) ∧ (((splitB 46 l).take k).all partOk = true) ∧ SH w w' [] [.own A1 ((splitB (46 : UInt8) l).length) c1 9 1 ((splitB (46 : UInt8) l).map Str)]) (fun k => (splitB 46 l).length - k) 0 ⟨⟨rfl, rfl, rfl, trivial⟩, (by simp), (by simp), hs1⟩ ?_))
 rintro k f w2 ⟨hf, hk, ha, hs2⟩
 obtain ⟨g1, rfl⟩ := has_upd hf
 clear hf
 refine sq (sq (rg (qt rfl (mv (v := I ((k : Nat) : Int)) rfl) (qt rfl (mv (v := .slice A1 ((splitB (46 : UInt8) l).length) c1) rfl) (qt rfl (lnA (n := (splitB (46 : UInt8) l).length) sl147 rfl) (qt rfl (lss (k := .i64) (a := ((k : Nat) : Int)) (b := (((splitB (46 : UInt8) l).length : Nat) : Int)) rfl rfl) (nl ?_)))))))
 refine nN ?_
 refine cdd (p := ((k : Nat) : Int) < (((splitB (46 : UInt8) l).length : Nat) : Int)) rfl (fun h1 => ?_) (fun h1 => ?_)
 · refine sk (nN (sq (bl (sq (rg (qt rfl (mv (v := .slice A1 ((splitB (46 : UInt8) l).length) c1) rfl) (qt rfl (mv (v := I ((k : Nat) : Int)) rfl) ?_)))))))
   refine ixw1 k sl147 rfl rfl (hs2.sl0 0 rfl) (by (first | omega | (simp; done) | (simp; omega))) (getm Str [] (by (first | omega | (simp; done) | (simp; omega)))) trivial rfl (fun a1 ha1 => ?_)
   refine qt rfl (lda (v := Str ((splitB (46 : UInt8) l).getD k [])) (SH.refl w2 []) ha1 (fun _ h => h) rfl rfl one9) (qt rfl (asg (v := Str ((splitB (46 : UInt8) l).getD k [])) rfl) (nl (nN (sq (sq (rg (qt rfl (mv (v := Str ((splitB (46 : UInt8) l).getD k [])) rfl) ?_)))))))
   refine qt rfl (lnS (l := (splitB (46 : UInt8) l).getD k []) st9 rfl) (qt rfl (eqi (k := .i64) (a := ((((splitB (46 : UInt8) l).getD k []).length : Nat) : Int)) (b := 0) rfl rfl) (nl (nN ?_)))
   refine cdd (p := ((((splitB (46 : UInt8) l).getD k []).length : Nat) : Int) = 0) rfl (fun h2 => ?_) (fun h2 => ?_)
   · refine sq (rg (qt rfl (asg (v := .bool false) rfl) (nl (nN ?_))))
     refine rt (tR (bR (tR (tR (bR (tR ?_))))))
     refine fret (v := .bool false) (.tmp .nil) rfl ?_
     have e1 : false = nameOk l := by (exact (name_bad (k := k) (by omega) (part_len0 (by omega))).symm)
     exact ⟨(congrArg (Value.bool) e1), (hs2.pick [] rfl (by decide))⟩
   · refine sk (nN (sq (rg (qt rfl (asg (v := I 0) rfl) (nl (nN (bl ?_)))))))
     refine lp (σ := Nat) (fun (j : Nat) f w' => Has f [(0, Str l), (3, .slice A1 ((splitB (46 : UInt8) l).length) c1), (4, I ((k : Nat) : Int)), (5, Str ((splitB (46 : UInt8) l).getD k [])), (6, I ((j : Nat) : Int))] ∧ (j ≤ ((splitB 46 l).getD k []).length) ∧ ((((splitB 46 l).getD k []).take j).all letC = true) ∧ SH w w' [] [.own A1 ((splitB (46 : UInt8) l).length) c1 9 1 ((splitB (46 : UInt8) l).map Str)]) (fun j => ((splitB 46 l).getD k []).length - j) 0 ⟨⟨rfl, rfl, rfl, rfl, rfl, trivial⟩, (by simp), (by simp), hs2⟩ ?_
     rintro j f w3 ⟨hf, hj, hb, hs3⟩
     obtain ⟨g2, rfl⟩ := has_upd hf
     clear hf
     refine sq (sq (rg (qt rfl (mv (v := I ((j : Nat) : Int)) rfl) (qt rfl (mv (v := Str ((splitB (46 : UInt8) l).getD k [])) rfl) (qt rfl (lnS (l := (splitB (46 : UInt8) l).getD k []) st9 rfl) (qt rfl (lss (k := .i64) (a := ((j : Nat) : Int)) (b := ((((splitB (46 : UInt8) l).getD k []).length : Nat) : Int)) rfl rfl) (nl ?_)))))))
     refine nN ?_
     refine cdd (p := ((j : Nat) : Int) < ((((splitB (46 : UInt8) l).getD k []).length : Nat) : Int)) rfl (fun h3 => ?_) (fun h3 => ?_)
     · refine sk (nN (sq (bl (sq (rg (qt rfl (mv (v := Str ((splitB (46 : UInt8) l).getD k [])) rfl) (qt rfl (mv (v := I ((j : Nat) : Int)) rfl) ?_)))))))
       refine qt rfl (ixs (l := (splitB (46 : UInt8) l).getD k []) j st9 rfl rfl (by omega)) (cl trivial rfl (sLetter (c := (((splitB (46 : UInt8) l).getD k []).getD j 0)) (w := _)) ?_)
       rintro _ w4 ⟨rfl, hs4'⟩
       have hs4 := hs3.call0 hs4'
       clear hs4'
       refine qt rfl (nt (b := letC (((splitB (46 : UInt8) l).getD k []).getD j 0)) rfl) (nl (nN ?_))
       refine cd (b := !(letC (((splitB (46 : UInt8) l).getD k []).getD j 0))) rfl (fun h4 => ?_) (fun h4 => ?_)
       · have h5 : (letC (((splitB (46 : UInt8) l).getD k []).getD j 0)) = false := by simpa using h4
         refine sq (rg (qt rfl (asg (v := .bool false) rfl) (nl (nN ?_))))
         refine rt (bR (tR (tR (bR (bR (tR (tR (bR (tR ?_)))))))))
         refine fret (v := .bool false) (.tmp .nil) rfl ?_
         have e2 : false = nameOk l := by (exact (name_bad (k := k) (by omega) (part_bad1 (j := j) (by omega) (by assumption))).symm)
         exact ⟨(congrArg (Value.bool) e2), (hs4.pick [] rfl (by decide))⟩
       · have h6 : (letC (((splitB (46 : UInt8) l).getD k []).getD j 0)) = true := by simpa using h4
         refine sk (bN (nN (rg (qt rfl (mv (v := I ((j : Nat) : Int)) rfl) (qt rfl (add (a := ((j : Nat) : Int)) (b := 1) rfl rfl (by (have hsb := splitB_getD 46 l k; have hsl := splitB_len 46 l; have hcl := List.count_le_length (a := (46 : UInt8)) (l := l); exact ⟨by omega, by omega⟩))) (qt rfl (asg (v := I (((j : Nat) : Int) + 1)) rfl) (nl ?_)))))))
         refine nN ?_
         refine ⟨(j + 1), ⟨⟨rfl, rfl, rfl, rfl, rfl, trivial⟩, (by omega), (all_step (d := 0) (by omega) hb (by assumption)), hs4⟩, ?_⟩
         omega
     · refine ex (tE (tE (bE ?_)))
       refine bN (nN (rg (qt rfl (mv (v := I ((k : Nat) : Int)) rfl) (qt rfl (add (a := ((k : Nat) : Int)) (b := 1) rfl rfl (by (have hsb := splitB_getD 46 l k; have hsl := splitB_len 46 l; have hcl := List.count_le_length (a := (46 : UInt8)) (l := l); exact ⟨by omega, by omega⟩))) (qt rfl (asg (v := I (((k : Nat) : Int) + 1)) rfl) (nl (nN ?_)))))))
       refine ⟨(k + 1), ⟨⟨rfl, rfl, rfl, trivial⟩, (by omega), (all_step (d := []) (by omega) ha (part_mk1 (j := j) (by omega) (by omega) hb)), hs3⟩, ?_⟩
       omega
 · refine ex (tE (tE (bE ?_)))
   refine nN (sq (rg (qt rfl (mv (v := .slice A1 ((splitB (46 : UInt8) l).length) c1) rfl) (qt rfl (mv (v := .slice A1 ((splitB (46 : UInt8) l).length) c1) rfl) (qt rfl (lnA (n := (splitB (46 : UInt8) l).length) sl147 rfl) (qt rfl (subN (a := (splitB (46 : UInt8) l).length) (b := 1) rfl rfl (by have hsb := splitB_getD 46 l k; have hsl := splitB_len 46 l; have hcl := List.count_le_length (a := (46 : UInt8)) (l := l); have := splitB_pos 46 l; omega) (by have hsb := splitB_getD 46 l k; have hsl := splitB_len 46 l; have hcl := List.count_le_length (a := (46 : UInt8)) (l := l); have := splitB_pos 46 l; omega)) (ixw1 (((splitB (46 : UInt8) l).length) - 1) sl147 rfl rfl (hs2.sl0 0 rfl) (by (have hsb := splitB_getD 46 l k; have hsl := splitB_len 46 l; have hcl := List.count_le_length (a := (46 : UInt8)) (l := l); first | omega | (simp; done) | (simp; omega))) (getm Str [] (by (have hsb := splitB_getD 46 l k; have hsl := splitB_len 46 l; have hcl := List.count_le_length (a := (46 : UInt8)) (l := l); first | omega | (simp; done) | (simp; omega)))) trivial rfl (fun a2 ha2 => ?_))))))))
   refine qt rfl (lda (v := Str ((splitB (46 : UInt8) l).getD (((splitB (46 : UInt8) l).length) - 1) [])) (SH.refl w2 []) ha2 (fun _ h => h) rfl rfl one9) (qt rfl (asg (v := Str ((splitB (46 : UInt8) l).getD (((splitB (46 : UInt8) l).length) - 1) [])) rfl) (nl (nN (sq (rg (qt rfl (mv (v := Str l) rfl) (qt rfl (lnS (l := l) st9 rfl) ?_)))))))
   refine qt rfl (leq (k := .i64) (a := ((l.length : Nat) : Int)) (b := 20) rfl rfl) (qt rfl (mv (v := .bool (decide (((l.length : Nat) : Int) ≤ 20))) rfl) ?_)
   refine spd (p := ((l.length : Nat) : Int) ≤ 20) 43 rfl (fun h7 => ?_) (fun h7 => ?_)
   · refine q ⟨_, rfl, rfl⟩ rfl rfl (mv (v := Str ((splitB (46 : UInt8) l).getD (((splitB (46 : UInt8) l).length) - 1) [])) rfl) (q ⟨_, rfl, rfl⟩ rfl rfl (ixs (l := (splitB (46 : UInt8) l).getD (((splitB (46 : UInt8) l).length) - 1) []) 0 st9 rfl rfl (by exact name_last (by omega) ha (by have := splitB_pos 46 l; omega))) (q ⟨_, rfl, rfl⟩ rfl rfl (geq (k := .u8) (a := (((((splitB (46 : UInt8) l).getD (((splitB (46 : UInt8) l).length) - 1) []).getD 0 0).toNat : Nat) : Int)) (b := 97) rfl rfl) (qt rfl (pt (v := .bool (decide ((97 : Int) ≤ (((((splitB (46 : UInt8) l).getD (((splitB (46 : UInt8) l).length) - 1) []).getD 0 0).toNat : Nat) : Int)))) rfl rfl) (qt rfl (mv (v := .bool (decide ((97 : Int) ≤ (((((splitB (46 : UInt8) l).getD (((splitB (46 : UInt8) l).length) - 1) []).getD 0 0).toNat : Nat) : Int)))) rfl) ?_))))
     refine spd (p := (97 : Int) ≤ (((((splitB (46 : UInt8) l).getD (((splitB (46 : UInt8) l).length) - 1) []).getD 0 0).toNat : Nat) : Int)) 48 rfl (fun h8 => ?_) (fun h8 => ?_)
     · refine q ⟨_, rfl, rfl⟩ rfl rfl (mv (v := Str ((splitB (46 : UInt8) l).getD (((splitB (46 : UInt8) l).length) - 1) [])) rfl) (q ⟨_, rfl, rfl⟩ rfl rfl (ixs (l := (splitB (46 : UInt8) l).getD (((splitB (46 : UInt8) l).length) - 1) []) 0 st9 rfl rfl (by exact name_last (by omega) ha (by have := splitB_pos 46 l; omega))) (q ⟨_, rfl, rfl⟩ rfl rfl (leq (k := .u8) (a := (((((splitB (46 : UInt8) l).getD (((splitB (46 : UInt8) l).length) - 1) []).getD 0 0).toNat : Nat) : Int)) (b := 122) rfl rfl) (qt rfl (pt (v := .bool (decide ((((((splitB (46 : UInt8) l).getD (((splitB (46 : UInt8) l).length) - 1) []).getD 0 0).toNat : Nat) : Int) ≤ 122))) rfl rfl) (qt rfl (asg (v := .bool (decide ((((((splitB (46 : UInt8) l).getD (((splitB (46 : UInt8) l).length) - 1) []).getD 0 0).toNat : Nat) : Int) ≤ 122))) rfl) (nl (nN (rt ?_)))))))
       refine fret (v := .bool (decide ((((((splitB (46 : UInt8) l).getD (((splitB (46 : UInt8) l).length) - 1) []).getD 0 0).toNat : Nat) : Int) ≤ 122))) (.tmp .nil) rfl ?_
       have e3 : (decide ((((((splitB (46 : UInt8) l).getD (((splitB (46 : UInt8) l).length) - 1) []).getD 0 0).toNat : Nat) : Int) ≤ 122)) = nameOk l := by exact name_end3 (by omega) ha (by omega) (by assumption)
       exact ⟨(congrArg (Value.bool) e3), (hs2.pick [] rfl (by decide))⟩
     · refine gk false rfl rfl rfl rfl rfl (gk false rfl rfl rfl rfl rfl (gk false rfl rfl rfl rfl rfl (qt rfl (pf (v := .bool false) rfl rfl) (qt rfl (asg (v := .bool false) rfl) (nl (nN (rt ?_)))))))
       refine fret (v := .bool false) (.tmp .nil) rfl ?_
       have e4 : false = nameOk l := by exact name_end4 (by omega) ha (by omega) (by assumption)
       exact ⟨(congrArg (Value.bool) e4), (hs2.pick [] rfl (by decide))⟩
   · refine gk false rfl rfl rfl rfl rfl (gk false rfl rfl rfl rfl rfl (gk false rfl rfl rfl rfl rfl (qt rfl (pf (v := .bool false) rfl rfl) (qt rfl (mv (v := .bool false) rfl) (gk false rfl rfl rfl rfl rfl (gk false rfl rfl rfl rfl rfl (gk false rfl rfl rfl rfl rfl ?_)))))))
     refine qt rfl (pf (v := .bool false) rfl rfl) (qt rfl (asg (v := .bool false) rfl) (nl (nN (rt (fret (v := .bool false) (.tmp .nil) rfl ?_)))))
     have e5 : false = nameOk l := by (exact (name_end1 (by omega) ha (by omega)).symm)
     exact ⟨(congrArg (Value.bool) e5), (hs2.pick [] rfl (by decide))⟩
theorem iQuadValid {Aqs : Option Addr} {cqs : Nat} (qs : List Int) (w : World) (hqs : Sl w [] 1 Aqs qs.length cqs (qs.map I)) : Does Tryz.prog 121 [.slice Aqs qs.length cqs] w (fun v w' => v = .bool (quadOk qs) ∧ SH w w' [] []) := by
 refine fn_enter (N := 10) Tryz.func121 rfl (by kernel_rfl) rfl rfl rfl ?_
 have hs0 : SH w w [] [] := SH.refl w []
 have hqs_m : qs.length ≤ 9223372036854775807 := Nat.le_trans hqs.cap hqs.capMax
 refine sq (rg (qt rfl (asg (v := .bool false) rfl) (nl (nN (sq (rg (qt rfl (mv (v := .slice Aqs qs.length cqs) rfl) ?_)))))))
 refine qt rfl (lnA (n := qs.length) sl22 rfl) (qt rfl (eqi (k := .i64) (a := ((qs.length : Nat) : Int)) (b := 4) rfl rfl) (qt rfl (mv (v := .bool (decide (((qs.length : Nat) : Int) = 4))) rfl) ?_))
 refine spd (p := ((qs.length : Nat) : Int) = 4) 6 rfl (fun h1 => ?_) (fun h1 => ?_)
 · refine q ⟨_, rfl, rfl⟩ rfl rfl (mv (v := .slice Aqs qs.length cqs) rfl) (cl ⟨_, rfl, rfl⟩ rfl (iBytesValid (Azs := Aqs) (czs := cqs) (zs := qs) (w := _) (hzs := (hqs.up0 hs0))) ?_)
   rintro _ w1 ⟨rfl, hs1'⟩
   have hs1 := hs0.call0 hs1'
   clear hs1'
   refine qt rfl (pt (v := .bool (isBytes qs)) rfl rfl) (qt rfl (asg (v := .bool (isBytes qs)) rfl) (nl (nN (rt (fret (v := .bool (isBytes qs)) (.tmp .nil) rfl ?_)))))
   have e1 : (isBytes qs) = quadOk qs := by simp [quadOk, h1] <;> omega
   exact ⟨(congrArg (Value.bool) e1), hs1⟩
 · refine gk false rfl rfl rfl rfl rfl (gk false rfl rfl rfl rfl rfl (qt rfl (pf (v := .bool false) rfl rfl) (qt rfl (asg (v := .bool false) rfl) (nl (nN (rt (fret (v := .bool false) (.tmp .nil) rfl ?_)))))))
   have e2 : false = quadOk qs := by simp [quadOk, h1] <;> omega
   exact ⟨(congrArg (Value.bool) e2), hs0⟩
theorem sQuadValid {Aqs : Option Addr} {cqs : Nat} (qs : List Int) (w : World) (hqs : Sl w [] 1 Aqs qs.length cqs (qs.map I)) : Does Tryz.prog 162 [.slice Aqs qs.length cqs] w (fun v w' => v = .bool (quadOk qs) ∧ SH w w' [] []) := by
 refine fn_enter (N := 10) Tryz.func162 rfl (by kernel_rfl) rfl rfl rfl ?_
 have hs0 : SH w w [] [] := SH.refl w []
 have hqs_m : qs.length ≤ 9223372036854775807 := Nat.le_trans hqs.cap hqs.capMax
 refine sq (rg (qt rfl (asg (v := .bool false) rfl) (nl (nN (sq (rg (qt rfl (mv (v := .slice Aqs qs.length cqs) rfl) ?_)))))))
 refine cl trivial rfl (sBytesValid (Azs := Aqs) (czs := cqs) (zs := qs) (w := _) (hzs := (hqs.up0 hs0))) ?_
 rintro _ w1 ⟨rfl, hs1'⟩
 have hs1 := hs0.call0 hs1'
 clear hs1'
 refine qt rfl (mv (v := .bool (isBytes qs)) rfl) ?_
 refine spl (b := isBytes qs) 5 rfl (fun h1 => ?_) (fun h1 => ?_)
 · refine q ⟨_, rfl, rfl⟩ rfl rfl (mv (v := .slice Aqs qs.length cqs) rfl) (q ⟨_, rfl, rfl⟩ rfl rfl (lnA (n := qs.length) sl22 rfl) (q ⟨_, rfl, rfl⟩ rfl rfl (eqi (k := .i64) (a := ((qs.length : Nat) : Int)) (b := 4) rfl rfl) (qt rfl (pt (v := .bool (decide (((qs.length : Nat) : Int) = 4))) rfl rfl) (qt rfl (asg (v := .bool (decide (((qs.length : Nat) : Int) = 4))) rfl) (nl (nN (rt ?_)))))))
   refine fret (v := .bool (decide (((qs.length : Nat) : Int) = 4))) (.tmp .nil) rfl ?_
   have e1 : (decide (((qs.length : Nat) : Int) = 4)) = quadOk qs := by simp [quadOk, h1] <;> omega
   exact ⟨(congrArg (Value.bool) e1), hs1⟩
 · refine gk false rfl rfl rfl rfl rfl (gk false rfl rfl rfl rfl rfl (gk false rfl rfl rfl rfl rfl (qt rfl (pf (v := .bool false) rfl rfl) (qt rfl (asg (v := .bool false) rfl) (nl (nN (rt ?_)))))))
   refine fret (v := .bool false) (.tmp .nil) rfl ?_
   have e2 : false = quadOk qs := by simp [quadOk, h1] <;> omega
   exact ⟨(congrArg (Value.bool) e2), hs1⟩
theorem iUserValid (s : List UInt8) (w : World) (hs_n : s.length ≤ 9223372036854775807) : Does Tryz.prog 135 [Str s] w (fun v w' => v = .bool (userOk s) ∧ SH w w' [] []) := by
 refine fn_enter (N := 10) Tryz.func135 rfl (by kernel_rfl) rfl rfl rfl ?_
 have hs0 : SH w w [] [] := SH.refl w []
 refine sq (rg (qt rfl (asg (v := .bool false) rfl) (nl (nN (sq (rg (qt rfl (mv (v := Str s) rfl) ?_)))))))
 refine qt rfl (lnS (l := s) st9 rfl) (qt rfl (leq (k := .i64) (a := ((s.length : Nat) : Int)) (b := 8) rfl rfl) (qt rfl (mv (v := .bool (decide (((s.length : Nat) : Int) ≤ 8))) rfl) ?_))
 refine spd (p := ((s.length : Nat) : Int) ≤ 8) 6 rfl (fun h1 => ?_) (fun h1 => ?_)
 · refine q ⟨_, rfl, rfl⟩ rfl rfl (mv (v := Str s) rfl) (cl ⟨_, rfl, rfl⟩ rfl (iConsists (l := s) (m := []) (w := _) (hl_n := (by omega))) ?_)
   rintro _ w1 ⟨rfl, hs1'⟩
   have hs1 := hs0.call0 hs1'
   clear hs1'
   refine qt rfl (pt (v := .bool (s.all (okC []))) rfl rfl) (qt rfl (asg (v := .bool (s.all (okC []))) rfl) (nl (nN (rt (fret (v := .bool (s.all (okC []))) (.tmp .nil) rfl ?_)))))
   have e1 : (s.all (okC [])) = userOk s := by simp [userOk, h1] <;> omega
   exact ⟨(congrArg (Value.bool) e1), hs1⟩
 · refine gk false rfl rfl rfl rfl rfl (gk false rfl rfl rfl rfl rfl (qt rfl (pf (v := .bool false) rfl rfl) (qt rfl (asg (v := .bool false) rfl) (nl (nN (rt (fret (v := .bool false) (.tmp .nil) rfl ?_)))))))
   have e2 : false = userOk s := by simp [userOk, h1] <;> omega
   exact ⟨(congrArg (Value.bool) e2), hs0⟩
theorem sUserValid (s : List UInt8) (w : World) (hs_n : s.length ≤ 9223372036854775807) : Does Tryz.prog 164 [Str s] w (fun v w' => v = .bool (userOk s) ∧ SH w w' [] []) := by
 refine fn_enter (N := 24) Tryz.func164 rfl (by kernel_rfl) rfl rfl rfl ?_
 have hs0 : SH w w [] [] := SH.refl w []
 refine sq (rg (qt rfl (asg (v := .bool false) rfl) (nl (nN (sq (sq (rg ?_)))))))
 refine qt rfl (asg (v := I 0) rfl) (nl (nN (bl (lp (σ := Nat) (fun (k : Nat) f w' => Has f [(0, Str s), (3, I ((k : Nat) : Int))] ∧ (k ≤ s.length) ∧ ((s.take k).all (okC []) = true) ∧ SH w w' [] []) (fun k => s.length - k) 0 ⟨⟨rfl, rfl, trivial⟩, (by simp), (by simp), hs0⟩ ?_))))
 rintro k f w1 ⟨hf, hk, ha, hs1⟩
 obtain ⟨g1, rfl⟩ := has_upd hf
 clear hf
 refine sq (sq (rg (qt rfl (mv (v := I ((k : Nat) : Int)) rfl) (qt rfl (mv (v := Str s) rfl) (qt rfl (lnS (l := s) st9 rfl) (qt rfl (lss (k := .i64) (a := ((k : Nat) : Int)) (b := ((s.length : Nat) : Int)) rfl rfl) (nl ?_)))))))
 refine nN ?_
 refine cdd (p := ((k : Nat) : Int) < ((s.length : Nat) : Int)) rfl (fun h1 => ?_) (fun h1 => ?_)
 · refine sk (nN (sq (bl (sq (rg (qt rfl (mv (v := Str s) rfl) (qt rfl (mv (v := I ((k : Nat) : Int)) rfl) ?_)))))))
   refine qt rfl (ixs (l := s) k st9 rfl rfl (by omega)) (cl trivial rfl (sLetter (c := (s.getD k 0)) (w := _)) ?_)
   rintro _ w2 ⟨rfl, hs2'⟩
   have hs2 := hs1.call0 hs2'
   clear hs2'
   refine qt rfl (nt (b := letC (s.getD k 0)) rfl) (qt rfl (mv (v := .bool (!(letC (s.getD k 0)))) rfl) ?_)
   refine spl (b := !(letC (s.getD k 0))) 15 rfl (fun h2 => ?_) (fun h2 => ?_)
   · have h3 : (letC (s.getD k 0)) = false := by simpa using h2
     refine gk true rfl rfl rfl rfl rfl (gk true rfl rfl rfl rfl rfl (gk true rfl rfl rfl rfl rfl (gk true rfl rfl rfl rfl rfl (qt rfl (pt (v := .bool true) rfl rfl) (nl (nN (cdt rfl ?_)))))))
     refine sq (rg (qt rfl (asg (v := .bool false) rfl) (nl (nN ?_))))
     refine rt (bR (tR (tR (bR (tR ?_)))))
     refine fret (v := .bool false) (.tmp .nil) rfl ?_
     have e1 : false = userOk s := by exact (user_bad (k := k) (by omega) (.inl (by assumption))).symm
     exact ⟨(congrArg (Value.bool) e1), hs2⟩
   · have h4 : (letC (s.getD k 0)) = true := by simpa using h2
     refine q ⟨_, rfl, rfl⟩ rfl rfl (mv (v := Str s) rfl) (q ⟨_, rfl, rfl⟩ rfl rfl (mv (v := I ((k : Nat) : Int)) rfl) (q ⟨_, rfl, rfl⟩ rfl rfl (ixs (l := s) k st9 rfl rfl (by omega)) (q ⟨_, rfl, rfl⟩ rfl rfl (eqi (k := .u8) (a := (((s.getD k 0).toNat : Nat) : Int)) (b := 45) rfl rfl) (qt rfl (pf (v := .bool (decide ((((s.getD k 0).toNat : Nat) : Int) = 45))) rfl rfl) (nl (nN ?_))))))
     refine cdd (p := (((s.getD k 0).toNat : Nat) : Int) = 45) rfl (fun h5 => ?_) (fun h5 => ?_)
     · refine sq (rg (qt rfl (asg (v := .bool false) rfl) (nl (nN ?_))))
       refine rt (bR (tR (tR (bR (tR ?_)))))
       refine fret (v := .bool false) (.tmp .nil) rfl ?_
       have e2 : false = userOk s := by exact (user_bad (k := k) (by omega) (.inr (by assumption))).symm
       exact ⟨(congrArg (Value.bool) e2), hs2⟩
     · refine sk (bN (nN (rg (qt rfl (mv (v := I ((k : Nat) : Int)) rfl) (qt rfl (add (a := ((k : Nat) : Int)) (b := 1) rfl rfl (by exact ⟨by omega, by omega⟩)) (qt rfl (asg (v := I (((k : Nat) : Int) + 1)) rfl) (nl ?_)))))))
       refine nN ?_
       refine ⟨(k + 1), ⟨⟨rfl, rfl, trivial⟩, (by omega), (all_step (d := 0) (by omega) ha (user_mk (by assumption) (by assumption))), hs2⟩, ?_⟩
       omega
 · refine ex (tE (tE (bE ?_)))
   refine nN (sq (rg (qt rfl (mv (v := Str s) rfl) (qt rfl (lnS (l := s) st9 rfl) (qt rfl (leq (k := .i64) (a := ((s.length : Nat) : Int)) (b := 8) rfl rfl) (qt rfl (asg (v := .bool (decide (((s.length : Nat) : Int) ≤ 8))) rfl) (nl ?_)))))))
   refine nN (rt (fret (v := .bool (decide (((s.length : Nat) : Int) ≤ 8))) (.tmp .nil) rfl ?_))
   have e3 : (decide (((s.length : Nat) : Int) ≤ 8)) = userOk s := by exact user_end (by omega) ha
   exact ⟨(congrArg (Value.bool) e3), hs1⟩
theorem slIndex {Azs : Option Addr} {czs : Nat} (zs : List Int) (n : Int) (w : World) (hzs : Sl w [] 1 Azs zs.length czs (zs.map I)) : Does Tryz.prog 136 [.slice Azs zs.length czs, I n] w (fun v w' => v = .int .i64 (idxP (fun x => decide (n = x)) zs) ∧ SH w w' [] []) := by
 refine fn_enter (N := 19) Tryz.func136 rfl (by kernel_rfl) rfl rfl rfl ?_
 have hs0 : SH w w [] [] := SH.refl w []
 have hzs_m : zs.length ≤ 9223372036854775807 := Nat.le_trans hzs.cap hzs.capMax
 refine sq (rg (qt rfl (asg (v := I 0) rfl) (nl (nN (sq (sq (rg ?_)))))))
 refine qt rfl (mv (v := .slice Azs zs.length czs) rfl) (qt rfl (lnA (n := zs.length) sl22 rfl) (qt rfl (mv (v := I 0) rfl) (nl (nN (bl (lp (σ := Nat) (fun (k : Nat) f w' => Has f [(0, .slice Azs zs.length czs), (1, I n), (7, I ((zs.length : Nat) : Int)), (8, I ((k : Nat) : Int))] ∧ (k ≤ zs.length) ∧ (∀ j, j < k → decide (n = zs.getD j 0) = false) ∧ SH w w' [] []) (fun k => zs.length - k) 0 ⟨⟨rfl, rfl, rfl, rfl, trivial⟩, (by simp), (by intro j hj; omega), hs0⟩ ?_))))))
 rintro k f w1 ⟨hf, hk, hn, hs1⟩
 obtain ⟨g1, rfl⟩ := has_upd hf
 clear hf
 refine sq (rg (qt rfl (lss (k := .i64) (a := ((k : Nat) : Int)) (b := ((zs.length : Nat) : Int)) rfl rfl) (nl (nN (sq ?_)))))
 refine cdd (p := ((k : Nat) : Int) < ((zs.length : Nat) : Int)) rfl (fun h1 => ?_) (fun h1 => ?_)
 · refine sk (nN (sq (bl (sq (rg (qt rfl (mv (v := I ((k : Nat) : Int)) rfl) (qt rfl (asg (v := I ((k : Nat) : Int)) rfl) ?_)))))))
   refine nl (nN (sq (rg (qt rfl (mv (v := I n) rfl) (qt rfl (mv (v := .slice Azs zs.length czs) rfl) (qt rfl (mv (v := I ((k : Nat) : Int)) rfl) (ixw1 k sl22 rfl rfl hzs (by omega) (getm I 0 (by omega)) trivial rfl (fun a1 ha1 => ?_))))))))
   refine qt rfl (lda (v := I (zs.getD k 0)) hs1 ha1 (fun _ h => h) rfl rfl one3) (qt rfl (eqi (k := .i64) (a := n) (b := zs.getD k 0) rfl rfl) (nl (nN ?_)))
   refine cdd (p := n = (zs.getD k 0)) rfl (fun h2 => ?_) (fun h2 => ?_)
   · refine sq (rg (qt rfl (mv (v := I ((k : Nat) : Int)) rfl) (qt rfl (asg (v := I ((k : Nat) : Int)) rfl) (nl (nN ?_)))))
     refine rt (bR (tR (tR (bR (tR ?_)))))
     refine fret (v := I ((k : Nat) : Int)) (.tmp .nil) rfl ?_
     have e1 : ((k : Nat) : Int) = idxP (fun x => decide (n = x)) zs := by exact idxP_eq (d := 0) (by omega) hn (decide_eq_true (by assumption))
     exact ⟨(congrArg (Value.int .i64) e1), hs1⟩
   · refine sk (bN (nN (rg (qt rfl (add (a := ((k : Nat) : Int)) (b := 1) rfl rfl (by exact ⟨by omega, by omega⟩)) (qt rfl (mv (v := I (((k : Nat) : Int) + 1)) rfl) (nl (nN ?_)))))))
     refine ⟨(k + 1), ⟨⟨rfl, rfl, rfl, rfl, trivial⟩, (by omega), (by intro j hj; rcases Nat.lt_succ_iff_lt_or_eq.1 hj with h | h; exact hn j h; subst h; exact decide_eq_false (by assumption)), hs1⟩, ?_⟩
     omega
 · refine ex (tE (tE (bE ?_)))
   refine nN (sq (rg (qt rfl (asg (v := I (-1)) rfl) (nl (nN (rt (fret (v := I (-1)) (.tmp .nil) rfl ?_)))))))
   have e2 : (-1) = idxP (fun x => decide (n = x)) zs := by exact idxP_none (d := 0) (fun j hj => hn j (by omega))
   exact ⟨(congrArg (Value.int .i64) e2), hs1⟩
theorem slContains {Azs : Option Addr} {czs : Nat} (zs : List Int) (n : Int) (w : World) (hzs : Sl w [] 1 Azs zs.length czs (zs.map I)) : Does Tryz.prog 80 [.slice Azs zs.length czs, I n] w (fun v w' => v = .bool (decide (n ∈ zs)) ∧ SH w w' [] []) := by
 refine fn_enter (N := 9) Tryz.func80 rfl (by kernel_rfl) rfl rfl rfl ?_
 have hs0 : SH w w [] [] := SH.refl w []
 have hzs_m : zs.length ≤ 9223372036854775807 := Nat.le_trans hzs.cap hzs.capMax
 refine sq (rg (qt rfl (asg (v := .bool false) rfl) (nl (nN (sq (rg (qt rfl (mv (v := .slice Azs zs.length czs) rfl) ?_)))))))
 refine qt rfl (mv (v := I n) rfl) (cl trivial rfl (slIndex (Azs := Azs) (czs := czs) (zs := zs) (n := n) (w := _) (hzs := (hzs.up0 hs0))) ?_)
 rintro _ w1 ⟨rfl, hs1'⟩
 have hs1 := hs0.call0 hs1'
 clear hs1'
 refine qt rfl (geq (k := .i64) (a := idxP (fun x => decide (n = x)) zs) (b := 0) rfl rfl) (qt rfl (asg (v := .bool (decide ((0 : Int) ≤ (idxP (fun x => decide (n = x)) zs)))) rfl) (nl (nN (rt (fret (v := .bool (decide ((0 : Int) ≤ (idxP (fun x => decide (n = x)) zs)))) (.tmp .nil) rfl ?_)))))
 have e1 : (decide ((0 : Int) ≤ (idxP (fun x => decide (n = x)) zs))) = (decide (n ∈ zs)) := by exact idxP_int n zs
 exact ⟨(congrArg (Value.bool) e1), hs1⟩
theorem l5Has {Azs : Option Addr} {czs : Nat} (zs : List Int) (n : Int) (w : World) (hzs : Sl w [] 1 Azs zs.length czs (zs.map I)) : Does Tryz.prog 93 [.slice Azs zs.length czs, I n] w (fun v w' => v = .bool (decide (n ∈ zs)) ∧ SH w w' [] []) := by
 refine fn_enter (N := 18) Tryz.func93 rfl (by kernel_rfl) rfl rfl rfl ?_
 have hs0 : SH w w [] [] := SH.refl w []
 have hzs_m : zs.length ≤ 9223372036854775807 := Nat.le_trans hzs.cap hzs.capMax
 refine sq (rg (qt rfl (asg (v := .bool false) rfl) (nl (nN (sq (sq (rg ?_)))))))
 refine qt rfl (asg (v := I 0) rfl) (nl (nN (bl (lp (σ := Nat) (fun (k : Nat) f w' => Has f [(0, .slice Azs zs.length czs), (1, I n), (5, I ((k : Nat) : Int))] ∧ (k ≤ zs.length) ∧ (n ∉ zs.take k) ∧ SH w w' [] []) (fun k => zs.length - k) 0 ⟨⟨rfl, rfl, rfl, trivial⟩, (by simp), (by simp), hs0⟩ ?_))))
 rintro k f w1 ⟨hf, hk, hn, hs1⟩
 obtain ⟨g1, rfl⟩ := has_upd hf
 clear hf
 refine sq (sq (rg (qt rfl (mv (v := I ((k : Nat) : Int)) rfl) (qt rfl (mv (v := .slice Azs zs.length czs) rfl) (qt rfl (lnA (n := zs.length) sl22 rfl) (qt rfl (lss (k := .i64) (a := ((k : Nat) : Int)) (b := ((zs.length : Nat) : Int)) rfl rfl) (nl ?_)))))))
 refine nN ?_
 refine cdd (p := ((k : Nat) : Int) < ((zs.length : Nat) : Int)) rfl (fun h1 => ?_) (fun h1 => ?_)
 · refine sk (nN (sq (bl (sq (rg (qt rfl (mv (v := .slice Azs zs.length czs) rfl) (qt rfl (mv (v := I ((k : Nat) : Int)) rfl) ?_)))))))
   refine ixw1 k sl22 rfl rfl hzs (by omega) (getm I 0 (by omega)) trivial rfl (fun a1 ha1 => ?_)
   refine qt rfl (lda (v := I (zs.getD k 0)) hs1 ha1 (fun _ h => h) rfl rfl one3) (qt rfl (mv (v := I n) rfl) (qt rfl (eqi (k := .i64) (a := zs.getD k 0) (b := n) rfl rfl) (nl (nN ?_))))
   refine cdd (p := (zs.getD k 0) = n) rfl (fun h2 => ?_) (fun h2 => ?_)
   · refine sq (rg (qt rfl (asg (v := .bool true) rfl) (nl (nN ?_))))
     refine rt (bR (tR (tR (bR (tR ?_)))))
     refine fret (v := .bool true) (.tmp .nil) rfl ?_
     have e1 : true = (decide (n ∈ zs)) := by exact (decide_eq_true (has_yes (k := k) (by omega) (by omega))).symm
     exact ⟨(congrArg (Value.bool) e1), hs1⟩
   · refine sk (bN (nN (rg (qt rfl (mv (v := I ((k : Nat) : Int)) rfl) (qt rfl (add (a := ((k : Nat) : Int)) (b := 1) rfl rfl (by exact ⟨by omega, by omega⟩)) (qt rfl (asg (v := I (((k : Nat) : Int) + 1)) rfl) (nl ?_)))))))
     refine nN ?_
     refine ⟨(k + 1), ⟨⟨rfl, rfl, rfl, trivial⟩, (by omega), (has_step (by omega) hn (by omega)), hs1⟩, ?_⟩
     omega
 · refine ex (tE (tE (bE ?_)))
   refine nN (sq (rg (qt rfl (asg (v := .bool false) rfl) (nl (nN (rt (fret (v := .bool false) (.tmp .nil) rfl ?_)))))))
   have e2 : false = (decide (n ∈ zs)) := by exact (decide_eq_false (has_no (k := k) (by omega) hn)).symm
   exact ⟨(congrArg (Value.bool) e2), hs1⟩
theorem iAreMethods {Ams : Option Addr} {cms : Nat} (ms : List Int) (w : World) (hms : Sl w [] 1 Ams ms.length cms (ms.map I)) : Does Tryz.prog 74 [.slice Ams ms.length cms] w (fun v w' => v = .bool (methOk ms) ∧ SH w w' [] []) := by
 refine fn_enter (N := 26) Tryz.func74 rfl (by kernel_rfl) rfl rfl rfl ?_
 have hs0 : SH w w [] [] := SH.refl w []
 have hms_m : ms.length ≤ 9223372036854775807 := Nat.le_trans hms.cap hms.capMax
 refine sq (rg (qt rfl (asg (v := .bool false) rfl) (nl (nN (sq (sq (rg ?_)))))))
 refine qt rfl (mv (v := .slice Ams ms.length cms) rfl) (qt rfl (lnA (n := ms.length) sl22 rfl) (qt rfl (mv (v := I 0) rfl) (nl (nN (bl (lp (σ := Nat) (fun (k : Nat) f w' => Has f [(0, .slice Ams ms.length cms), (5, .slice Ams ms.length cms), (6, I ((ms.length : Nat) : Int)), (7, I ((k : Nat) : Int))] ∧ (k ≤ ms.length) ∧ (methT ms k) ∧ SH w w' [] []) (fun k => ms.length - k) 0 ⟨⟨rfl, rfl, rfl, rfl, trivial⟩, (by simp), (methT0 ms), hs0⟩ ?_))))))
 rintro k f w1 ⟨hf, hk, ha, hs1⟩
 obtain ⟨g1, rfl⟩ := has_upd hf
 clear hf
 refine sq (rg (qt rfl (lss (k := .i64) (a := ((k : Nat) : Int)) (b := ((ms.length : Nat) : Int)) rfl rfl) (nl (nN (sq ?_)))))
 refine cdd (p := ((k : Nat) : Int) < ((ms.length : Nat) : Int)) rfl (fun h1 => ?_) (fun h1 => ?_)
 · refine sk (nN (sq (bl (sq (rg (qt rfl (mv (v := I ((k : Nat) : Int)) rfl) (ixw1 k sl22 rfl rfl hms (by omega) (getm I 0 (by omega)) trivial rfl (fun a1 ha1 => ?_))))))))
   refine qt rfl (lda (v := I (ms.getD k 0)) hs1 ha1 (fun _ h => h) rfl rfl one3) (qt rfl (asg (v := I ((k : Nat) : Int)) rfl) (qt rfl (asg (v := I (ms.getD k 0)) rfl) (nl (nN (sq (rg (qt rfl (mv (v := I (ms.getD k 0)) rfl) ?_)))))))
   refine cl trivial rfl (iWithin (x := ms.getD k 0) (lo := 0) (hi := 254) (w := _)) ?_
   rintro _ w2 ⟨rfl, hs2'⟩
   have hs2 := hs1.call0 hs2'
   clear hs2'
   refine qt rfl (nd (p := 0 ≤ (ms.getD k 0) ∧ (ms.getD k 0) ≤ 254) rfl) (qt rfl (mv (v := .bool (decide (¬ (0 ≤ (ms.getD k 0) ∧ (ms.getD k 0) ≤ 254)))) rfl) ?_)
   refine spd (p := ¬ (0 ≤ (ms.getD k 0) ∧ (ms.getD k 0) ≤ 254)) 15 rfl (fun h2 => ?_) (fun h2 => ?_)
   · refine gk true rfl rfl rfl rfl rfl (gk true rfl rfl rfl rfl rfl (gk true rfl rfl rfl rfl rfl (gk true rfl rfl rfl rfl rfl (gk true rfl rfl rfl rfl rfl (qt rfl (pt (v := .bool true) rfl rfl) (nl (nN ?_)))))))
     refine cdt rfl (sq (rg (qt rfl (asg (v := .bool false) rfl) (nl (nN ?_)))))
     refine rt (bR (tR (tR (bR (tR ?_)))))
     refine fret (v := .bool false) (.tmp .nil) rfl ?_
     have e1 : false = methOk ms := by exact (meth_bad1 (k := k) (by omega) (by assumption)).symm
     exact ⟨(congrArg (Value.bool) e1), hs2⟩
   · refine q ⟨_, rfl, rfl⟩ rfl rfl (mv (v := .slice Ams ms.length cms) rfl) (q ⟨_, rfl, rfl⟩ rfl rfl (mv (v := I ((k : Nat) : Int)) rfl) (q ⟨_, rfl, rfl⟩ rfl rfl (cuhm_ (zs := ms) k sl22 rfl rfl (by omega) hms.cap) (q ⟨_, rfl, rfl⟩ rfl rfl (mv (v := I (ms.getD k 0)) rfl) (cl ⟨_, rfl, rfl⟩ rfl (slContains (Azs := Ams) (czs := cms) (zs := ms.take k) (n := ms.getD k 0) (w := _) (hzs := (Sl.cuthm (hms.up0 hs2) (by omega)))) ?_))))
     rintro _ w3 ⟨rfl, hs3'⟩
     have hs3 := hs2.call0 hs3'
     clear hs3'
     refine qt rfl (pf (v := .bool (decide ((ms.getD k 0) ∈ (ms.take k)))) rfl rfl) (nl (nN ?_))
     refine cdd (p := (ms.getD k 0) ∈ (ms.take k)) rfl (fun h3 => ?_) (fun h3 => ?_)
     · refine sq (rg (qt rfl (asg (v := .bool false) rfl) (nl (nN ?_))))
       refine rt (bR (tR (tR (bR (tR ?_)))))
       refine fret (v := .bool false) (.tmp .nil) rfl ?_
       have e2 : false = methOk ms := by exact (meth_bad2 (k := k) (by omega) (by assumption)).symm
       exact ⟨(congrArg (Value.bool) e2), hs3⟩
     · refine sk (bN (nN (rg (qt rfl (add (a := ((k : Nat) : Int)) (b := 1) rfl rfl (by exact ⟨by omega, by omega⟩)) (qt rfl (mv (v := I (((k : Nat) : Int) + 1)) rfl) (nl (nN ?_)))))))
       refine ⟨(k + 1), ⟨⟨rfl, rfl, rfl, rfl, trivial⟩, (by omega), (methT_step (by omega) ha (Decidable.not_not.1 (by assumption)) (by assumption)), hs3⟩, ?_⟩
       omega
 · refine ex (tE (tE (bE ?_)))
   refine nN (sq (rg (qt rfl (mv (v := .slice Ams ms.length cms) rfl) (qt rfl (lnA (n := ms.length) sl22 rfl) (cl trivial rfl (iWithin (x := ((ms.length : Nat) : Int)) (lo := 1) (hi := 8) (w := _)) ?_)))))
   rintro _ w4 ⟨rfl, hs4'⟩
   have hs4 := hs1.call0 hs4'
   clear hs4'
   refine qt rfl (asg (v := .bool (decide (1 ≤ ((ms.length : Nat) : Int) ∧ ((ms.length : Nat) : Int) ≤ 8))) rfl) (nl (nN (rt (fret (v := .bool (decide (1 ≤ ((ms.length : Nat) : Int) ∧ ((ms.length : Nat) : Int) ≤ 8))) (.tmp .nil) rfl ?_))))
   have e3 : (decide (1 ≤ ((ms.length : Nat) : Int) ∧ ((ms.length : Nat) : Int) ≤ 8)) = methOk ms := by exact meth_end (by omega) ha
   exact ⟨(congrArg (Value.bool) e3), hs4⟩
theorem sL5Ok {Ams : Option Addr} {cms : Nat} (ms : List Int) (w : World) (hms : Sl w [] 1 Ams ms.length cms (ms.map I)) : Does Tryz.prog 127 [.slice Ams ms.length cms] w (fun v w' => v = .bool (methOk ms) ∧ SH w w' [] []) := by
 refine fn_enter (N := 29) Tryz.func127 rfl (by kernel_rfl) rfl rfl rfl ?_
 have hs0 : SH w w [] [] := SH.refl w []
 have hms_m : ms.length ≤ 9223372036854775807 := Nat.le_trans hms.cap hms.capMax
 refine sq (rg (qt rfl (asg (v := .bool false) rfl) (nl (nN (sq (sq (rg ?_)))))))
 refine qt rfl (asg (v := I 0) rfl) (nl (nN (bl (lp (σ := Nat) (fun (k : Nat) f w' => Has f [(0, .slice Ams ms.length cms), (3, I ((k : Nat) : Int))] ∧ (k ≤ ms.length) ∧ (methT ms k) ∧ SH w w' [] []) (fun k => ms.length - k) 0 ⟨⟨rfl, rfl, trivial⟩, (by simp), (methT0 ms), hs0⟩ ?_))))
 rintro k f w1 ⟨hf, hk, ha, hs1⟩
 obtain ⟨g1, rfl⟩ := has_upd hf
 clear hf
 refine sq (sq (rg (qt rfl (mv (v := I ((k : Nat) : Int)) rfl) (qt rfl (mv (v := .slice Ams ms.length cms) rfl) (qt rfl (lnA (n := ms.length) sl22 rfl) (qt rfl (lss (k := .i64) (a := ((k : Nat) : Int)) (b := ((ms.length : Nat) : Int)) rfl rfl) (nl ?_)))))))
 refine nN ?_
 refine cdd (p := ((k : Nat) : Int) < ((ms.length : Nat) : Int)) rfl (fun h1 => ?_) (fun h1 => ?_)
 · refine sk (nN (sq (bl (sq (rq (fun w' => SH w w' [] []) mixed (by kernel_rfl) hs1.drew (qq trivial rfl rfl (fun wq hsq => mv (v := .slice Ams ms.length cms) rfl) (qq trivial rfl rfl (fun wq hsq => mv (v := I ((k : Nat) : Int)) rfl) ?_)))))))
   refine ixq1 k sl22 rfl rfl hms (by omega) (getm I 0 (by omega)) trivial rfl (fun a1 ha1 => ?_)
   refine qq trivial rfl rfl (fun wq hsq => lda (v := I (ms.getD k 0)) hsq ha1 (fun _ h => h) rfl rfl one3) (qc (.bool (decide (0 ≤ (ms.getD k 0) ∧ (ms.getD k 0) ≤ 254))) trivial rfl (fun wq hsq => (sIn (x := ms.getD k 0) (lo := 0) (hi := 254) (w := _)).mono (fun v w' h => ⟨h.1, by simpa using hsq.call0 h.2⟩)) (qq trivial rfl rfl (fun wq hsq => nd (p := 0 ≤ (ms.getD k 0) ∧ (ms.getD k 0) ≤ 254) rfl) (qq trivial rfl rfl (fun wq hsq => mv (v := .bool (decide (¬ (0 ≤ (ms.getD k 0) ∧ (ms.getD k 0) ≤ 254)))) rfl) ?_)))
   refine qspd (p := ¬ (0 ≤ (ms.getD k 0) ∧ (ms.getD k 0) ≤ 254)) 16 rfl (fun h2 => ?_) (fun h2 => ?_)
   · refine qk true rfl rfl rfl rfl rfl (qk true rfl rfl rfl rfl rfl (qk true rfl rfl rfl rfl rfl (qk true rfl rfl rfl rfl rfl (qk true rfl rfl rfl rfl rfl (qk true rfl rfl rfl rfl rfl (qk true rfl rfl rfl rfl rfl (qk true rfl rfl rfl rfl rfl ?_)))))))
     refine qq trivial rfl rfl (fun wq hsq => pt (v := .bool true) rfl rfl) (qn (fun w2 hs2 => ?_))
     refine nN (cdt rfl (sq (rg (qt rfl (asg (v := .bool false) rfl) (nl (nN ?_))))))
     refine rt (bR (tR (tR (bR (tR ?_)))))
     refine fret (v := .bool false) (.tmp .nil) rfl ?_
     have e1 : false = methOk ms := by exact (meth_bad1 (k := k) (by omega) (by assumption)).symm
     exact ⟨(congrArg (Value.bool) e1), hs2⟩
   · refine qq ⟨_, rfl, rfl⟩ rfl rfl (fun wq hsq => mv (v := .slice Ams ms.length cms) rfl) (qq ⟨_, rfl, rfl⟩ rfl rfl (fun wq hsq => mv (v := I ((k : Nat) : Int)) rfl) (qq ⟨_, rfl, rfl⟩ rfl rfl (fun wq hsq => cuhm_ (zs := ms) k sl22 rfl rfl (by omega) hms.cap) (qq ⟨_, rfl, rfl⟩ rfl rfl (fun wq hsq => mv (v := .slice Ams ms.length cms) rfl) (qq ⟨_, rfl, rfl⟩ rfl rfl (fun wq hsq => mv (v := I ((k : Nat) : Int)) rfl) (ixq1 k sl22 rfl rfl hms (by omega) (getm I 0 (by omega)) ⟨_, rfl, rfl⟩ rfl (fun a2 ha2 => ?_))))))
     refine qq ⟨_, rfl, rfl⟩ rfl rfl (fun wq hsq => lda (v := I (ms.getD k 0)) hsq ha2 (fun _ h => h) rfl rfl one3) (qc (.bool (decide ((ms.getD k 0) ∈ (ms.take k)))) ⟨_, rfl, rfl⟩ rfl (fun wq hsq => (l5Has (Azs := Ams) (czs := cms) (zs := ms.take k) (n := ms.getD k 0) (w := _) (hzs := (Sl.cuthm (hms.up0 hsq) (by omega)))).mono (fun v w' h => ⟨h.1, by simpa using hsq.call0 h.2⟩)) (qq trivial rfl rfl (fun wq hsq => pf (v := .bool (decide ((ms.getD k 0) ∈ (ms.take k)))) rfl rfl) (qn (fun w3 hs3 => ?_))))
     refine nN ?_
     refine cdd (p := (ms.getD k 0) ∈ (ms.take k)) rfl (fun h3 => ?_) (fun h3 => ?_)
     · refine sq (rg (qt rfl (asg (v := .bool false) rfl) (nl (nN ?_))))
       refine rt (bR (tR (tR (bR (tR ?_)))))
       refine fret (v := .bool false) (.tmp .nil) rfl ?_
       have e2 : false = methOk ms := by exact (meth_bad2 (k := k) (by omega) (by assumption)).symm
       exact ⟨(congrArg (Value.bool) e2), hs3⟩
     · refine sk (bN (nN (rg (qt rfl (mv (v := I ((k : Nat) : Int)) rfl) (qt rfl (add (a := ((k : Nat) : Int)) (b := 1) rfl rfl (by exact ⟨by omega, by omega⟩)) (qt rfl (asg (v := I (((k : Nat) : Int) + 1)) rfl) (nl ?_)))))))
       refine nN ?_
       refine ⟨(k + 1), ⟨⟨rfl, rfl, trivial⟩, (by omega), (methT_step (by omega) ha (Decidable.not_not.1 (by assumption)) (by assumption)), hs3⟩, ?_⟩
       omega
 · refine ex (tE (tE (bE ?_)))
   refine nN (sq (rg (qt rfl (mv (v := .slice Ams ms.length cms) rfl) (qt rfl (lnA (n := ms.length) sl22 rfl) (cl trivial rfl (sIn (x := ((ms.length : Nat) : Int)) (lo := 1) (hi := 8) (w := _)) ?_)))))
   rintro _ w4 ⟨rfl, hs4'⟩
   have hs4 := hs1.call0 hs4'
   clear hs4'
   refine qt rfl (asg (v := .bool (decide (1 ≤ ((ms.length : Nat) : Int) ∧ ((ms.length : Nat) : Int) ≤ 8))) rfl) (nl (nN (rt (fret (v := .bool (decide (1 ≤ ((ms.length : Nat) : Int) ∧ ((ms.length : Nat) : Int) ≤ 8))) (.tmp .nil) rfl ?_))))
   have e3 : (decide (1 ≤ ((ms.length : Nat) : Int) ∧ ((ms.length : Nat) : Int) ≤ 8)) = methOk ms := by exact meth_end (by omega) ha
   exact ⟨(congrArg (Value.bool) e3), hs4⟩
theorem iAddressValid (ak : Int) {Aaq : Option Addr} {caq : Nat} (aq : List Int) (an : List UInt8) (apt : Int) (w : World) (haq : Sl w [] 1 Aaq aq.length caq (aq.map I)) (han_n : an.length ≤ 1099511627776) : Does Tryz.prog 62 [.agg #[I ak, .slice Aaq aq.length caq, Str an, I apt]] w (fun v w' => v = .bool (addrOk ak aq an apt) ∧ SH w w' [] []) := by
 refine fn_enter (N := 36) Tryz.func62 rfl (by kernel_rfl) rfl rfl rfl ?_
 have hs0 : SH w w [] [] := SH.refl w []
 have haq_m : aq.length ≤ 9223372036854775807 := Nat.le_trans haq.cap haq.capMax
 refine sq (rg (bx (v := .agg #[I ak, .slice Aaq aq.length caq, Str an, I apt]) (cs := [I ak, .slice Aaq aq.length caq, Str an, I apt]) hs0 rfl rfl trivial rfl (fun b1 w1 (hs1 : SH w w1 [] [.blk b1 43 [I ak, .slice Aaq aq.length caq, Str an, I apt]]) => ?_)))
 refine qt rfl (asg (v := .bool false) rfl) (nl (nN (sq (sq (rg (qt rfl (fa 0 fo43_0 rfl) (qt rfl (ld (v := I ak) hs1 0 rfl rfl rfl one3) ?_)))))))
 refine nl (nN (bl (sq (rg (qt rfl (eqi (k := .i64) (a := ak) (b := 1) rfl rfl) (qt rfl (asg (v := .bool (decide (ak = 1))) rfl) (nl ?_)))))))
 refine nN ?_
 refine cdd (p := ak = 1) rfl (fun h1 => ?_) (fun h1 => ?_)
 · refine sq (rg (qt rfl (fa 1 fo43_1 rfl) (qt rfl (ld (v := .slice Aaq aq.length caq) hs1 0 rfl rfl rfl one22) (cl trivial rfl (iQuadValid (Aqs := Aaq) (cqs := caq) (qs := aq) (w := _) (hqs := (haq.up0 hs1))) ?_))))
   rintro _ w2 ⟨rfl, hs2'⟩
   have hs2 := hs1.call0 hs2'
   clear hs2'
   refine qt rfl (mv (v := .bool (quadOk aq)) rfl) ?_
   refine spl (b := quadOk aq) 10 rfl (fun h2 => ?_) (fun h2 => ?_)
   · refine q ⟨_, rfl, rfl⟩ rfl rfl (fa 2 fo43_2 rfl) (q ⟨_, rfl, rfl⟩ rfl rfl (ld (v := Str an) hs2 0 rfl rfl rfl one9) (q ⟨_, rfl, rfl⟩ rfl rfl (eqs (l := an) (m := []) rfl rfl) (qt rfl (pt (v := .bool (decide (an = []))) rfl rfl) (qt rfl (mv (v := .bool (decide (an = []))) rfl) ?_))))
     refine spd (p := an = []) 15 rfl (fun h3 => ?_) (fun h3 => ?_)
     · refine q ⟨_, rfl, rfl⟩ rfl rfl (fa 3 fo43_3 rfl) (q ⟨_, rfl, rfl⟩ rfl rfl (ld (v := I apt) hs2 0 rfl rfl rfl one3) (cl ⟨_, rfl, rfl⟩ rfl (isPort (x := apt) (w := _)) ?_))
       rintro _ w3 ⟨rfl, hs3'⟩
       have hs3 := hs2.call0 hs3'
       clear hs3'
       refine qt rfl (pt (v := .bool (decide (0 ≤ apt ∧ apt ≤ 65535))) rfl rfl) (qt rfl (asg (v := .bool (decide (0 ≤ apt ∧ apt ≤ 65535))) rfl) (nl (nN ?_)))
       refine rt (bR (tR ?_))
       refine fret (v := .bool (decide (0 ≤ apt ∧ apt ≤ 65535))) (.tmp .nil) rfl ?_
       have e1 : (decide (0 ≤ apt ∧ apt ≤ 65535)) = addrOk ak aq an apt := by (rw [addr_is1 (by assumption)]; simp [h1, h2, h3]; done)
       exact ⟨(congrArg (Value.bool) e1), (hs3.pick [] rfl (by decide))⟩
     · refine gk false rfl rfl rfl rfl rfl (gk false rfl rfl rfl rfl rfl (gk false rfl rfl rfl rfl rfl (qt rfl (pf (v := .bool false) rfl rfl) (qt rfl (asg (v := .bool false) rfl) (nl (nN ?_))))))
       refine rt (bR (tR ?_))
       refine fret (v := .bool false) (.tmp .nil) rfl ?_
       have e2 : false = addrOk ak aq an apt := by (rw [addr_is1 (by assumption)]; simp [h1, h2, h3]; done)
       exact ⟨(congrArg (Value.bool) e2), (hs2.pick [] rfl (by decide))⟩
   · refine gk false rfl rfl rfl rfl rfl (gk false rfl rfl rfl rfl rfl (gk false rfl rfl rfl rfl rfl (qt rfl (pf (v := .bool false) rfl rfl) (qt rfl (mv (v := .bool false) rfl) (gk false rfl rfl rfl rfl rfl (gk false rfl rfl rfl rfl rfl (gk false rfl rfl rfl rfl rfl ?_)))))))
     refine qt rfl (pf (v := .bool false) rfl rfl) (qt rfl (asg (v := .bool false) rfl) (nl (nN ?_)))
     refine rt (bR (tR ?_))
     refine fret (v := .bool false) (.tmp .nil) rfl ?_
     have e3 : false = addrOk ak aq an apt := by (rw [addr_is1 (by assumption)]; simp [h1, h2]; done)
     exact ⟨(congrArg (Value.bool) e3), (hs2.pick [] rfl (by decide))⟩
 · refine sq (rg (qt rfl (eqi (k := .i64) (a := ak) (b := 3) rfl rfl) (qt rfl (asg (v := .bool (decide (ak = 3))) rfl) (nl (nN ?_)))))
   refine cdd (p := ak = 3) rfl (fun h4 => ?_) (fun h4 => ?_)
   · refine sq (rg (qt rfl (fa 2 fo43_2 rfl) (qt rfl (ld (v := Str an) hs1 0 rfl rfl rfl one9) (cl trivial rfl (iNameValid (l := an) (w := _) (hl_n := (by omega))) ?_))))
     rintro _ w4 ⟨rfl, hs4'⟩
     have hs4 := hs1.call0 hs4'
     clear hs4'
     refine qt rfl (mv (v := .bool (nameOk an)) rfl) ?_
     refine spl (b := nameOk an) 25 rfl (fun h5 => ?_) (fun h5 => ?_)
     · refine q ⟨_, rfl, rfl⟩ rfl rfl (fa 1 fo43_1 rfl) (q ⟨_, rfl, rfl⟩ rfl rfl (ld (v := .slice Aaq aq.length caq) hs4 0 rfl rfl rfl one22) (q ⟨_, rfl, rfl⟩ rfl rfl (lnA (n := aq.length) sl22 rfl) (q ⟨_, rfl, rfl⟩ rfl rfl (eqi (k := .i64) (a := ((aq.length : Nat) : Int)) (b := 0) rfl rfl) (qt rfl (pt (v := .bool (decide (((aq.length : Nat) : Int) = 0))) rfl rfl) (qt rfl (mv (v := .bool (decide (((aq.length : Nat) : Int) = 0))) rfl) ?_)))))
       refine spd (p := ((aq.length : Nat) : Int) = 0) 31 rfl (fun h6 => ?_) (fun h6 => ?_)
       · refine q ⟨_, rfl, rfl⟩ rfl rfl (fa 3 fo43_3 rfl) (q ⟨_, rfl, rfl⟩ rfl rfl (ld (v := I apt) hs4 0 rfl rfl rfl one3) (cl ⟨_, rfl, rfl⟩ rfl (isPort (x := apt) (w := _)) ?_))
         rintro _ w5 ⟨rfl, hs5'⟩
         have hs5 := hs4.call0 hs5'
         clear hs5'
         refine qt rfl (pt (v := .bool (decide (0 ≤ apt ∧ apt ≤ 65535))) rfl rfl) (qt rfl (asg (v := .bool (decide (0 ≤ apt ∧ apt ≤ 65535))) rfl) (nl (nN ?_)))
         refine rt (bR (tR ?_))
         refine fret (v := .bool (decide (0 ≤ apt ∧ apt ≤ 65535))) (.tmp .nil) rfl ?_
         have e4 : (decide (0 ≤ apt ∧ apt ≤ 65535)) = addrOk ak aq an apt := by (rw [addr_is3 (by assumption)]; have hq0 : aq = [] := List.eq_nil_of_length_eq_zero (by omega); simp [hq0, h1, h4, h5, h6]; done)
         exact ⟨(congrArg (Value.bool) e4), (hs5.pick [] rfl (by decide))⟩
       · refine gk false rfl rfl rfl rfl rfl (gk false rfl rfl rfl rfl rfl (gk false rfl rfl rfl rfl rfl (qt rfl (pf (v := .bool false) rfl rfl) (qt rfl (asg (v := .bool false) rfl) (nl (nN ?_))))))
         refine rt (bR (tR ?_))
         refine fret (v := .bool false) (.tmp .nil) rfl ?_
         have e5 : false = addrOk ak aq an apt := by (rw [addr_is3 (by assumption)]; have hq0 : ¬ aq = [] := fun he => absurd (by rw [he]; rfl : ((aq.length : Nat) : Int) = 0) (by assumption); simp [hq0, h1, h4, h5, h6]; done)
         exact ⟨(congrArg (Value.bool) e5), (hs4.pick [] rfl (by decide))⟩
     · refine gk false rfl rfl rfl rfl rfl (gk false rfl rfl rfl rfl rfl (gk false rfl rfl rfl rfl rfl (gk false rfl rfl rfl rfl rfl (qt rfl (pf (v := .bool false) rfl rfl) (qt rfl (mv (v := .bool false) rfl) (gk false rfl rfl rfl rfl rfl (gk false rfl rfl rfl rfl rfl ?_)))))))
       refine gk false rfl rfl rfl rfl rfl (qt rfl (pf (v := .bool false) rfl rfl) (qt rfl (asg (v := .bool false) rfl) (nl (nN ?_))))
       refine rt (bR (tR ?_))
       refine fret (v := .bool false) (.tmp .nil) rfl ?_
       have e6 : false = addrOk ak aq an apt := by (rw [addr_is3 (by assumption)]; simp [h1, h4, h5]; done)
       exact ⟨(congrArg (Value.bool) e6), (hs4.pick [] rfl (by decide))⟩
   · refine sk (bN (nN (sq (rg (qt rfl (asg (v := .bool false) rfl) (nl (nN ?_)))))))
     refine rt (fret (v := .bool false) (.tmp .nil) rfl ?_)
     have e7 : false = addrOk ak aq an apt := by exact (addr_no _ _ _ (by assumption) (by assumption)).symm
     exact ⟨(congrArg (Value.bool) e7), (hs1.pick [] rfl (by decide))⟩
theorem sAddressValid (ak : Int) {Aaq : Option Addr} {caq : Nat} (aq : List Int) (an : List UInt8) (apt : Int) (w : World) (haq : Sl w [] 1 Aaq aq.length caq (aq.map I)) (han_n : an.length ≤ 1099511627776) : Does Tryz.prog 128 [.agg #[I ak, .slice Aaq aq.length caq, Str an, I apt]] w (fun v w' => v = .bool (addrOk ak aq an apt) ∧ SH w w' [] []) := by
 refine fn_enter (N := 30) Tryz.func128 rfl (by kernel_rfl) rfl rfl rfl ?_
 have hs0 : SH w w [] [] := SH.refl w []
 have haq_m : aq.length ≤ 9223372036854775807 := Nat.le_trans haq.cap haq.capMax
 refine sq (rg (bx (v := .agg #[I ak, .slice Aaq aq.length caq, Str an, I apt]) (cs := [I ak, .slice Aaq aq.length caq, Str an, I apt]) hs0 rfl rfl trivial rfl (fun b1 w1 (hs1 : SH w w1 [] [.blk b1 43 [I ak, .slice Aaq aq.length caq, Str an, I apt]]) => ?_)))
 refine qt rfl (asg (v := .bool false) rfl) (nl (nN (sq (sq (rg (qt rfl (fa 3 fo43_3 rfl) (qt rfl (ld (v := I apt) hs1 0 rfl rfl rfl one3) ?_)))))))
 refine cl trivial rfl (sIn (x := apt) (lo := 0) (hi := 65535) (w := _)) ?_
 rintro _ w2 ⟨rfl, hs2'⟩
 have hs2 := hs1.call0 hs2'
 clear hs2'
 refine qt rfl (nd (p := 0 ≤ apt ∧ apt ≤ 65535) rfl) (nl (nN ?_))
 refine cdd (p := ¬ (0 ≤ apt ∧ apt ≤ 65535)) rfl (fun h1 => ?_) (fun h1 => ?_)
 · refine sq (rg (qt rfl (asg (v := .bool false) rfl) (nl (nN (rt (tR ?_))))))
   refine fret (v := .bool false) (.tmp .nil) rfl ?_
   have e1 : false = addrOk ak aq an apt := by exact (addr_port _ _ (by assumption)).symm
   exact ⟨(congrArg (Value.bool) e1), (hs2.pick [] rfl (by decide))⟩
 · refine sk (nN (sq (sq (rg (qt rfl (fa 0 fo43_0 rfl) (qt rfl (ld (v := I ak) hs2 0 rfl rfl rfl one3) (nl ?_)))))))
   refine nN (bl (sq (rg (qt rfl (eqi (k := .i64) (a := ak) (b := 1) rfl rfl) (qt rfl (asg (v := .bool (decide (ak = 1))) rfl) (nl (nN ?_)))))))
   refine cdd (p := ak = 1) rfl (fun h2 => ?_) (fun h2 => ?_)
   · refine sq (rg (qt rfl (fa 1 fo43_1 rfl) (qt rfl (ld (v := .slice Aaq aq.length caq) hs2 0 rfl rfl rfl one22) (cl trivial rfl (sQuadValid (Aqs := Aaq) (cqs := caq) (qs := aq) (w := _) (hqs := (haq.up0 hs2))) ?_))))
     rintro _ w3 ⟨rfl, hs3'⟩
     have hs3 := hs2.call0 hs3'
     clear hs3'
     refine qt rfl (mv (v := .bool (quadOk aq)) rfl) ?_
     refine spl (b := quadOk aq) 14 rfl (fun h3 => ?_) (fun h3 => ?_)
     · refine q ⟨_, rfl, rfl⟩ rfl rfl (fa 2 fo43_2 rfl) (q ⟨_, rfl, rfl⟩ rfl rfl (ld (v := Str an) hs3 0 rfl rfl rfl one9) (q ⟨_, rfl, rfl⟩ rfl rfl (eqs (l := an) (m := []) rfl rfl) (qt rfl (pt (v := .bool (decide (an = []))) rfl rfl) (qt rfl (asg (v := .bool (decide (an = []))) rfl) (nl (nN ?_))))))
       refine rt (bR (tR ?_))
       refine fret (v := .bool (decide (an = []))) (.tmp .nil) rfl ?_
       have e2 : (decide (an = [])) = addrOk ak aq an apt := by (rw [addr_is1 (by assumption)]; have hp0 : 0 ≤ apt ∧ apt ≤ 65535 := Decidable.not_not.1 (by assumption); simp [hp0.1, hp0.2, h1, h2, h3]; done)
       exact ⟨(congrArg (Value.bool) e2), (hs3.pick [] rfl (by decide))⟩
     · refine gk false rfl rfl rfl rfl rfl (gk false rfl rfl rfl rfl rfl (gk false rfl rfl rfl rfl rfl (qt rfl (pf (v := .bool false) rfl rfl) (qt rfl (asg (v := .bool false) rfl) (nl (nN ?_))))))
       refine rt (bR (tR ?_))
       refine fret (v := .bool false) (.tmp .nil) rfl ?_
       have e3 : false = addrOk ak aq an apt := by (rw [addr_is1 (by assumption)]; simp [h1, h2, h3]; done)
       exact ⟨(congrArg (Value.bool) e3), (hs3.pick [] rfl (by decide))⟩
   · refine sq (rg (qt rfl (eqi (k := .i64) (a := ak) (b := 3) rfl rfl) (qt rfl (asg (v := .bool (decide (ak = 3))) rfl) (nl (nN ?_)))))
     refine cdd (p := ak = 3) rfl (fun h4 => ?_) (fun h4 => ?_)
     · refine sq (rg (qt rfl (fa 2 fo43_2 rfl) (qt rfl (ld (v := Str an) hs2 0 rfl rfl rfl one9) (cl trivial rfl (sNameValid (l := an) (w := _) (hl_n := (by omega))) ?_))))
       rintro _ w4 ⟨rfl, hs4'⟩
       have hs4 := hs2.call0 hs4'
       clear hs4'
       refine qt rfl (mv (v := .bool (nameOk an)) rfl) ?_
       refine spl (b := nameOk an) 24 rfl (fun h5 => ?_) (fun h5 => ?_)
       · refine q ⟨_, rfl, rfl⟩ rfl rfl (fa 1 fo43_1 rfl) (q ⟨_, rfl, rfl⟩ rfl rfl (ld (v := .slice Aaq aq.length caq) hs4 0 rfl rfl rfl one22) (q ⟨_, rfl, rfl⟩ rfl rfl (lnA (n := aq.length) sl22 rfl) (q ⟨_, rfl, rfl⟩ rfl rfl (eqi (k := .i64) (a := ((aq.length : Nat) : Int)) (b := 0) rfl rfl) (qt rfl (pt (v := .bool (decide (((aq.length : Nat) : Int) = 0))) rfl rfl) (qt rfl (asg (v := .bool (decide (((aq.length : Nat) : Int) = 0))) rfl) (nl (nN ?_)))))))
         refine rt (bR (tR ?_))
         refine fret (v := .bool (decide (((aq.length : Nat) : Int) = 0))) (.tmp .nil) rfl ?_
         have e4 : (decide (((aq.length : Nat) : Int) = 0)) = addrOk ak aq an apt := by (rw [addr_is3 (by assumption)]; have hp0 : 0 ≤ apt ∧ apt ≤ 65535 := Decidable.not_not.1 (by assumption); simp [hp0.1, hp0.2, h1, h2, h4, h5]; done)
         exact ⟨(congrArg (Value.bool) e4), (hs4.pick [] rfl (by decide))⟩
       · refine gk false rfl rfl rfl rfl rfl (gk false rfl rfl rfl rfl rfl (gk false rfl rfl rfl rfl rfl (gk false rfl rfl rfl rfl rfl (qt rfl (pf (v := .bool false) rfl rfl) (qt rfl (asg (v := .bool false) rfl) (nl (nN ?_)))))))
         refine rt (bR (tR ?_))
         refine fret (v := .bool false) (.tmp .nil) rfl ?_
         have e5 : false = addrOk ak aq an apt := by (rw [addr_is3 (by assumption)]; simp [h1, h2, h4, h5]; done)
         exact ⟨(congrArg (Value.bool) e5), (hs4.pick [] rfl (by decide))⟩
     · refine sk (bN (nN (sq (rg (qt rfl (asg (v := .bool false) rfl) (nl (nN ?_)))))))
       refine rt (fret (v := .bool false) (.tmp .nil) rfl ?_)
       have e6 : false = addrOk ak aq an apt := by exact (addr_no _ _ _ (by assumption) (by assumption)).symm
       exact ⟨(congrArg (Value.bool) e6), (hs2.pick [] rfl (by decide))⟩
theorem iIsLogin (lu : List UInt8) (lw : List UInt8) (w : World) (hlu_n : lu.length ≤ 9223372036854775807) (hlw_n : lw.length ≤ 9223372036854775807) : Does Tryz.prog 79 [.agg #[Str lu, Str lw]] w (fun v w' => v = .bool (loginOk lu lw) ∧ SH w w' [] []) := by
 refine fn_enter (N := 21) Tryz.func79 rfl (by kernel_rfl) rfl rfl rfl ?_
 have hs0 : SH w w [] [] := SH.refl w []
 refine sq (rg (bx (v := .agg #[Str lu, Str lw]) (cs := [Str lu, Str lw]) hs0 rfl rfl trivial rfl (fun b1 w1 (hs1 : SH w w1 [] [.blk b1 51 [Str lu, Str lw]]) => ?_)))
 refine qt rfl (asg (v := .bool false) rfl) (nl (nN (sq (rg (qt rfl (fa 0 fo51_0 rfl) (qt rfl (ld (v := Str lu) hs1 0 rfl rfl rfl one9) (qt rfl (nes (l := lu) (m := []) rfl rfl) ?_)))))))
 refine qt rfl (mv (v := .bool (decide (lu ≠ []))) rfl) ?_
 refine spd (p := lu ≠ []) 6 rfl (fun h1 => ?_) (fun h1 => ?_)
 · refine q ⟨_, rfl, rfl⟩ rfl rfl (fa 1 fo51_1 rfl) (q ⟨_, rfl, rfl⟩ rfl rfl (ld (v := Str lw) hs1 0 rfl rfl rfl one9) (q ⟨_, rfl, rfl⟩ rfl rfl (nes (l := lw) (m := []) rfl rfl) (qt rfl (pt (v := .bool (decide (lw ≠ []))) rfl rfl) (qt rfl (mv (v := .bool (decide (lw ≠ []))) rfl) ?_))))
   refine spd (p := lw ≠ []) 11 rfl (fun h2 => ?_) (fun h2 => ?_)
   · refine q ⟨_, rfl, rfl⟩ rfl rfl (fa 0 fo51_0 rfl) (q ⟨_, rfl, rfl⟩ rfl rfl (ld (v := Str lu) hs1 0 rfl rfl rfl one9) (cl ⟨_, rfl, rfl⟩ rfl (iUserValid (s := lu) (w := _) (hs_n := (by omega))) ?_))
     rintro _ w2 ⟨rfl, hs2'⟩
     have hs2 := hs1.call0 hs2'
     clear hs2'
     refine qt rfl (pt (v := .bool (userOk lu)) rfl rfl) (qt rfl (mv (v := .bool (userOk lu)) rfl) ?_)
     refine spl (b := userOk lu) 16 rfl (fun h3 => ?_) (fun h3 => ?_)
     · refine q ⟨_, rfl, rfl⟩ rfl rfl (fa 1 fo51_1 rfl) (q ⟨_, rfl, rfl⟩ rfl rfl (ld (v := Str lw) hs2 0 rfl rfl rfl one9) (cl ⟨_, rfl, rfl⟩ rfl (iUserValid (s := lw) (w := _) (hs_n := (by omega))) ?_))
       rintro _ w3 ⟨rfl, hs3'⟩
       have hs3 := hs2.call0 hs3'
       clear hs3'
       refine qt rfl (pt (v := .bool (userOk lw)) rfl rfl) (qt rfl (asg (v := .bool (userOk lw)) rfl) (nl (nN (rt (fret (v := .bool (userOk lw)) (.tmp .nil) rfl ?_)))))
       have e1 : (userOk lw) = loginOk lu lw := by simp [loginOk, h1, h2, h3]
       exact ⟨(congrArg (Value.bool) e1), (hs3.pick [] rfl (by decide))⟩
     · refine gk false rfl rfl rfl rfl rfl (gk false rfl rfl rfl rfl rfl (gk false rfl rfl rfl rfl rfl (qt rfl (pf (v := .bool false) rfl rfl) (qt rfl (asg (v := .bool false) rfl) (nl (nN (rt ?_)))))))
       refine fret (v := .bool false) (.tmp .nil) rfl ?_
       have e2 : false = loginOk lu lw := by simp [loginOk, h1, h2, h3]
       exact ⟨(congrArg (Value.bool) e2), (hs2.pick [] rfl (by decide))⟩
   · refine gk false rfl rfl rfl rfl rfl (gk false rfl rfl rfl rfl rfl (gk false rfl rfl rfl rfl rfl (qt rfl (pf (v := .bool false) rfl rfl) (qt rfl (mv (v := .bool false) rfl) (gk false rfl rfl rfl rfl rfl (gk false rfl rfl rfl rfl rfl (gk false rfl rfl rfl rfl rfl ?_)))))))
     refine qt rfl (pf (v := .bool false) rfl rfl) (qt rfl (asg (v := .bool false) rfl) (nl (nN (rt (fret (v := .bool false) (.tmp .nil) rfl ?_)))))
     have e3 : false = loginOk lu lw := by simp [loginOk, h1, h2]
     exact ⟨(congrArg (Value.bool) e3), (hs1.pick [] rfl (by decide))⟩
 · refine gk false rfl rfl rfl rfl rfl (gk false rfl rfl rfl rfl rfl (gk false rfl rfl rfl rfl rfl (qt rfl (pf (v := .bool false) rfl rfl) (qt rfl (mv (v := .bool false) rfl) (gk false rfl rfl rfl rfl rfl (gk false rfl rfl rfl rfl rfl (gk false rfl rfl rfl rfl rfl ?_)))))))
   refine qt rfl (pf (v := .bool false) rfl rfl) (qt rfl (mv (v := .bool false) rfl) (gk false rfl rfl rfl rfl rfl (gk false rfl rfl rfl rfl rfl (gk false rfl rfl rfl rfl rfl (qt rfl (pf (v := .bool false) rfl rfl) (qt rfl (asg (v := .bool false) rfl) (nl ?_)))))))
   refine nN (rt (fret (v := .bool false) (.tmp .nil) rfl ?_))
   have e4 : false = loginOk lu lw := by simp [loginOk, h1]
   exact ⟨(congrArg (Value.bool) e4), (hs1.pick [] rfl (by decide))⟩
theorem sL11Ok (lu : List UInt8) (lw : List UInt8) (w : World) (hlu_n : lu.length ≤ 9223372036854775807) (hlw_n : lw.length ≤ 9223372036854775807) : Does Tryz.prog 129 [.agg #[Str lu, Str lw]] w (fun v w' => v = .bool (loginOk lu lw) ∧ SH w w' [] []) := by
 refine fn_enter (N := 23) Tryz.func129 rfl (by kernel_rfl) rfl rfl rfl ?_
 have hs0 : SH w w [] [] := SH.refl w []
 refine sq (rg (bx (v := .agg #[Str lu, Str lw]) (cs := [Str lu, Str lw]) hs0 rfl rfl trivial rfl (fun b1 w1 (hs1 : SH w w1 [] [.blk b1 51 [Str lu, Str lw]]) => ?_)))
 refine qt rfl (asg (v := .bool false) rfl) (nl (nN (sq (rg (qt rfl (fa 0 fo51_0 rfl) (qt rfl (ld (v := Str lu) hs1 0 rfl rfl rfl one9) (cl trivial rfl (sUserValid (s := lu) (w := _) (hs_n := (by omega))) ?_)))))))
 rintro _ w2 ⟨rfl, hs2'⟩
 have hs2 := hs1.call0 hs2'
 clear hs2'
 refine qt rfl (mv (v := .bool (userOk lu)) rfl) ?_
 refine spl (b := userOk lu) 6 rfl (fun h1 => ?_) (fun h1 => ?_)
 · refine q ⟨_, rfl, rfl⟩ rfl rfl (fa 1 fo51_1 rfl) (q ⟨_, rfl, rfl⟩ rfl rfl (ld (v := Str lw) hs2 0 rfl rfl rfl one9) (cl ⟨_, rfl, rfl⟩ rfl (sUserValid (s := lw) (w := _) (hs_n := (by omega))) ?_))
   rintro _ w3 ⟨rfl, hs3'⟩
   have hs3 := hs2.call0 hs3'
   clear hs3'
   refine qt rfl (pt (v := .bool (userOk lw)) rfl rfl) (qt rfl (mv (v := .bool (userOk lw)) rfl) ?_)
   refine spl (b := userOk lw) 11 rfl (fun h2 => ?_) (fun h2 => ?_)
   · refine q ⟨_, rfl, rfl⟩ rfl rfl (fa 0 fo51_0 rfl) (q ⟨_, rfl, rfl⟩ rfl rfl (ld (v := Str lu) hs3 0 rfl rfl rfl one9) (q ⟨_, rfl, rfl⟩ rfl rfl (lnS (l := lu) st9 rfl) (q ⟨_, rfl, rfl⟩ rfl rfl (gtr (k := .i64) (a := ((lu.length : Nat) : Int)) (b := 0) rfl rfl) (qt rfl (pt (v := .bool (decide ((0 : Int) < ((lu.length : Nat) : Int)))) rfl rfl) (qt rfl (mv (v := .bool (decide ((0 : Int) < ((lu.length : Nat) : Int)))) rfl) ?_)))))
     refine spd (p := (0 : Int) < ((lu.length : Nat) : Int)) 17 rfl (fun h3 => ?_) (fun h3 => ?_)
     · refine q ⟨_, rfl, rfl⟩ rfl rfl (fa 1 fo51_1 rfl) (q ⟨_, rfl, rfl⟩ rfl rfl (ld (v := Str lw) hs3 0 rfl rfl rfl one9) (q ⟨_, rfl, rfl⟩ rfl rfl (lnS (l := lw) st9 rfl) (q ⟨_, rfl, rfl⟩ rfl rfl (gtr (k := .i64) (a := ((lw.length : Nat) : Int)) (b := 0) rfl rfl) (qt rfl (pt (v := .bool (decide ((0 : Int) < ((lw.length : Nat) : Int)))) rfl rfl) (qt rfl (asg (v := .bool (decide ((0 : Int) < ((lw.length : Nat) : Int)))) rfl) (nl (nN ?_)))))))
       refine rt (fret (v := .bool (decide ((0 : Int) < ((lw.length : Nat) : Int)))) (.tmp .nil) rfl ?_)
       have e1 : (decide ((0 : Int) < ((lw.length : Nat) : Int))) = loginOk lu lw := by simp only [loginOk_len]; simp only [h1, h2, h3, decide_true, decide_false, Bool.and_true, Bool.true_and, Bool.and_false, Bool.false_and]
       exact ⟨(congrArg (Value.bool) e1), (hs3.pick [] rfl (by decide))⟩
     · refine gk false rfl rfl rfl rfl rfl (gk false rfl rfl rfl rfl rfl (gk false rfl rfl rfl rfl rfl (gk false rfl rfl rfl rfl rfl (qt rfl (pf (v := .bool false) rfl rfl) (qt rfl (asg (v := .bool false) rfl) (nl (nN ?_)))))))
       refine rt (fret (v := .bool false) (.tmp .nil) rfl ?_)
       have e2 : false = loginOk lu lw := by simp only [loginOk_len]; simp only [h1, h2, h3, decide_true, decide_false, Bool.and_true, Bool.true_and, Bool.and_false, Bool.false_and]
       exact ⟨(congrArg (Value.bool) e2), (hs3.pick [] rfl (by decide))⟩
   · refine gk false rfl rfl rfl rfl rfl (gk false rfl rfl rfl rfl rfl (gk false rfl rfl rfl rfl rfl (gk false rfl rfl rfl rfl rfl (qt rfl (pf (v := .bool false) rfl rfl) (qt rfl (mv (v := .bool false) rfl) (gk false rfl rfl rfl rfl rfl (gk false rfl rfl rfl rfl rfl ?_)))))))
     refine gk false rfl rfl rfl rfl rfl (gk false rfl rfl rfl rfl rfl (qt rfl (pf (v := .bool false) rfl rfl) (qt rfl (asg (v := .bool false) rfl) (nl (nN (rt (fret (v := .bool false) (.tmp .nil) rfl ?_)))))))
     have e3 : false = loginOk lu lw := by simp only [loginOk_len]; simp only [h1, h2, decide_true, decide_false, Bool.and_true, Bool.true_and, Bool.and_false, Bool.false_and]
     exact ⟨(congrArg (Value.bool) e3), (hs3.pick [] rfl (by decide))⟩
 · refine gk false rfl rfl rfl rfl rfl (gk false rfl rfl rfl rfl rfl (gk false rfl rfl rfl rfl rfl (qt rfl (pf (v := .bool false) rfl rfl) (qt rfl (mv (v := .bool false) rfl) (gk false rfl rfl rfl rfl rfl (gk false rfl rfl rfl rfl rfl (gk false rfl rfl rfl rfl rfl ?_)))))))
   refine gk false rfl rfl rfl rfl rfl (qt rfl (pf (v := .bool false) rfl rfl) (qt rfl (mv (v := .bool false) rfl) (gk false rfl rfl rfl rfl rfl (gk false rfl rfl rfl rfl rfl (gk false rfl rfl rfl rfl rfl (gk false rfl rfl rfl rfl rfl (qt rfl (pf (v := .bool false) rfl rfl) ?_)))))))
   refine qt rfl (asg (v := .bool false) rfl) (nl (nN (rt (fret (v := .bool false) (.tmp .nil) rfl ?_))))
   have e4 : false = loginOk lu lw := by simp only [loginOk_len]; simp only [h1, decide_true, decide_false, Bool.and_true, Bool.true_and, Bool.and_false, Bool.false_and]
   exact ⟨(congrArg (Value.bool) e4), (hs2.pick [] rfl (by decide))⟩
theorem szLogin (lu : List UInt8) (lw : List UInt8) (z : Int) (w : World) (hlu_n : lu.length ≤ 9223372036854775807) (hlw_n : lw.length ≤ 9223372036854775807) (hz : 0 ≤ z ∧ z ≤ 1099511627776) : Does Tryz.prog 83 [.agg #[Str lu, Str lw], I z] w (fun v w' => ∃ r : Int, v = .int .i64 r ∧ (-1 ≤ r ∧ r ≤ z) ∧ (r < 0 ∨ ((lu.length : Int) ≤ z ∧ (lw.length : Int) ≤ z)) ∧ SH w w' [] []) := by
 refine fn_enter (N := 20) Tryz.func83 rfl (by kernel_rfl) rfl rfl rfl ?_
 have hs0 : SH w w [] [] := SH.refl w []
 refine sq (rg (bx (v := .agg #[Str lu, Str lw]) (cs := [Str lu, Str lw]) hs0 rfl rfl trivial rfl (fun b1 w1 (hs1 : SH w w1 [] [.blk b1 63 [Str lu, Str lw]]) => ?_)))
 refine qt rfl (asg (v := I 0) rfl) (nl (nN (sq (rg (qt rfl (mv (v := I z) rfl) (qt rfl (fa 0 fo63_0 rfl) (qt rfl (ld (v := Str lu) hs1 0 rfl rfl rfl one9) ?_)))))))
 refine qt rfl (lnS (l := lu) st9 rfl) (qt rfl (sub (a := z) (b := ((lu.length : Nat) : Int)) rfl rfl (by exact ⟨by omega, by omega⟩)) (qt rfl (asg (v := I (z - ((lu.length : Nat) : Int))) rfl) (nl (nN (sq (sq (rg ?_)))))))
 refine qt rfl (mv (v := I (z - ((lu.length : Nat) : Int))) rfl) (qt rfl (lss (k := .i64) (a := z - ((lu.length : Nat) : Int)) (b := 0) rfl rfl) (nl (nN ?_)))
 refine cdd (p := (z - ((lu.length : Nat) : Int)) < 0) rfl (fun h1 => ?_) (fun h1 => ?_)
 · refine sq (rg (qt rfl (asg (v := I (-1)) rfl) (nl (nN (rt (tR ?_))))))
   refine fret (v := I (-1)) (.tmp .nil) rfl ?_
   exact ⟨(-1), rfl, (by omega), (by omega), (hs1.pick [] rfl (by decide))⟩
 · refine sk (nN (sq (rg (qt rfl (mv (v := I (z - ((lu.length : Nat) : Int))) rfl) (qt rfl (fa 1 fo63_1 rfl) (qt rfl (ld (v := Str lw) hs1 0 rfl rfl rfl one9) (qt rfl (lnS (l := lw) st9 rfl) ?_)))))))
   refine qt rfl (sub (a := z - ((lu.length : Nat) : Int)) (b := ((lw.length : Nat) : Int)) rfl rfl (by exact ⟨by omega, by omega⟩)) (qt rfl (asg (v := I ((z - ((lu.length : Nat) : Int)) - ((lw.length : Nat) : Int))) rfl) (nl (nN (sq (sq (rg (qt rfl (mv (v := I ((z - ((lu.length : Nat) : Int)) - ((lw.length : Nat) : Int))) rfl) ?_)))))))
   refine qt rfl (lss (k := .i64) (a := (z - ((lu.length : Nat) : Int)) - ((lw.length : Nat) : Int)) (b := 0) rfl rfl) (nl (nN ?_))
   refine cdd (p := ((z - ((lu.length : Nat) : Int)) - ((lw.length : Nat) : Int)) < 0) rfl (fun h2 => ?_) (fun h2 => ?_)
   · refine sq (rg (qt rfl (asg (v := I (-1)) rfl) (nl (nN (rt (tR ?_))))))
     refine fret (v := I (-1)) (.tmp .nil) rfl ?_
     exact ⟨(-1), rfl, (by omega), (by omega), (hs1.pick [] rfl (by decide))⟩
   · refine sk (nN (sq (rg (qt rfl (mv (v := I ((z - ((lu.length : Nat) : Int)) - ((lw.length : Nat) : Int))) rfl) (qt rfl (asg (v := I ((z - ((lu.length : Nat) : Int)) - ((lw.length : Nat) : Int))) rfl) (nl (nN ?_)))))))
     refine rt (fret (v := I ((z - ((lu.length : Nat) : Int)) - ((lw.length : Nat) : Int))) (.tmp .nil) rfl ?_)
     exact ⟨(z - ((lu.length : Nat) : Int)) - ((lw.length : Nat) : Int), rfl, (by omega), (by omega), (hs1.pick [] rfl (by decide))⟩
theorem toLogin (lu : List UInt8) (lw : List UInt8) (w : World)  : Does Tryz.prog 85 [.agg #[Str lu, Str lw]] w (fun v w' => v = .agg #[Str lu, Str lw] ∧ SH w w' [] []) := by
 refine fn_enter (N := 11) Tryz.func85 rfl (by kernel_rfl) rfl rfl rfl ?_
 have hs0 : SH w w [] [] := SH.refl w []
 refine sq (rg (bx (v := .agg #[Str lu, Str lw]) (cs := [Str lu, Str lw]) hs0 rfl rfl trivial rfl (fun b1 w1 (hs1 : SH w w1 [] [.blk b1 63 [Str lu, Str lw]]) => ?_)))
 refine al (v := .agg #[Str [], Str []]) (cs := [Str [], Str []]) hs1 tz51 rfl trivial rfl (fun b2 w2 (hs2 : SH w w2 [] [.blk b1 63 [Str lu, Str lw], .blk b2 51 [Str [], Str []]]) => ?_)
 refine nl (nN (sq (rg (al (v := .agg #[Str [], Str []]) (cs := [Str [], Str []]) hs2 tz51 rfl trivial rfl (fun b3 w3 (hs3 : SH w w3 [] [.blk b1 63 [Str lu, Str lw], .blk b2 51 [Str [], Str []], .blk b3 51 [Str [], Str []]]) => ?_)))))
 refine nl (nN (sq (rg (qt rfl (fa 0 fo63_0 rfl) (qt rfl (ld (v := Str lu) hs3 0 rfl rfl rfl one9) (qt rfl (fa 0 fo51_0 rfl) (st (v := Str lu) hs3 2 rfl rfl rfl rfl rfl one9 trivial (fun w4 (hs4 : SH w w4 [] [.blk b1 63 [Str lu, Str lw], .blk b2 51 [Str [], Str []], .blk b3 51 [Str lu, Str []]]) => ?_))))))))
 refine nl (nN (sq (rg (qt rfl (fa 1 fo63_1 rfl) (qt rfl (ld (v := Str lw) hs4 0 rfl rfl rfl one9) (qt rfl (fa 1 fo51_1 rfl) (st (v := Str lw) hs4 2 rfl rfl rfl rfl rfl one9 trivial (fun w5 (hs5 : SH w w5 [] [.blk b1 63 [Str lu, Str lw], .blk b2 51 [Str [], Str []], .blk b3 51 [Str lu, Str lw]]) => ?_))))))))
 refine nl (nN (sq (rg (qt rfl (ldg (vs := [Str lu, Str lw]) hs5 2 rfl rfl rfl rfl ag51) (stg (vs := [Str lu, Str lw]) hs5 1 rfl rfl rfl rfl rfl rfl rfl ag51 trivial (fun w6 (hs6 : SH w w6 [] [.blk b1 63 [Str lu, Str lw], .blk b3 51 [Str lu, Str lw], .blk b2 51 [Str lu, Str lw]]) => ?_))))))
 refine nl (nN (rt (fret (v := .agg #[Str lu, Str lw]) (resC hs6 2 rfl rfl ag51 rfl .nil) rfl ?_)))
 exact ⟨rfl, (hs6.pick [] rfl (by decide))⟩
theorem eqLogin (u1 : List UInt8) (p1 : List UInt8) (u2 : List UInt8) (p2 : List UInt8) (w : World)  : Does Tryz.prog 87 [.agg #[Str u1, Str p1], .agg #[Str u2, Str p2]] w (fun v w' => v = .bool (decide (u1 = u2 ∧ p1 = p2)) ∧ SH w w' [] []) := by
 refine fn_enter (N := 15) Tryz.func87 rfl (by kernel_rfl) rfl rfl rfl ?_
 have hs0 : SH w w [] [] := SH.refl w []
 refine sq (rg (bx (v := .agg #[Str u1, Str p1]) (cs := [Str u1, Str p1]) hs0 rfl rfl trivial rfl (fun b1 w1 (hs1 : SH w w1 [] [.blk b1 51 [Str u1, Str p1]]) => ?_)))
 refine bx (v := .agg #[Str u2, Str p2]) (cs := [Str u2, Str p2]) hs1 rfl rfl trivial rfl (fun b2 w2 (hs2 : SH w w2 [] [.blk b1 51 [Str u1, Str p1], .blk b2 51 [Str u2, Str p2]]) => ?_)
 refine qt rfl (asg (v := .bool false) rfl) (nl (nN (sq (sq (rg (qt rfl (fa 0 fo51_0 rfl) (qt rfl (ld (v := Str u1) hs2 0 rfl rfl rfl one9) ?_)))))))
 refine qt rfl (fa 0 fo51_0 rfl) (qt rfl (ld (v := Str u2) hs2 1 rfl rfl rfl one9) (qt rfl (nes (l := u1) (m := u2) rfl rfl) (nl (nN ?_))))
 refine cdd (p := u1 ≠ u2) rfl (fun h1 => ?_) (fun h1 => ?_)
 · refine sq (rg (qt rfl (asg (v := .bool false) rfl) (nl (nN (rt (tR ?_))))))
   refine fret (v := .bool false) (.tmp .nil) rfl ?_
   have e1 : false = (decide (u1 = u2 ∧ p1 = p2)) := by simp [h1] <;> simp_all
   exact ⟨(congrArg (Value.bool) e1), (hs2.pick [] rfl (by decide))⟩
 · refine sk (nN (sq (sq (rg (qt rfl (fa 1 fo51_1 rfl) (qt rfl (ld (v := Str p1) hs2 0 rfl rfl rfl one9) (qt rfl (fa 1 fo51_1 rfl) ?_)))))))
   refine qt rfl (ld (v := Str p2) hs2 1 rfl rfl rfl one9) (qt rfl (nes (l := p1) (m := p2) rfl rfl) (nl (nN ?_)))
   refine cdd (p := p1 ≠ p2) rfl (fun h2 => ?_) (fun h2 => ?_)
   · refine sq (rg (qt rfl (asg (v := .bool false) rfl) (nl (nN (rt (tR ?_))))))
     refine fret (v := .bool false) (.tmp .nil) rfl ?_
     have e2 : false = (decide (u1 = u2 ∧ p1 = p2)) := by simp [h1, h2] <;> simp_all
     exact ⟨(congrArg (Value.bool) e2), (hs2.pick [] rfl (by decide))⟩
   · refine sk (nN (sq (rg (qt rfl (asg (v := .bool true) rfl) (nl (nN (rt ?_)))))))
     refine fret (v := .bool true) (.tmp .nil) rfl ?_
     have e3 : true = (decide (u1 = u2 ∧ p1 = p2)) := by simp [h1, h2] <;> simp_all
     exact ⟨(congrArg (Value.bool) e3), (hs2.pick [] rfl (by decide))⟩
theorem iTextBytes (s : List UInt8) (w : World) (hs_n : s.length ≤ 2147483648) : Does Tryz.prog 131 [Str s] w (fun v w' => ∃ Ar : Option Addr, ∃ cr : Nat, v = .slice Ar (textI s).length cr ∧ SH w w' [] [.own Ar ((textI s).length) cr 3 1 ((textI s).map I)]) := by
 refine fn_enter (N := 22) Tryz.func131 rfl (by kernel_rfl) rfl rfl rfl ?_
 have hs0 : SH w w [] [] := SH.refl w []
 refine sq (rg (qt rfl (asg (v := ns) rfl) (nl (nN (sq (rg (qt rfl (mv (v := Str s) rfl) ?_)))))))
 refine qt rfl (lnS (l := s) st9 rfl) (mkm (g := I) (z := 0) (n := s.length) hs0 sl22 rfl rfl rfl (by omega) (by unfold maxLen; omega) trivial rfl (fun b1 w1 (hs1 : SH w w1 [] [oI b1 (List.replicate s.length (0 : Int)) s.length 3]) => ?_))
 refine qt rfl (asg (v := sb b1 ((List.replicate s.length (0 : Int)).length) s.length) rfl) (nl (nN (sq (sq (rg (qt rfl (mv (v := sb b1 ((List.replicate s.length (0 : Int)).length) s.length) rfl) (qt rfl (lnA (n := (List.replicate s.length (0 : Int)).length) sl22 rfl) ?_)))))))
 refine qt rfl (mv (v := I 0) rfl) (nl (nN (bl ?_)))
 have e1 : List.replicate s.length (0 : Int) = (textI s).take 0 ++ List.replicate (s.length - 0) (0 : Int) := by simp
 have e2 : (List.replicate s.length (0 : Int)).length = s.length := by (simp; done)
 refine lp (σ := (Option Addr) × Nat × Nat) (fun ⟨Ag3, cg3, k⟩ f w' => Has f [(0, Str s), (3, .slice Ag3 s.length cg3), (9, I (((List.replicate s.length (0 : Int)).length : Nat) : Int)), (10, I ((k : Nat) : Int))] ∧ (k ≤ s.length) ∧ SH w w' [] [.own Ag3 s.length cg3 3 1 (((textI s).take k ++ List.replicate (s.length - k) (0 : Int)).map I)]) (fun ⟨Ag3, cg3, k⟩ => s.length - k) ((some ⟨b1, 0, none⟩), s.length, 0) ⟨⟨rfl, (show (.slice (some ⟨b1, 0, none⟩) ((List.replicate s.length (0 : Int)).length) s.length : Value) = .slice (some ⟨b1, 0, none⟩) s.length s.length from slv rfl e2 rfl), rfl, rfl, trivial⟩, (by simp), (hs1.cast (lc (own_eq (g := I) rfl e2 rfl e1) rfl))⟩ ?_
 rintro ⟨Ag3, cg3, k⟩ f w2 ⟨hf, hk, hs2⟩
 obtain ⟨g1, rfl⟩ := has_upd hf
 clear hf
 refine sq (rg (qt rfl (lss (k := .i64) (a := ((k : Nat) : Int)) (b := (((List.replicate s.length (0 : Int)).length : Nat) : Int)) rfl rfl) (nl (nN (sq ?_)))))
 refine cdd (p := ((k : Nat) : Int) < (((List.replicate s.length (0 : Int)).length : Nat) : Int)) rfl (fun h1 => ?_) (fun h1 => ?_)
 · refine sk (nN (sq (bl (sq (rg (qt rfl (mv (v := I ((k : Nat) : Int)) rfl) (qt rfl (asg (v := I ((k : Nat) : Int)) rfl) ?_)))))))
   refine nl (nN (rg (qt rfl (mv (v := .slice Ag3 s.length cg3) rfl) (qt rfl (mv (v := I ((k : Nat) : Int)) rfl) (qt rfl (mv (v := Str s) rfl) (qt rfl (mv (v := I ((k : Nat) : Int)) rfl) (qt rfl (ixs (l := s) k st9 rfl rfl (by omega)) ?_)))))))
   refine qt rfl (cvI (a := (((s.getD k 0).toNat : Nat) : Int)) (s := .u8) ti5 ti3 rfl (by have := u8_bd ((s.getD k 0)); exact ⟨by omega, by omega⟩)) ?_
   obtain ⟨b2, rfl⟩ := own_form hs2 0 rfl (by omega)
   refine qt rfl (ixo k sl22 rfl rfl (by omega)) (stomn (g := I) (ys := (textI s).take k ++ List.replicate (s.length - k) (0 : Int)) (o := k) (u := (((s.getD k 0).toNat : Nat) : Int)) hs2 0 rfl rfl rfl rfl (by omega) rfl one3 trivial (fun w3 (hs3 : SH w w3 [] [.own (some ⟨b2, 0, none⟩) s.length cg3 3 1 ((((textI s).take k ++ List.replicate (s.length - k) (0 : Int)).set k (((s.getD k 0).toNat : Nat) : Int)).map I)]) => ?_))
   refine nl (bN (nN (rg (qt rfl (add (a := ((k : Nat) : Int)) (b := 1) rfl rfl (by exact ⟨by omega, by omega⟩)) (qt rfl (mv (v := I (((k : Nat) : Int) + 1)) rfl) (nl (nN ?_)))))))
   have e3 : ((textI s).take k ++ List.replicate (s.length - k) (0 : Int)).set k (((s.getD k 0).toNat : Nat) : Int) = (textI s).take (k + 1) ++ List.replicate (s.length - (k + 1)) (0 : Int) := by exact textI_set (by omega)
   refine ⟨((some ⟨b2, 0, none⟩), cg3, k + 1), ⟨⟨rfl, rfl, rfl, rfl, trivial⟩, (by omega), (hs3.cast (lc (own_eq (g := I) rfl rfl rfl e3) rfl))⟩, ?_⟩
   show s.length - (k + 1) < s.length - k
   omega
 · refine ex (tE (tE (bE ?_)))
   refine nN (sq (rg (qt rfl (mv (v := .slice Ag3 s.length cg3) rfl) (qt rfl (asg (v := .slice Ag3 s.length cg3) rfl) (nl (nN (rt ?_)))))))
   refine fret (v := .slice Ag3 s.length cg3) (.tmp .nil) rfl ?_
   have e4 : (textI s).take k ++ List.replicate (s.length - k) (0 : Int) = textI s := by have : k = s.length := (by omega); subst this; rw [textI_all (Nat.le_refl _)]; simp
   have e5 : s.length = (textI s).length := by exact (show s.length = ((textI s).take k ++ List.replicate (s.length - k) (0 : Int)).length by (simp [textI_len]; omega)).trans (congrArg List.length e4)
   exact ⟨Ag3, cg3, (slv rfl e5 rfl), (hs2.cast (lc (own_eq (g := I) rfl e5 rfl e4) rfl))⟩
theorem sL1Text (s : List UInt8) (w : World) (hs_n : s.length ≤ 2147483648) : Does Tryz.prog 151 [Str s] w (fun v w' => ∃ Ar : Option Addr, ∃ cr : Nat, v = .slice Ar (textI s).length cr ∧ SH w w' [] [.own Ar ((textI s).length) cr 3 1 ((textI s).map I)]) := by
 refine fn_enter (N := 20) Tryz.func151 rfl (by kernel_rfl) rfl rfl rfl ?_
 have hs0 : SH w w [] [] := SH.refl w []
 refine sq (rg (qt rfl (asg (v := ns) rfl) (nl (nN (sq (rg (bsk hs0 sl22 [] [] trivial rfl (fun b1 w1 (hs1 : SH w w1 [] [oI b1 ([] : List Int) 0 3]) => ?_))))))))
 refine qt rfl (asg (v := sb b1 (([] : List Int).length) 0) rfl) (nl (nN (sq (sq (rg (qt rfl (asg (v := I 0) rfl) (nl ?_)))))))
 refine nN (bl ?_)
 have e1 : ([] : List Int) = (textI s).take 0 := by simp
 have e2 : ([] : List Int).length = ((textI s).take 0).length := by rw [e1]
 refine lp (σ := (Option Addr) × Nat × Nat) (fun ⟨Ag3, cg3, k⟩ f w' => Has f [(0, Str s), (3, .slice Ag3 (((textI s).take k).length) cg3), (4, I ((k : Nat) : Int))] ∧ (k ≤ s.length) ∧ SH w w' [] [.own Ag3 (((textI s).take k).length) cg3 3 1 (((textI s).take k).map I)]) (fun ⟨Ag3, cg3, k⟩ => s.length - k) ((some ⟨b1, 0, none⟩), 0, 0) ⟨⟨rfl, (show (.slice (some ⟨b1, 0, none⟩) (([] : List Int).length) 0 : Value) = .slice (some ⟨b1, 0, none⟩) (((textI s).take 0).length) 0 from slv rfl e2 rfl), rfl, trivial⟩, (by simp), (hs1.cast (lc (own_eq (g := I) rfl e2 rfl e1) rfl))⟩ ?_
 rintro ⟨Ag3, cg3, k⟩ f w2 ⟨hf, hk, hs2⟩
 obtain ⟨g1, rfl⟩ := has_upd hf
 clear hf
 refine sq (sq (rg (qt rfl (mv (v := I ((k : Nat) : Int)) rfl) (qt rfl (mv (v := Str s) rfl) (qt rfl (lnS (l := s) st9 rfl) (qt rfl (lss (k := .i64) (a := ((k : Nat) : Int)) (b := ((s.length : Nat) : Int)) rfl rfl) (nl ?_)))))))
 refine nN ?_
 refine cdd (p := ((k : Nat) : Int) < ((s.length : Nat) : Int)) rfl (fun h1 => ?_) (fun h1 => ?_)
 · refine sk (nN (sq (bl (rg (qt rfl (mv (v := .slice Ag3 (((textI s).take k).length) cg3) rfl) (qt rfl (mv (v := Str s) rfl) (qt rfl (mv (v := I ((k : Nat) : Int)) rfl) ?_)))))))
   refine qt rfl (ixs (l := s) k st9 rfl rfl (by (first | omega | (simp; done) | (simp; omega)))) (qt rfl (cvI (a := (((s.getD k 0).toNat : Nat) : Int)) (s := .u8) ti5 ti3 rfl (by have := u8_bd ((s.getD k 0)); exact ⟨by omega, by omega⟩)) (bsk hs2 sl22 [I (((s.getD k 0).toNat : Nat) : Int)] [I (((s.getD k 0).toNat : Nat) : Int)] trivial rfl (fun b2 w3 (hs3 : SH w w3 [] [.own Ag3 (((textI s).take k).length) cg3 3 1 (((textI s).take k).map I), oI b2 ([(((s.getD k 0).toNat : Nat) : Int)] : List Int) 1 3]) => ?_)))
   refine apm (g := I) (ys := (textI s).take k) (zs := ([(((s.getD k 0).toNat : Nat) : Int)] : List Int)) hs3 0 rfl sl22 rfl rfl rfl (hs3.sl0 1 rfl) (fun _ => rfl) (by unfold maxLen; have htl := textI_len s; simp only [List.length_take, List.length_cons, List.length_nil]; omega) (by have htl := textI_len s; simp only [List.length_take, List.length_cons, List.length_nil]; omega) trivial rfl (fun A1 c1 w4 (hs4 : SH w w4 [] [oI b2 ([(((s.getD k 0).toNat : Nat) : Int)] : List Int) 1 3, .own A1 ((((textI s).take k) ++ ([(((s.getD k 0).toNat : Nat) : Int)] : List Int)).length) c1 3 1 ((((textI s).take k) ++ ([(((s.getD k 0).toNat : Nat) : Int)] : List Int)).map I)]) => ?_)
   refine qt rfl (asg (v := .slice A1 ((((textI s).take k) ++ ([(((s.getD k 0).toNat : Nat) : Int)] : List Int)).length) c1) rfl) (nl (bN (nN (rg (qt rfl (mv (v := I ((k : Nat) : Int)) rfl) (qt rfl (add (a := ((k : Nat) : Int)) (b := 1) rfl rfl (by (exact ⟨by omega, by omega⟩))) (qt rfl (asg (v := I (((k : Nat) : Int) + 1)) rfl) ?_)))))))
   refine nl (nN ?_)
   have e3 : ((textI s).take k) ++ ([(((s.getD k 0).toNat : Nat) : Int)] : List Int) = (textI s).take (k + 1) := by exact textI_app (by omega)
   have e4 : (((textI s).take k) ++ ([(((s.getD k 0).toNat : Nat) : Int)] : List Int)).length = ((textI s).take (k + 1)).length := by rw [e3]
   refine ⟨(A1, c1, k + 1), ⟨⟨rfl, (show (.slice A1 ((((textI s).take k) ++ ([(((s.getD k 0).toNat : Nat) : Int)] : List Int)).length) c1 : Value) = .slice A1 (((textI s).take (k + 1)).length) c1 from slv rfl e4 rfl), rfl, trivial⟩, (by omega), ((hs4.pick [1] rfl (by decide)).cast (lc (own_eq (g := I) rfl e4 rfl e3) rfl))⟩, ?_⟩
   show s.length - (k + 1) < s.length - k
   omega
 · refine ex (tE (tE (bE ?_)))
   refine nN (sq (rg (qt rfl (mv (v := .slice Ag3 (((textI s).take k).length) cg3) rfl) (qt rfl (asg (v := .slice Ag3 (((textI s).take k).length) cg3) rfl) (nl (nN (rt ?_)))))))
   refine fret (v := .slice Ag3 (((textI s).take k).length) cg3) (.tmp .nil) rfl ?_
   have e5 : (textI s).take k = textI s := by exact textI_all (by omega)
   have e6 : ((textI s).take k).length = (textI s).length := by exact congrArg List.length e5
   exact ⟨Ag3, cg3, (slv rfl e6 rfl), (hs2.cast (lc (own_eq (g := I) rfl e6 rfl e5) rfl))⟩
theorem iNumberBytes (n : Int) (w : World) (hn : 0 ≤ n ∧ n ≤ 65535) : Does Tryz.prog 166 [I n, I 2] w (fun v w' => ∃ Ar : Option Addr, ∃ cr : Nat, v = .slice Ar (numB n).length cr ∧ SH w w' [] [.own Ar ((numB n).length) cr 3 1 ((numB n).map I)]) := by
 refine fn_enter (N := 27) Tryz.func166 rfl (by kernel_rfl) rfl rfl rfl ?_
 have hs0 : SH w w [] [] := SH.refl w []
 refine sq (rg (qt rfl (asg (v := ns) rfl) (nl (nN (sq (rg (qt rfl (mv (v := I 2) rfl) ?_)))))))
 refine mkm (g := I) (z := 0) (n := 2) hs0 sl22 rfl rfl rfl (by omega) (by unfold maxLen; omega) trivial rfl (fun b1 w1 (hs1 : SH w w1 [] [oI b1 (List.replicate 2 (0 : Int)) 2 3]) => ?_)
 refine qt rfl (asg (v := sb b1 ((List.replicate 2 (0 : Int)).length) 2) rfl) (nl (nN (sq (sq (rg (qt rfl (mv (v := sb b1 ((List.replicate 2 (0 : Int)).length) 2) rfl) (qt rfl (lnA (n := (List.replicate 2 (0 : Int)).length) sl22 rfl) ?_)))))))
 refine qt rfl (mv (v := I 0) rfl) (nl (nN (bl ?_)))
 have e1 : List.replicate 2 (0 : Int) = (numB n).take 0 ++ List.replicate (2 - 0) (0 : Int) := by simp
 have e2 : (List.replicate 2 (0 : Int)).length = 2 := by rfl
 refine lp (σ := (Option Addr) × Nat × Nat) (fun ⟨Ag5, cg5, k⟩ f w' => Has f [(0, I n), (1, I 2), (5, .slice Ag5 2 cg5), (10, I (((List.replicate 2 (0 : Int)).length : Nat) : Int)), (11, I ((k : Nat) : Int))] ∧ (k ≤ 2) ∧ SH w w' [] [.own Ag5 2 cg5 3 1 (((numB n).take k ++ List.replicate (2 - k) (0 : Int)).map I)]) (fun ⟨Ag5, cg5, k⟩ => 2 - k) ((some ⟨b1, 0, none⟩), 2, 0) ⟨⟨rfl, rfl, (show (.slice (some ⟨b1, 0, none⟩) ((List.replicate 2 (0 : Int)).length) 2 : Value) = .slice (some ⟨b1, 0, none⟩) 2 2 from slv rfl e2 rfl), rfl, rfl, trivial⟩, (by simp), (hs1.cast (lc (own_eq (g := I) rfl e2 rfl e1) rfl))⟩ ?_
 rintro ⟨Ag5, cg5, k⟩ f w2 ⟨hf, hk, hs2⟩
 obtain ⟨g1, rfl⟩ := has_upd hf
 clear hf
 refine sq (rg (qt rfl (lss (k := .i64) (a := ((k : Nat) : Int)) (b := (((List.replicate 2 (0 : Int)).length : Nat) : Int)) rfl rfl) (nl (nN (sq ?_)))))
 refine cdd (p := ((k : Nat) : Int) < (((List.replicate 2 (0 : Int)).length : Nat) : Int)) rfl (fun h1 => ?_) (fun h1 => ?_)
 · refine sk (nN (sq (bl (sq (rg (qt rfl (mv (v := I ((k : Nat) : Int)) rfl) (qt rfl (asg (v := I ((k : Nat) : Int)) rfl) ?_)))))))
   refine nl (nN (rg (qt rfl (mv (v := .slice Ag5 2 cg5) rfl) (qt rfl (mv (v := I ((k : Nat) : Int)) rfl) (qt rfl (mv (v := I n) rfl) (qt rfl (mv (v := I 2) rfl) (qt rfl (sub (a := 2) (b := 1) rfl rfl (by exact ⟨by omega, by omega⟩)) ?_)))))))
   refine qt rfl (mv (v := I ((k : Nat) : Int)) rfl) (qt rfl (sub (a := (2 : Int) - 1) (b := ((k : Nat) : Int)) rfl rfl (by exact ⟨by omega, by omega⟩)) (qt rfl (mul (a := 8) (b := ((2 : Int) - 1) - ((k : Nat) : Int)) rfl rfl (by exact ⟨by omega, by omega⟩)) (qt rfl (shr (a := n) (b := 8 * (((2 : Int) - 1) - ((k : Nat) : Int))) rfl rfl (by omega) (by omega)) (qt rfl (and255 (a := n / 2 ^ (8 * (((2 : Int) - 1) - ((k : Nat) : Int))).toNat) rfl rfl (by exact num_and hn) (by exact num_and2 hn)) ?_))))
   obtain ⟨b2, rfl⟩ := own_form hs2 0 rfl (by omega)
   refine qt rfl (ixo k sl22 rfl rfl (by omega)) (stomn (g := I) (ys := (numB n).take k ++ List.replicate (2 - k) (0 : Int)) (o := k) (u := (n / 2 ^ (8 * (((2 : Int) - 1) - ((k : Nat) : Int))).toNat) % 256) hs2 0 rfl rfl rfl rfl (by omega) rfl one3 trivial (fun w3 (hs3 : SH w w3 [] [.own (some ⟨b2, 0, none⟩) 2 cg5 3 1 ((((numB n).take k ++ List.replicate (2 - k) (0 : Int)).set k ((n / 2 ^ (8 * (((2 : Int) - 1) - ((k : Nat) : Int))).toNat) % 256)).map I)]) => ?_))
   refine nl (bN (nN (rg (qt rfl (add (a := ((k : Nat) : Int)) (b := 1) rfl rfl (by exact ⟨by omega, by omega⟩)) (qt rfl (mv (v := I (((k : Nat) : Int) + 1)) rfl) (nl (nN ?_)))))))
   have e3 : ((numB n).take k ++ List.replicate (2 - k) (0 : Int)).set k ((n / 2 ^ (8 * (((2 : Int) - 1) - ((k : Nat) : Int))).toNat) % 256) = (numB n).take (k + 1) ++ List.replicate (2 - (k + 1)) (0 : Int) := by exact numB_set (by omega)
   refine ⟨((some ⟨b2, 0, none⟩), cg5, k + 1), ⟨⟨rfl, rfl, rfl, rfl, rfl, trivial⟩, (by omega), (hs3.cast (lc (own_eq (g := I) rfl rfl rfl e3) rfl))⟩, ?_⟩
   show 2 - (k + 1) < 2 - k
   omega
 · refine ex (tE (tE (bE ?_)))
   refine nN (sq (rg (qt rfl (mv (v := .slice Ag5 2 cg5) rfl) (qt rfl (asg (v := .slice Ag5 2 cg5) rfl) (nl (nN (rt ?_)))))))
   refine fret (v := .slice Ag5 2 cg5) (.tmp .nil) rfl ?_
   have e4 : (numB n).take k ++ List.replicate (2 - k) (0 : Int) = numB n := by have : k = 2 := (by omega); subst this; simp [numB]
   have e5 : 2 = (numB n).length := by exact (show 2 = ((numB n).take k ++ List.replicate (2 - k) (0 : Int)).length by (simp [numB]; omega)).trans (congrArg List.length e4)
   exact ⟨Ag5, cg5, (slv rfl e5 rfl), (hs2.cast (lc (own_eq (g := I) rfl e5 rfl e4) rfl))⟩
theorem sL1Number (n : Int) (w : World) (hn : 0 ≤ n ∧ n ≤ 65535) : Does Tryz.prog 188 [I n, I 2] w (fun v w' => ∃ Ar : Option Addr, ∃ cr : Nat, v = .slice Ar (numB n).length cr ∧ SH w w' [] [.own Ar ((numB n).length) cr 3 1 ((numB n).map I)]) := by
 refine fn_enter (N := 23) Tryz.func188 rfl (by kernel_rfl) rfl rfl rfl ?_
 have hs0 : SH w w [] [] := SH.refl w []
 refine sq (rg (qt rfl (asg (v := ns) rfl) (nl (nN (sq (rg (qt rfl (mv (v := I 2) rfl) ?_)))))))
 refine mkm (g := I) (z := 0) (n := 2) hs0 sl22 rfl rfl rfl (by omega) (by unfold maxLen; omega) trivial rfl (fun b1 w1 (hs1 : SH w w1 [] [oI b1 (List.replicate 2 (0 : Int)) 2 3]) => ?_)
 refine qt rfl (asg (v := sb b1 ((List.replicate 2 (0 : Int)).length) 2) rfl) (nl (nN (sq (sq (rg (qt rfl (mv (v := I 2) rfl) (qt rfl (sub (a := 2) (b := 1) rfl rfl (by exact ⟨by omega, by omega⟩)) ?_)))))))
 refine qt rfl (asg (v := I ((2 : Int) - 1)) rfl) (nl (nN (bl ?_)))
 have e1 : List.replicate 2 (0 : Int) = numR n 0 := by simp [numR]
 have e2 : (List.replicate 2 (0 : Int)).length = 2 := by rfl
 refine lp (σ := (Option Addr) × Nat × Nat × Int) (fun ⟨Ag5, cg5, k, m⟩ f w' => Has f [(0, I m), (5, .slice Ag5 2 cg5), (6, I (1 - ((k : Nat) : Int)))] ∧ (k ≤ 2) ∧ (m = numM n k) ∧ (0 ≤ m ∧ m ≤ 65535) ∧ SH w w' [] [.own Ag5 2 cg5 3 1 ((numR n k).map I)]) (fun ⟨Ag5, cg5, k, m⟩ => 2 - k) ((some ⟨b1, 0, none⟩), 2, 0, n) ⟨⟨rfl, (show (.slice (some ⟨b1, 0, none⟩) ((List.replicate 2 (0 : Int)).length) 2 : Value) = .slice (some ⟨b1, 0, none⟩) 2 2 from slv rfl e2 rfl), (show (I ((2 : Int) - 1) : Value) = I (1 - ((0 : Nat) : Int)) from congrArg (Value.int .i64) (by simp)), trivial⟩, (by simp), (by simp [numM]), (hn), (hs1.cast (lc (own_eq (g := I) rfl e2 rfl e1) rfl))⟩ ?_
 rintro ⟨Ag5, cg5, k, m⟩ f w2 ⟨hf, hk, hm, hm2, hs2⟩
 obtain ⟨g1, rfl⟩ := has_upd hf
 clear hf
 refine sq (sq (rg (qt rfl (mv (v := I (1 - ((k : Nat) : Int))) rfl) (qt rfl (geq (k := .i64) (a := 1 - ((k : Nat) : Int)) (b := 0) rfl rfl) (nl (nN ?_))))))
 refine cdd (p := (0 : Int) ≤ (1 - ((k : Nat) : Int))) rfl (fun h1 => ?_) (fun h1 => ?_)
 · refine sk (nN (sq (bl (sq (rg (qt rfl (mv (v := .slice Ag5 2 cg5) rfl) (qt rfl (mv (v := I (1 - ((k : Nat) : Int))) rfl) ?_)))))))
   refine qt rfl (mv (v := I m) rfl) (qt rfl (rem (a := m) (b := 256) rfl rfl (by omega) (by omega)) ?_)
   obtain ⟨b2, rfl⟩ := own_form hs2 0 rfl (by omega)
   refine qt rfl (ixo ((1 - ((k : Nat) : Int)).toNat) sl22 rfl (ieq (x := 1 - ((k : Nat) : Int)) (by omega)) (by omega)) (stomn (g := I) (ys := numR n k) (o := (1 - ((k : Nat) : Int)).toNat) (u := m % 256) hs2 0 rfl rfl rfl rfl (by omega) rfl one3 trivial (fun w3 (hs3 : SH w w3 [] [.own (some ⟨b2, 0, none⟩) 2 cg5 3 1 (((numR n k).set ((1 - ((k : Nat) : Int)).toNat) (m % 256)).map I)]) => ?_))
   refine nl (nN (rg (qt rfl (mv (v := I m) rfl) (qt rfl (quo (a := m) (b := 256) rfl rfl (by omega) (by omega) (by omega)) (qt rfl (asg (v := I (m / 256)) rfl) (nl (bN ?_)))))))
   refine nN (rg (qt rfl (mv (v := I (1 - ((k : Nat) : Int))) rfl) (qt rfl (sub (a := 1 - ((k : Nat) : Int)) (b := 1) rfl rfl (by exact ⟨by omega, by omega⟩)) (qt rfl (asg (v := I ((1 - ((k : Nat) : Int)) - 1)) rfl) (nl (nN ?_))))))
   have e3 : (numR n k).set ((1 - ((k : Nat) : Int)).toNat) (m % 256) = numR n (k + 1) := by rw [hm]; exact numR_step (by omega) (by omega)
   refine ⟨((some ⟨b2, 0, none⟩), cg5, k + 1, m / 256), ⟨⟨rfl, rfl, (show (I ((1 - ((k : Nat) : Int)) - 1) : Value) = I (1 - (((k + 1) : Nat) : Int)) from congrArg (Value.int .i64) (by omega)), trivial⟩, (by omega), (by rw [hm]; exact numM_step (by omega)), (by omega), (hs3.cast (lc (own_eq (g := I) rfl rfl rfl e3) rfl))⟩, ?_⟩
   show 2 - (k + 1) < 2 - k
   omega
 · refine ex (tE (tE (bE ?_)))
   refine nN (sq (rg (qt rfl (mv (v := .slice Ag5 2 cg5) rfl) (qt rfl (asg (v := .slice Ag5 2 cg5) rfl) (nl (nN (rt ?_)))))))
   refine fret (v := .slice Ag5 2 cg5) (.tmp .nil) rfl ?_
   have e4 : numR n k = numB n := by have : k = 2 := (by omega); subst this; rfl
   have e5 : 2 = (numB n).length := by exact (show 2 = (numR n k).length by (have : k = 2 := (by omega); subst this; rfl)).trans (congrArg List.length e4)
   exact ⟨Ag5, cg5, (slv rfl e5 rfl), (hs2.cast (lc (own_eq (g := I) rfl e5 rfl e4) rfl))⟩
set_option maxHeartbeats 8000000 in
theorem iAddressBytes (ak : Int) {Aaq : Option Addr} {caq : Nat} (aq : List Int) (an : List UInt8) (apt : Int) (w : World) (haq : Sl w [] 1 Aaq aq.length caq (aq.map I)) (han_n : an.length ≤ 1099511627776) (hok : addrOk ak aq an apt = true) : Does Tryz.prog 132 [.agg #[I ak, .slice Aaq aq.length caq, Str an, I apt]] w (fun v w' => ∃ Ar : Option Addr, ∃ cr : Nat, v = .slice Ar (addrB ak aq an apt).length cr ∧ SH w w' [] [.own Ar ((addrB ak aq an apt).length) cr 3 1 ((addrB ak aq an apt).map I)]) := by
 refine fn_enter (N := 29) Tryz.func132 rfl (by kernel_rfl) rfl rfl rfl ?_
 have hs0 : SH w w [] [] := SH.refl w []
 have haq_m : aq.length ≤ 9223372036854775807 := Nat.le_trans haq.cap haq.capMax
 refine sq (rg (bx (v := .agg #[I ak, .slice Aaq aq.length caq, Str an, I apt]) (cs := [I ak, .slice Aaq aq.length caq, Str an, I apt]) hs0 rfl rfl trivial rfl (fun b1 w1 (hs1 : SH w w1 [] [.blk b1 43 [I ak, .slice Aaq aq.length caq, Str an, I apt]]) => ?_)))
 refine qt rfl (asg (v := ns) rfl) (nl (nN (sq (rg (qt rfl (fa 0 fo43_0 rfl) (qt rfl (ld (v := I ak) hs1 0 rfl rfl rfl one3) (bsk hs1 sl22 [I ak] [I ak] trivial rfl (fun b2 w2 (hs2 : SH w w2 [] [.blk b1 43 [I ak, .slice Aaq aq.length caq, Str an, I apt], oI b2 ([ak] : List Int) 1 3]) => ?_))))))))
 refine qt rfl (asg (v := sb b2 (([ak] : List Int).length) 1) rfl) (nl (nN (sq (sq (rg (qt rfl (fa 0 fo43_0 rfl) (qt rfl (ld (v := I ak) hs2 0 rfl rfl rfl one3) ?_)))))))
 refine qt rfl (eqi (k := .i64) (a := ak) (b := 1) rfl rfl) (nl (nN ?_))
 refine cdd (p := ak = 1) rfl (fun h1 => ?_) (fun h1 => ?_)
 · refine rg (qt rfl (mv (v := sb b2 (([ak] : List Int).length) 1) rfl) (qt rfl (fa 1 fo43_1 rfl) (qt rfl (ld (v := .slice Aaq aq.length caq) hs2 0 rfl rfl rfl one22) (apm (g := I) (ys := ([ak] : List Int)) (zs := aq) hs2 1 rfl sl22 rfl rfl rfl (haq.up0 hs2) (fun _ => rfl) (by unfold maxLen; have haf := addrOk_fit hok; have htl := textI_len an; have hnb : (numB apt).length = 2 := rfl; simp only [List.length_append, List.length_cons, List.length_nil]; omega) (by have haf := addrOk_fit hok; have htl := textI_len an; have hnb : (numB apt).length = 2 := rfl; simp only [List.length_append, List.length_cons, List.length_nil]; omega) trivial rfl (fun A1 c1 w3 (hs3 : SH w w3 [] [.blk b1 43 [I ak, .slice Aaq aq.length caq, Str an, I apt], .own A1 ((([ak] : List Int) ++ aq).length) c1 3 1 ((([ak] : List Int) ++ aq).map I)]) => ?_)))))
   refine qt rfl (asg (v := .slice A1 ((([ak] : List Int) ++ aq).length) c1) rfl) (nl (nN (sq (rg (qt rfl (mv (v := .slice A1 ((([ak] : List Int) ++ aq).length) c1) rfl) (qt rfl (fa 3 fo43_3 rfl) (qt rfl (ld (v := I apt) hs3 0 rfl rfl rfl one3) ?_)))))))
   refine cl trivial rfl (iNumberBytes (n := apt) (w := _) (hn := (by (have haf := addrOk_fit hok; have htl := textI_len an; have hnb : (numB apt).length = 2 := rfl; first | omega | assumption | (simp; done) | (simp; omega))))) ?_
   rintro _ w4 ⟨A2, c2, rfl, hs4'⟩
   have hs4 := hs3.call0 hs4'
   clear hs4'
   refine apm (g := I) (ys := ([ak] : List Int) ++ aq) (zs := numB apt) hs4 1 rfl sl22 rfl rfl rfl (hs4.sl0 2 rfl) (fun _ => rfl) (by unfold maxLen; have haf := addrOk_fit hok; have htl := textI_len an; have hnb : (numB apt).length = 2 := rfl; simp only [List.length_append, List.length_cons, List.length_nil]; omega) (by have haf := addrOk_fit hok; have htl := textI_len an; have hnb : (numB apt).length = 2 := rfl; simp only [List.length_append, List.length_cons, List.length_nil]; omega) trivial rfl (fun A3 c3 w5 (hs5 : SH w w5 [] [.blk b1 43 [I ak, .slice Aaq aq.length caq, Str an, I apt], .own A2 ((numB apt).length) c2 3 1 ((numB apt).map I), .own A3 (((([ak] : List Int) ++ aq) ++ (numB apt)).length) c3 3 1 (((([ak] : List Int) ++ aq) ++ (numB apt)).map I)]) => ?_)
   refine qt rfl (asg (v := .slice A3 (((([ak] : List Int) ++ aq) ++ (numB apt)).length) c3) rfl) (nl (nN (rt (fret (v := .slice A3 (((([ak] : List Int) ++ aq) ++ (numB apt)).length) c3) (.tmp .nil) rfl ?_))))
   have e1 : (([ak] : List Int) ++ aq) ++ (numB apt) = addrB ak aq an apt := by simp [addrB, h1]
   have e2 : ((([ak] : List Int) ++ aq) ++ (numB apt)).length = (addrB ak aq an apt).length := by exact congrArg List.length e1
   exact ⟨A3, c3, (slv rfl e2 rfl), ((hs5.pick [2] rfl (by decide)).cast (lc (own_eq (g := I) rfl e2 rfl e1) rfl))⟩
 · refine raJ (fun w' => ∃ L, SH w w' [] L ∧ (.blk b1 43 [I ak, .slice Aaq aq.length caq, Str an, I apt]) ∈ L ∧ True) (fun f w' => ∃ (b4' : Nat) (A8' : Option Addr) (c8' : Nat) (A9' : Option Addr) (c9' : Nat), Has f [(1, pB b1), (3, .slice A9' (((([ak] : List Int) ++ ([((an.length : Nat) : Int)] : List Int)) ++ (textI an)).length) c9')] ∧ SH w w' [] [.blk b1 43 [I ak, .slice Aaq aq.length caq, Str an, I apt], .own A9' (((([ak] : List Int) ++ ([((an.length : Nat) : Int)] : List Int)) ++ (textI an)).length) c9' 3 1 (((([ak] : List Int) ++ ([((an.length : Nat) : Int)] : List Int)) ++ (textI an)).map I), oI b4' ([((an.length : Nat) : Int)] : List Int) 1 3, .own A8' ((textI an).length) c8' 3 1 ((textI an).map I)]) mixed ?_ ?_
   · refine dag (fuel' := 2) (listed' := lbits 11 511) (fun f w' => ∃ (b4' : Nat) (A5' : Option Addr) (c5' : Nat) (A8' : Option Addr) (c8' : Nat), Has f [(1, pB b1), (3, sb b2 (([ak] : List Int).length) 1), (19, .slice A5' ((([ak] : List Int) ++ ([((an.length : Nat) : Int)] : List Int)).length) c5'), (22, .slice A8' ((textI an).length) c8')] ∧ SH w w' [] [.blk b1 43 [I ak, .slice Aaq aq.length caq, Str an, I apt], .own A5' ((([ak] : List Int) ++ ([((an.length : Nat) : Int)] : List Int)).length) c5' 3 1 ((([ak] : List Int) ++ ([((an.length : Nat) : Int)] : List Int)).map I), oI b4' ([((an.length : Nat) : Int)] : List Int) 1 3, .own A8' ((textI an).length) c8' 3 1 ((textI an).map I)]) ?_ (fun D_4_0 => ?_)
     · rintro f w6 ⟨b4', A5', c5', A8', c8', hf, hs6⟩
       obtain ⟨g1, rfl⟩ := has_upd hf
       clear hf
       refine aaL [9] (fa_one ?_)
       refine one_ rfl (apm (g := I) (ys := ([ak] : List Int) ++ ([((an.length : Nat) : Int)] : List Int)) (zs := textI an) hs6 1 rfl sl22 rfl rfl rfl (hs6.sl0 3 rfl) (fun _ => rfl) (by unfold maxLen; have haf := addrOk_fit hok; have htl := textI_len an; have hnb : (numB apt).length = 2 := rfl; simp only [List.length_append, List.length_cons, List.length_nil]; omega) (by have haf := addrOk_fit hok; have htl := textI_len an; have hnb : (numB apt).length = 2 := rfl; simp only [List.length_append, List.length_cons, List.length_nil]; omega) trivial rfl (fun A9' c9' w7 hs7 => ?_))
       refine nl (kq ⟨_, hs7, memi 0 rfl, trivial⟩ ?_)
       refine tk (fuel := 0) (is := [10]) (.cons rfl (.nil)) (by kernel_rfl) (by kernel_rfl) ⟨_, hs7, memi 0 rfl, trivial⟩ (.op trivial rfl rfl (fun wq _ => asg (v := .slice A9' (((([ak] : List Int) ++ ([((an.length : Nat) : Int)] : List Int)) ++ (textI an)).length) c9') rfl) (.nil (ad (by kernel_rfl) ?_)))
       exact ⟨b4', A8', c8', A9', c9', ⟨rfl, rfl, trivial⟩, (hs7.pick [0, 3, 1, 2] rfl (by decide))⟩
     refine dag (fuel' := 3) (listed' := lbits 11 255) (fun f w' => ∃ (b4' : Nat) (A5' : Option Addr) (c5' : Nat), Has f [(1, pB b1), (3, sb b2 (([ak] : List Int).length) 1), (19, .slice A5' ((([ak] : List Int) ++ ([((an.length : Nat) : Int)] : List Int)).length) c5'), (21, Str an)] ∧ SH w w' [] [.blk b1 43 [I ak, .slice Aaq aq.length caq, Str an, I apt], .own A5' ((([ak] : List Int) ++ ([((an.length : Nat) : Int)] : List Int)).length) c5' 3 1 ((([ak] : List Int) ++ ([((an.length : Nat) : Int)] : List Int)).map I), oI b4' ([((an.length : Nat) : Int)] : List Int) 1 3]) ?_ (fun D_4_1 => ?_)
     · rintro f w8 ⟨b4', A5', c5', hf, hs8⟩
       obtain ⟨g2, rfl⟩ := has_upd hf
       clear hf
       refine aaL [8] (fa_one ?_)
       refine one_ rfl (cl trivial rfl (iTextBytes (s := an) (w := _) (hs_n := (by (have haf := addrOk_fit hok; have htl := textI_len an; have hnb : (numB apt).length = 2 := rfl; first | omega | (simp; done) | (simp; omega))))) ?_)
       rintro _ w9 ⟨A8', c8', rfl, hs9'⟩
       have hs9 := hs8.call0 hs9'
       clear hs9'
       exact nl (kq ⟨_, hs9, memi 0 rfl, trivial⟩ (alc D_4_0 ⟨b4', A5', c5', A8', c8', ⟨rfl, rfl, rfl, rfl, trivial⟩, hs9⟩))
     refine dag (fuel' := 4) (listed' := lbits 11 223) (fun f w' => ∃ (b4' : Nat), Has f [(1, pB b1), (3, sb b2 (([ak] : List Int).length) 1), (14, sb b2 (([ak] : List Int).length) 1), (18, sb b4' (([((an.length : Nat) : Int)] : List Int).length) 1), (21, Str an)] ∧ SH w w' [] [.blk b1 43 [I ak, .slice Aaq aq.length caq, Str an, I apt], oI b2 ([ak] : List Int) 1 3, oI b4' ([((an.length : Nat) : Int)] : List Int) 1 3]) ?_ (fun D_4_2 => ?_)
     · rintro f w10 ⟨b4', hf, hs10⟩
       obtain ⟨g3, rfl⟩ := has_upd hf
       clear hf
       refine aaL [5] (fa_one ?_)
       refine one_ rfl (apm (g := I) (ys := ([ak] : List Int)) (zs := ([((an.length : Nat) : Int)] : List Int)) hs10 1 rfl sl22 rfl rfl rfl (hs10.sl0 2 rfl) (fun _ => rfl) (by unfold maxLen; have haf := addrOk_fit hok; have htl := textI_len an; have hnb : (numB apt).length = 2 := rfl; simp only [List.length_append, List.length_cons, List.length_nil]; omega) (by have haf := addrOk_fit hok; have htl := textI_len an; have hnb : (numB apt).length = 2 := rfl; simp only [List.length_append, List.length_cons, List.length_nil]; omega) trivial rfl (fun A5' c5' w11 hs11 => ?_))
       exact nl (kq ⟨_, hs11, memi 0 rfl, trivial⟩ (alc D_4_1 ⟨b4', A5', c5', ⟨rfl, rfl, rfl, rfl, trivial⟩, (hs11.pick [0, 2, 1] rfl (by decide))⟩))
     refine dag (fuel' := 5) (listed' := lbits 11 207) (fun f w' => Has f [(1, pB b1), (3, sb b2 (([ak] : List Int).length) 1), (14, sb b2 (([ak] : List Int).length) 1), (17, I ((an.length : Nat) : Int)), (21, Str an)] ∧ SH w w' [] [.blk b1 43 [I ak, .slice Aaq aq.length caq, Str an, I apt], oI b2 ([ak] : List Int) 1 3]) ?_ (fun D_4_3 => ?_)
     · rintro f w12 ⟨hf, hs12⟩
       obtain ⟨g4, rfl⟩ := has_upd hf
       clear hf
       refine aaL [4] (fa_one ?_)
       refine one_ rfl (bsk hs12 sl22 [I ((an.length : Nat) : Int)] [I ((an.length : Nat) : Int)] trivial rfl (fun b4' w13 hs13 => ?_))
       exact nl (kq ⟨_, hs13, memi 0 rfl, trivial⟩ (alc D_4_2 ⟨b4', ⟨rfl, rfl, rfl, rfl, rfl, trivial⟩, hs13⟩))
     have hs14 := hs2.drew
     refine tk (fuel := 5) (is := [0, 1, 2, 3, 6, 7]) (.cons rfl (.cons rfl (.cons rfl (.cons rfl (.cons rfl (.cons rfl (.nil))))))) (by kernel_rfl) (by kernel_rfl) ⟨_, hs14, memi 0 rfl, trivial⟩ (.op trivial rfl rfl (fun wq _ => mv (v := sb b2 (([ak] : List Int).length) 1) rfl) (.op trivial rfl rfl (fun wq _ => fa 2 fo43_2 rfl) (.op trivial rfl rfl (fun wq ⟨Lq, hsq, mh0, _⟩ => ldm (v := Str an) hsq mh0 rfl rfl one9) (.op trivial rfl rfl (fun wq _ => lnS (l := an) st9 rfl) (.op trivial rfl rfl (fun wq _ => fa 2 fo43_2 rfl) (.op trivial rfl rfl (fun wq ⟨Lq, hsq, mh0, _⟩ => ldm (v := Str an) hsq mh0 rfl rfl one9) (.nil ?_)))))))
     exact alc D_4_3 ⟨⟨rfl, rfl, rfl, rfl, rfl, trivial⟩, hs14⟩
   rintro f w14 ⟨b4', A8', c8', A9', c9', hf, hs15⟩
   obtain ⟨g5, rfl⟩ := has_upd hf
   clear hf
   refine nN ?_
   have hs16 : SH w w14 [] [.blk b1 43 [I ak, .slice Aaq aq.length caq, Str an, I apt], .own A9' (((([ak] : List Int) ++ ([((an.length : Nat) : Int)] : List Int)) ++ (textI an)).length) c9' 3 1 (((([ak] : List Int) ++ ([((an.length : Nat) : Int)] : List Int)) ++ (textI an)).map I)] := hs15.pick [0, 1] rfl (by decide)
   refine sq (rg (qt rfl (mv (v := .slice A9' (((([ak] : List Int) ++ ([((an.length : Nat) : Int)] : List Int)) ++ (textI an)).length) c9') rfl) (qt rfl (fa 3 fo43_3 rfl) (qt rfl (ld (v := I apt) hs16 0 rfl rfl rfl one3) (cl trivial rfl (iNumberBytes (n := apt) (w := _) (hn := (by (have haf := addrOk_fit hok; have htl := textI_len an; have hnb : (numB apt).length = 2 := rfl; first | omega | assumption | (simp; done) | (simp; omega))))) ?_)))))
   rintro _ w15 ⟨A4, c4, rfl, hs17'⟩
   have hs17 := hs16.call0 hs17'
   clear hs17'
   refine apm (g := I) (ys := (([ak] : List Int) ++ ([((an.length : Nat) : Int)] : List Int)) ++ (textI an)) (zs := numB apt) hs17 1 rfl sl22 rfl rfl rfl (hs17.sl0 2 rfl) (fun _ => rfl) (by unfold maxLen; have haf := addrOk_fit hok; have htl := textI_len an; have hnb : (numB apt).length = 2 := rfl; simp only [List.length_append, List.length_cons, List.length_nil]; omega) (by have haf := addrOk_fit hok; have htl := textI_len an; have hnb : (numB apt).length = 2 := rfl; simp only [List.length_append, List.length_cons, List.length_nil]; omega) trivial rfl (fun A5 c5 w16 (hs18 : SH w w16 [] [.blk b1 43 [I ak, .slice Aaq aq.length caq, Str an, I apt], .own A4 ((numB apt).length) c4 3 1 ((numB apt).map I), .own A5 ((((([ak] : List Int) ++ ([((an.length : Nat) : Int)] : List Int)) ++ (textI an)) ++ (numB apt)).length) c5 3 1 ((((([ak] : List Int) ++ ([((an.length : Nat) : Int)] : List Int)) ++ (textI an)) ++ (numB apt)).map I)]) => ?_)
   refine qt rfl (asg (v := .slice A5 ((((([ak] : List Int) ++ ([((an.length : Nat) : Int)] : List Int)) ++ (textI an)) ++ (numB apt)).length) c5) rfl) (nl (nN (rt (fret (v := .slice A5 ((((([ak] : List Int) ++ ([((an.length : Nat) : Int)] : List Int)) ++ (textI an)) ++ (numB apt)).length) c5) (.tmp .nil) rfl ?_))))
   have e3 : ((([ak] : List Int) ++ ([((an.length : Nat) : Int)] : List Int)) ++ (textI an)) ++ (numB apt) = addrB ak aq an apt := by simp [addrB, h1]
   have e4 : (((([ak] : List Int) ++ ([((an.length : Nat) : Int)] : List Int)) ++ (textI an)) ++ (numB apt)).length = (addrB ak aq an apt).length := by exact congrArg List.length e3
   exact ⟨A5, c5, (slv rfl e4 rfl), ((hs18.pick [2] rfl (by decide)).cast (lc (own_eq (g := I) rfl e4 rfl e3) rfl))⟩
set_option maxHeartbeats 8000000 in
theorem sL3Bytes (ak : Int) {Aaq : Option Addr} {caq : Nat} (aq : List Int) (an : List UInt8) (apt : Int) (w : World) (haq : Sl w [] 1 Aaq aq.length caq (aq.map I)) (han_n : an.length ≤ 1099511627776) (hok : addrOk ak aq an apt = true) : Does Tryz.prog 171 [.agg #[I ak, .slice Aaq aq.length caq, Str an, I apt]] w (fun v w' => ∃ Ar : Option Addr, ∃ cr : Nat, v = .slice Ar (addrB ak aq an apt).length cr ∧ SH w w' [] [.own Ar ((addrB ak aq an apt).length) cr 3 1 ((addrB ak aq an apt).map I)]) := by
 refine fn_enter (N := 30) Tryz.func171 rfl (by kernel_rfl) rfl rfl rfl ?_
 have hs0 : SH w w [] [] := SH.refl w []
 have haq_m : aq.length ≤ 9223372036854775807 := Nat.le_trans haq.cap haq.capMax
 refine sq (rg (bx (v := .agg #[I ak, .slice Aaq aq.length caq, Str an, I apt]) (cs := [I ak, .slice Aaq aq.length caq, Str an, I apt]) hs0 rfl rfl trivial rfl (fun b1 w1 (hs1 : SH w w1 [] [.blk b1 43 [I ak, .slice Aaq aq.length caq, Str an, I apt]]) => ?_)))
 refine qt rfl (asg (v := ns) rfl) (nl (nN (sq (rg (qt rfl (fa 0 fo43_0 rfl) (qt rfl (ld (v := I ak) hs1 0 rfl rfl rfl one3) (bsk hs1 sl22 [I ak] [I ak] trivial rfl (fun b2 w2 (hs2 : SH w w2 [] [.blk b1 43 [I ak, .slice Aaq aq.length caq, Str an, I apt], oI b2 ([ak] : List Int) 1 3]) => ?_))))))))
 refine qt rfl (asg (v := sb b2 (([ak] : List Int).length) 1) rfl) (nl (nN (sq (sq (rg (qt rfl (fa 0 fo43_0 rfl) (qt rfl (ld (v := I ak) hs2 0 rfl rfl rfl one3) ?_)))))))
 refine qt rfl (eqi (k := .i64) (a := ak) (b := 1) rfl rfl) (nl (nN ?_))
 refine cdd (p := ak = 1) rfl (fun h1 => ?_) (fun h1 => ?_)
 · refine rg (qt rfl (mv (v := sb b2 (([ak] : List Int).length) 1) rfl) (qt rfl (fa 1 fo43_1 rfl) (qt rfl (ld (v := .slice Aaq aq.length caq) hs2 0 rfl rfl rfl one22) (apm (g := I) (ys := ([ak] : List Int)) (zs := aq) hs2 1 rfl sl22 rfl rfl rfl (haq.up0 hs2) (fun _ => rfl) (by unfold maxLen; have haf := addrOk_fit hok; have htl := textI_len an; have hnb : (numB apt).length = 2 := rfl; simp only [List.length_append, List.length_cons, List.length_nil]; omega) (by have haf := addrOk_fit hok; have htl := textI_len an; have hnb : (numB apt).length = 2 := rfl; simp only [List.length_append, List.length_cons, List.length_nil]; omega) trivial rfl (fun A1 c1 w3 (hs3 : SH w w3 [] [.blk b1 43 [I ak, .slice Aaq aq.length caq, Str an, I apt], .own A1 ((([ak] : List Int) ++ aq).length) c1 3 1 ((([ak] : List Int) ++ aq).map I)]) => ?_)))))
   refine qt rfl (asg (v := .slice A1 ((([ak] : List Int) ++ aq).length) c1) rfl) (nl (nN (sq (rg (qt rfl (mv (v := .slice A1 ((([ak] : List Int) ++ aq).length) c1) rfl) (qt rfl (fa 3 fo43_3 rfl) (qt rfl (ld (v := I apt) hs3 0 rfl rfl rfl one3) ?_)))))))
   refine cl trivial rfl (sL1Number (n := apt) (w := _) (hn := (by (have haf := addrOk_fit hok; have htl := textI_len an; have hnb : (numB apt).length = 2 := rfl; first | omega | assumption | (simp; done) | (simp; omega))))) ?_
   rintro _ w4 ⟨A2, c2, rfl, hs4'⟩
   have hs4 := hs3.call0 hs4'
   clear hs4'
   refine apm (g := I) (ys := ([ak] : List Int) ++ aq) (zs := numB apt) hs4 1 rfl sl22 rfl rfl rfl (hs4.sl0 2 rfl) (fun _ => rfl) (by unfold maxLen; have haf := addrOk_fit hok; have htl := textI_len an; have hnb : (numB apt).length = 2 := rfl; simp only [List.length_append, List.length_cons, List.length_nil]; omega) (by have haf := addrOk_fit hok; have htl := textI_len an; have hnb : (numB apt).length = 2 := rfl; simp only [List.length_append, List.length_cons, List.length_nil]; omega) trivial rfl (fun A3 c3 w5 (hs5 : SH w w5 [] [.blk b1 43 [I ak, .slice Aaq aq.length caq, Str an, I apt], .own A2 ((numB apt).length) c2 3 1 ((numB apt).map I), .own A3 (((([ak] : List Int) ++ aq) ++ (numB apt)).length) c3 3 1 (((([ak] : List Int) ++ aq) ++ (numB apt)).map I)]) => ?_)
   refine qt rfl (asg (v := .slice A3 (((([ak] : List Int) ++ aq) ++ (numB apt)).length) c3) rfl) (nl (nN (rt (fret (v := .slice A3 (((([ak] : List Int) ++ aq) ++ (numB apt)).length) c3) (.tmp .nil) rfl ?_))))
   have e1 : (([ak] : List Int) ++ aq) ++ (numB apt) = addrB ak aq an apt := by simp [addrB, h1]
   have e2 : ((([ak] : List Int) ++ aq) ++ (numB apt)).length = (addrB ak aq an apt).length := by exact congrArg List.length e1
   exact ⟨A3, c3, (slv rfl e2 rfl), ((hs5.pick [2] rfl (by decide)).cast (lc (own_eq (g := I) rfl e2 rfl e1) rfl))⟩
 · refine sq (rg (qt rfl (mv (v := sb b2 (([ak] : List Int).length) 1) rfl) (qt rfl (fa 2 fo43_2 rfl) (qt rfl (ld (v := Str an) hs2 0 rfl rfl rfl one9) (qt rfl (lnS (l := an) st9 rfl) (bsk hs2 sl22 [I ((an.length : Nat) : Int)] [I ((an.length : Nat) : Int)] trivial rfl (fun b3 w6 (hs6 : SH w w6 [] [.blk b1 43 [I ak, .slice Aaq aq.length caq, Str an, I apt], oI b2 ([ak] : List Int) 1 3, oI b3 ([((an.length : Nat) : Int)] : List Int) 1 3]) => ?_)))))))
   refine apm (g := I) (ys := ([ak] : List Int)) (zs := ([((an.length : Nat) : Int)] : List Int)) hs6 1 rfl sl22 rfl rfl rfl (hs6.sl0 2 rfl) (fun _ => rfl) (by unfold maxLen; have haf := addrOk_fit hok; have htl := textI_len an; have hnb : (numB apt).length = 2 := rfl; simp only [List.length_append, List.length_cons, List.length_nil]; omega) (by have haf := addrOk_fit hok; have htl := textI_len an; have hnb : (numB apt).length = 2 := rfl; simp only [List.length_append, List.length_cons, List.length_nil]; omega) trivial rfl (fun A4 c4 w7 (hs7 : SH w w7 [] [.blk b1 43 [I ak, .slice Aaq aq.length caq, Str an, I apt], oI b3 ([((an.length : Nat) : Int)] : List Int) 1 3, .own A4 ((([ak] : List Int) ++ ([((an.length : Nat) : Int)] : List Int)).length) c4 3 1 ((([ak] : List Int) ++ ([((an.length : Nat) : Int)] : List Int)).map I)]) => ?_)
   refine qt rfl (asg (v := .slice A4 ((([ak] : List Int) ++ ([((an.length : Nat) : Int)] : List Int)).length) c4) rfl) (nl (nN (rg (qt rfl (mv (v := .slice A4 ((([ak] : List Int) ++ ([((an.length : Nat) : Int)] : List Int)).length) c4) rfl) (qt rfl (fa 2 fo43_2 rfl) (qt rfl (ld (v := Str an) hs7 0 rfl rfl rfl one9) (cl trivial rfl (sL1Text (s := an) (w := _) (hs_n := (by (have haf := addrOk_fit hok; have htl := textI_len an; have hnb : (numB apt).length = 2 := rfl; first | omega | (simp; done) | (simp; omega))))) ?_)))))))
   rintro _ w8 ⟨A5, c5, rfl, hs8'⟩
   have hs8 := hs7.call0 hs8'
   clear hs8'
   refine apm (g := I) (ys := ([ak] : List Int) ++ ([((an.length : Nat) : Int)] : List Int)) (zs := textI an) hs8 2 rfl sl22 rfl rfl rfl (hs8.sl0 3 rfl) (fun _ => rfl) (by unfold maxLen; have haf := addrOk_fit hok; have htl := textI_len an; have hnb : (numB apt).length = 2 := rfl; simp only [List.length_append, List.length_cons, List.length_nil]; omega) (by have haf := addrOk_fit hok; have htl := textI_len an; have hnb : (numB apt).length = 2 := rfl; simp only [List.length_append, List.length_cons, List.length_nil]; omega) trivial rfl (fun A6 c6 w9 (hs9 : SH w w9 [] [.blk b1 43 [I ak, .slice Aaq aq.length caq, Str an, I apt], oI b3 ([((an.length : Nat) : Int)] : List Int) 1 3, .own A5 ((textI an).length) c5 3 1 ((textI an).map I), .own A6 (((([ak] : List Int) ++ ([((an.length : Nat) : Int)] : List Int)) ++ (textI an)).length) c6 3 1 (((([ak] : List Int) ++ ([((an.length : Nat) : Int)] : List Int)) ++ (textI an)).map I)]) => ?_)
   refine qt rfl (asg (v := .slice A6 (((([ak] : List Int) ++ ([((an.length : Nat) : Int)] : List Int)) ++ (textI an)).length) c6) rfl) (nl (nN ?_))
   have hs10 : SH w w9 [] [.blk b1 43 [I ak, .slice Aaq aq.length caq, Str an, I apt], .own A6 (((([ak] : List Int) ++ ([((an.length : Nat) : Int)] : List Int)) ++ (textI an)).length) c6 3 1 (((([ak] : List Int) ++ ([((an.length : Nat) : Int)] : List Int)) ++ (textI an)).map I)] := hs9.pick [0, 3] rfl (by decide)
   refine sq (rg (qt rfl (mv (v := .slice A6 (((([ak] : List Int) ++ ([((an.length : Nat) : Int)] : List Int)) ++ (textI an)).length) c6) rfl) (qt rfl (fa 3 fo43_3 rfl) (qt rfl (ld (v := I apt) hs10 0 rfl rfl rfl one3) (cl trivial rfl (sL1Number (n := apt) (w := _) (hn := (by (have haf := addrOk_fit hok; have htl := textI_len an; have hnb : (numB apt).length = 2 := rfl; first | omega | assumption | (simp; done) | (simp; omega))))) ?_)))))
   rintro _ w10 ⟨A7, c7, rfl, hs11'⟩
   have hs11 := hs10.call0 hs11'
   clear hs11'
   refine apm (g := I) (ys := (([ak] : List Int) ++ ([((an.length : Nat) : Int)] : List Int)) ++ (textI an)) (zs := numB apt) hs11 1 rfl sl22 rfl rfl rfl (hs11.sl0 2 rfl) (fun _ => rfl) (by unfold maxLen; have haf := addrOk_fit hok; have htl := textI_len an; have hnb : (numB apt).length = 2 := rfl; simp only [List.length_append, List.length_cons, List.length_nil]; omega) (by have haf := addrOk_fit hok; have htl := textI_len an; have hnb : (numB apt).length = 2 := rfl; simp only [List.length_append, List.length_cons, List.length_nil]; omega) trivial rfl (fun A8 c8 w11 (hs12 : SH w w11 [] [.blk b1 43 [I ak, .slice Aaq aq.length caq, Str an, I apt], .own A7 ((numB apt).length) c7 3 1 ((numB apt).map I), .own A8 ((((([ak] : List Int) ++ ([((an.length : Nat) : Int)] : List Int)) ++ (textI an)) ++ (numB apt)).length) c8 3 1 ((((([ak] : List Int) ++ ([((an.length : Nat) : Int)] : List Int)) ++ (textI an)) ++ (numB apt)).map I)]) => ?_)
   refine qt rfl (asg (v := .slice A8 ((((([ak] : List Int) ++ ([((an.length : Nat) : Int)] : List Int)) ++ (textI an)) ++ (numB apt)).length) c8) rfl) (nl (nN (rt (fret (v := .slice A8 ((((([ak] : List Int) ++ ([((an.length : Nat) : Int)] : List Int)) ++ (textI an)) ++ (numB apt)).length) c8) (.tmp .nil) rfl ?_))))
   have e3 : ((([ak] : List Int) ++ ([((an.length : Nat) : Int)] : List Int)) ++ (textI an)) ++ (numB apt) = addrB ak aq an apt := by simp [addrB, h1]
   have e4 : (((([ak] : List Int) ++ ([((an.length : Nat) : Int)] : List Int)) ++ (textI an)) ++ (numB apt)).length = (addrB ak aq an apt).length := by exact congrArg List.length e3
   exact ⟨A8, c8, (slv rfl e4 rfl), ((hs12.pick [2] rfl (by decide)).cast (lc (own_eq (g := I) rfl e4 rfl e3) rfl))⟩
set_option maxHeartbeats 8000000 in
theorem sL12Bytes (n : Int) (ak : Int) {Aaq : Option Addr} {caq : Nat} (aq : List Int) (an : List UInt8) (apt : Int) (w : World) (haq : Sl w [] 1 Aaq aq.length caq (aq.map I)) (han_n : an.length ≤ 1099511627776) (hok : addrOk ak aq an apt = true) : Does Tryz.prog 146 [I n, .agg #[I ak, .slice Aaq aq.length caq, Str an, I apt]] w (fun v w' => ∃ Ar : Option Addr, ∃ cr : Nat, v = .slice Ar ([5, n, 0] ++ addrB ak aq an apt).length cr ∧ SH w w' [] [.own Ar (([5, n, 0] ++ addrB ak aq an apt).length) cr 3 1 (([5, n, 0] ++ addrB ak aq an apt).map I)]) := by
 refine fn_enter (N := 10) Tryz.func146 rfl (by kernel_rfl) rfl rfl rfl ?_
 have hs0 : SH w w [] [] := SH.refl w []
 have haq_m : aq.length ≤ 9223372036854775807 := Nat.le_trans haq.cap haq.capMax
 refine sq (rg (bx (v := .agg #[I ak, .slice Aaq aq.length caq, Str an, I apt]) (cs := [I ak, .slice Aaq aq.length caq, Str an, I apt]) hs0 rfl rfl trivial rfl (fun b1 w1 (hs1 : SH w w1 [] [.blk b1 43 [I ak, .slice Aaq aq.length caq, Str an, I apt]]) => ?_)))
 refine qt rfl (asg (v := ns) rfl) (nl (nN (sq (rg (qt rfl (mv (v := I n) rfl) (bsk hs1 sl22 [I 5, I n, I 0] [I 5, I n, I 0] trivial rfl (fun b2 w2 (hs2 : SH w w2 [] [.blk b1 43 [I ak, .slice Aaq aq.length caq, Str an, I apt], oI b2 ([5, n, 0] : List Int) 3 3]) => ?_)))))))
 refine qt rfl (ldg (vs := [I ak, .slice Aaq aq.length caq, Str an, I apt]) hs2 0 rfl rfl rfl rfl ag43) (cl trivial rfl (sL3Bytes (ak := ak) (Aaq := Aaq) (caq := caq) (aq := aq) (an := an) (apt := apt) (w := _) (haq := (haq.up0 hs2)) (han_n := (by omega)) (hok := (by omega))) ?_)
 rintro _ w3 ⟨A1, c1, rfl, hs3'⟩
 have hs3 := hs2.call0 hs3'
 clear hs3'
 refine apm (g := I) (ys := ([5, n, 0] : List Int)) (zs := addrB ak aq an apt) hs3 1 rfl sl22 rfl rfl rfl (hs3.sl0 2 rfl) (fun _ => rfl) (by unfold maxLen; have hbl := addrB_len hok; simp only [List.length_append, List.length_cons, List.length_nil]; omega) (by have hbl := addrB_len hok; simp only [List.length_append, List.length_cons, List.length_nil]; omega) trivial rfl (fun A2 c2 w4 (hs4 : SH w w4 [] [.blk b1 43 [I ak, .slice Aaq aq.length caq, Str an, I apt], .own A1 ((addrB ak aq an apt).length) c1 3 1 ((addrB ak aq an apt).map I), .own A2 ((([5, n, 0] : List Int) ++ (addrB ak aq an apt)).length) c2 3 1 ((([5, n, 0] : List Int) ++ (addrB ak aq an apt)).map I)]) => ?_)
 refine qt rfl (asg (v := .slice A2 ((([5, n, 0] : List Int) ++ (addrB ak aq an apt)).length) c2) rfl) (nl (nN (rt (fret (v := .slice A2 ((([5, n, 0] : List Int) ++ (addrB ak aq an apt)).length) c2) (.tmp .nil) rfl ?_))))
 have e1 : ([5, n, 0] : List Int) ++ (addrB ak aq an apt) = [5, n, 0] ++ addrB ak aq an apt := by rfl
 have e2 : (([5, n, 0] : List Int) ++ (addrB ak aq an apt)).length = ([5, n, 0] ++ addrB ak aq an apt).length := by exact congrArg List.length e1
 exact ⟨A2, c2, (slv rfl e2 rfl), ((hs4.pick [2] rfl (by decide)).cast (lc (own_eq (g := I) rfl e2 rfl e1) rfl))⟩
theorem iIsRequest (n : Int) (ak : Int) {Aaq : Option Addr} {caq : Nat} (aq : List Int) (an : List UInt8) (apt : Int) (w : World) (haq : Sl w [] 1 Aaq aq.length caq (aq.map I)) (han_n : an.length ≤ 1099511627776) : Does Tryz.prog 61 [.agg #[I n, I ak, .slice Aaq aq.length caq, Str an, I apt]] w (fun v w' => v = .bool (reqOk n ak aq an apt) ∧ SH w w' [] []) := by
 refine fn_enter (N := 11) Tryz.func61 rfl (by kernel_rfl) rfl rfl rfl ?_
 have hs0 : SH w w [] [] := SH.refl w []
 have haq_m : aq.length ≤ 9223372036854775807 := Nat.le_trans haq.cap haq.capMax
 refine sq (rg (bx (v := .agg #[I n, I ak, .slice Aaq aq.length caq, Str an, I apt]) (cs := [I n, I ak, .slice Aaq aq.length caq, Str an, I apt]) hs0 rfl rfl trivial rfl (fun b1 w1 (hs1 : SH w w1 [] [.blk b1 45 [I n, I ak, .slice Aaq aq.length caq, Str an, I apt]]) => ?_)))
 refine qt rfl (asg (v := .bool false) rfl) (nl (nN (sq (rg (qt rfl (fa 0 fo45_0 rfl) (qt rfl (ld (v := I n) hs1 0 rfl rfl rfl one3) (cl trivial rfl (iWithin (x := n) (lo := 1) (hi := 3) (w := _)) ?_)))))))
 rintro _ w2 ⟨rfl, hs2'⟩
 have hs2 := hs1.call0 hs2'
 clear hs2'
 refine qt rfl (mv (v := .bool (decide (1 ≤ n ∧ n ≤ 3))) rfl) ?_
 refine spd (p := 1 ≤ n ∧ n ≤ 3) 6 rfl (fun h1 => ?_) (fun h1 => ?_)
 · refine q ⟨_, rfl, rfl⟩ rfl rfl (fa 1 fo45_1 rfl) (q ⟨_, rfl, rfl⟩ rfl rfl (ldg (vs := [I ak, .slice Aaq aq.length caq, Str an, I apt]) hs2 0 rfl rfl rfl rfl ag43) (cl ⟨_, rfl, rfl⟩ rfl (iAddressValid (ak := ak) (Aaq := Aaq) (caq := caq) (aq := aq) (an := an) (apt := apt) (w := _) (haq := (haq.up0 hs2)) (han_n := (by omega))) ?_))
   rintro _ w3 ⟨rfl, hs3'⟩
   have hs3 := hs2.call0 hs3'
   clear hs3'
   refine qt rfl (pt (v := .bool (addrOk ak aq an apt)) rfl rfl) (qt rfl (asg (v := .bool (addrOk ak aq an apt)) rfl) (nl (nN (rt (fret (v := .bool (addrOk ak aq an apt)) (.tmp .nil) rfl ?_)))))
   have e1 : (addrOk ak aq an apt) = reqOk n ak aq an apt := by simp [reqOk, h1]
   exact ⟨(congrArg (Value.bool) e1), (hs3.pick [] rfl (by decide))⟩
 · refine gk false rfl rfl rfl rfl rfl (gk false rfl rfl rfl rfl rfl (gk false rfl rfl rfl rfl rfl (qt rfl (pf (v := .bool false) rfl rfl) (qt rfl (asg (v := .bool false) rfl) (nl (nN (rt ?_)))))))
   refine fret (v := .bool false) (.tmp .nil) rfl ?_
   have e2 : false = reqOk n ak aq an apt := by simp [reqOk, h1]
   exact ⟨(congrArg (Value.bool) e2), (hs2.pick [] rfl (by decide))⟩
theorem stItoa (n : Int) (w : World) (hn : -9223372036854775808 ≤ n ∧ n ≤ 9223372036854775807) (hGp : VarP Tryz.prog w [] "internal/strconv.uint64pow10" isPow) : Does Tryz.prog 125 [I n] w (fun v w' => v = Str (Lib.itoa n) ∧ SH w w' [] []) := by
  exact does_grow ⟨_, _, Tryz.func125, by kernel_rfl, rfl⟩ rfl (Tryz.strconv_Itoa n hn.1 hn.2 w hGp.tab)
theorem stJoin {bxs : Nat} {cxs : Nat} (xs : List (List UInt8)) (m : List UInt8) (w : World) (hxs : Sl w [] 1 (some ⟨bxs, 0, none⟩) xs.length cxs (xs.map Str)) (hxs_n : xs.length ≤ 1099511627776) (hl : (Lib.join xs m).length ≤ 140737488355328) : Does Tryz.prog 178 [sb bxs xs.length cxs, Str m] w (fun v w' => v = Str (Lib.join xs m) ∧ SH w w' [] []) := by
  exact does_join ⟨_, _, Tryz.func178, by kernel_rfl, rfl⟩ Tryz.strings_Join_none Tryz.strings_Join hxs hxs_n hl
set_option maxHeartbeats 8000000 in
theorem l6DecStep (n : Int) (w : World) (hn : 0 ≤ n ∧ n ≤ 9223372036854775807) (ih : ∀ (m : Int) (w : World), 0 ≤ m → m < n → Does Tryz.prog 148 [I m] w (fun v w' => v = Str (Lib.itoa m) ∧ SH w w' [] [])) : Does Tryz.prog 148 [I n] w (fun v w' => v = Str (Lib.itoa n) ∧ SH w w' [] []) := by
 refine fn_enter (N := 28) Tryz.func148 rfl (by kernel_rfl) rfl rfl rfl ?_
 have hs0 : SH w w [] [] := SH.refl w []
 refine sq (rg (qt rfl (asg (v := Str []) rfl) (nl (nN (sq (sq (rg ?_)))))))
 refine qt rfl (mv (v := I n) rfl) (qt rfl (lss (k := .i64) (a := n) (b := (-9223372036854775807)) rfl rfl) (nl (nN ?_)))
 refine cdd (p := n < (-9223372036854775807)) rfl (fun h1 => absurd h1 (by omega)) (fun h1 => ?_)
 refine sk (nN (sq (sq (rg (qt rfl (mv (v := I n) rfl) (qt rfl (lss (k := .i64) (a := n) (b := 0) rfl rfl) (nl ?_)))))))
 refine nN ?_
 refine cdd (p := n < 0) rfl (fun h2 => absurd h2 (by omega)) (fun h2 => ?_)
 refine sk (nN (sq (sq (rg (qt rfl (mv (v := I n) rfl) (qt rfl (lss (k := .i64) (a := n) (b := 10) rfl rfl) (nl ?_)))))))
 refine nN ?_
 refine cdd (p := n < 10) rfl (fun h3 => ?_) (fun h3 => ?_)
 · refine sq (rg (qt rfl (mv (v := I n) rfl) (qt rfl (add (a := 48) (b := n) rfl rfl (by (exact ⟨by omega, by omega⟩))) (qt rfl (cvB (a := 48 + n) (s := .i64) ti3 ti5 rfl (by (omega)) (by (omega))) (bsk hs0 sl39 [.int .u8 (((UInt8.ofNat (48 + n).toNat).toNat : Nat) : Int)] [.int .u8 (((UInt8.ofNat (48 + n).toNat).toNat : Nat) : Int)] trivial rfl (fun b1 w1 (hs1 : SH w w1 [] [.own (some ⟨b1, 0, none⟩) (([(UInt8.ofNat (48 + n).toNat)] : List UInt8).length) 1 5 1 (([(UInt8.ofNat (48 + n).toNat)] : List UInt8).map U)]) => ?_))))))
   refine qt rfl (cvS (l := ([(UInt8.ofNat (48 + n).toNat)] : List UInt8)) us39 ti5 st9 rfl (hs1.sl0 0 rfl)) (qt rfl (asg (v := Str ([(UInt8.ofNat (48 + n).toNat)] : List UInt8)) rfl) (nl (nN (rt (tR ?_)))))
   refine fret (v := Str ([(UInt8.ofNat (48 + n).toNat)] : List UInt8)) (.tmp .nil) rfl ?_
   have e1 : ([(UInt8.ofNat (48 + n).toNat)] : List UInt8) = Lib.itoa n := by exact decDigits_small (by omega) (by omega)
   exact ⟨(congrArg (Str) e1), (hs1.pick [] rfl (by decide))⟩
 · refine sk (nN (sq ?_))
   refine raJ (fun w' => ∃ L, SH w w' [] L ∧ True) (fun f w' => ∃ (b7' : Nat), Has f [(2, Str ((Lib.itoa (n / 10)) ++ ([(UInt8.ofNat (48 + (n % 10)).toNat)] : List UInt8)))] ∧ SH w w' [] [.own (some ⟨b7', 0, none⟩) (([(UInt8.ofNat (48 + (n % 10)).toNat)] : List UInt8).length) 1 5 1 (([(UInt8.ofNat (48 + (n % 10)).toNat)] : List UInt8).map U)]) mixed ?_ ?_
   · refine dag (fuel' := 3) (listed' := lbits 11 255) (fun f w' => ∃ (b7' : Nat), Has f [(2, Str []), (20, Str (Lib.itoa (n / 10))), (25, sb b7' (([(UInt8.ofNat (48 + (n % 10)).toNat)] : List UInt8).length) 1)] ∧ SH w w' [] [.own (some ⟨b7', 0, none⟩) (([(UInt8.ofNat (48 + (n % 10)).toNat)] : List UInt8).length) 1 5 1 (([(UInt8.ofNat (48 + (n % 10)).toNat)] : List UInt8).map U)]) ?_ (fun D_7_0 => ?_)
     · rintro f w2 ⟨b7', hf, hs2⟩
       obtain ⟨g1, rfl⟩ := has_upd hf
       clear hf
       refine aaL [8] (fa_one ?_)
       refine one_ rfl (qt rfl (cvS (l := ([(UInt8.ofNat (48 + (n % 10)).toNat)] : List UInt8)) us39 ti5 st9 rfl (hs2.sl0 0 rfl)) (nl (kq ⟨_, hs2, trivial⟩ ?_)))
       refine tk (fuel := 0) (is := [9, 10]) (.cons rfl (.cons rfl (.nil))) (by kernel_rfl) (by kernel_rfl) ⟨_, hs2, trivial⟩ (.op trivial rfl rfl (fun wq _ => cat (l := Lib.itoa (n / 10)) (m := ([(UInt8.ofNat (48 + (n % 10)).toNat)] : List UInt8)) rfl rfl (by (have hdl := Lib.itoa_length_le (n / 10) (by omega) (by omega); first | omega | (simp; done) | (simp; omega)))) (.op trivial rfl rfl (fun wq _ => asg (v := Str ((Lib.itoa (n / 10)) ++ ([(UInt8.ofNat (48 + (n % 10)).toNat)] : List UInt8))) rfl) (.nil (ad (by kernel_rfl) ?_))))
       exact ⟨b7', ⟨rfl, trivial⟩, hs2⟩
     refine dag (fuel' := 3) (listed' := lbits 11 507) (fun f w' => ∃ (b7' : Nat), Has f [(2, Str []), (19, I (n / 10)), (26, Str ([(UInt8.ofNat (48 + (n % 10)).toNat)] : List UInt8))] ∧ SH w w' [] [.own (some ⟨b7', 0, none⟩) (([(UInt8.ofNat (48 + (n % 10)).toNat)] : List UInt8).length) 1 5 1 (([(UInt8.ofNat (48 + (n % 10)).toNat)] : List UInt8).map U)]) ?_ (fun D_7_1 => ?_)
     · rintro f w3 ⟨b7', hf, hs3⟩
       obtain ⟨g2, rfl⟩ := has_upd hf
       clear hf
       refine aaL [2] (fa_one ?_)
       refine one_ rfl (cl trivial rfl (ih (n / 10) _ (by (omega)) (by (omega))) ?_)
       rintro _ w4 ⟨rfl, hs4'⟩
       have hs4 := hs3.call0 hs4'
       clear hs4'
       refine nl (kq ⟨_, hs4, trivial⟩ ?_)
       refine tk (fuel := 0) (is := [9, 10]) (.cons rfl (.cons rfl (.nil))) (by kernel_rfl) (by kernel_rfl) ⟨_, hs4, trivial⟩ (.op trivial rfl rfl (fun wq _ => cat (l := Lib.itoa (n / 10)) (m := ([(UInt8.ofNat (48 + (n % 10)).toNat)] : List UInt8)) rfl rfl (by (have hdl := Lib.itoa_length_le (n / 10) (by omega) (by omega); first | omega | (simp; done) | (simp; omega)))) (.op trivial rfl rfl (fun wq _ => asg (v := Str ((Lib.itoa (n / 10)) ++ ([(UInt8.ofNat (48 + (n % 10)).toNat)] : List UInt8))) rfl) (.nil (ad (by kernel_rfl) ?_))))
       exact ⟨b7', ⟨rfl, trivial⟩, hs4⟩
     refine dag (fuel' := 4) (listed' := lbits 11 127) (fun f w' => Has f [(2, Str []), (20, Str (Lib.itoa (n / 10))), (24, .int .u8 (((UInt8.ofNat (48 + (n % 10)).toNat).toNat : Nat) : Int))] ∧ SH w w' [] []) ?_ (fun D_7_2 => ?_)
     · rintro f w5 ⟨hf, hs5⟩
       obtain ⟨g3, rfl⟩ := has_upd hf
       clear hf
       refine aaL [7] (fa_one ?_)
       refine one_ rfl (bsk hs5 sl39 [.int .u8 (((UInt8.ofNat (48 + (n % 10)).toNat).toNat : Nat) : Int)] [.int .u8 (((UInt8.ofNat (48 + (n % 10)).toNat).toNat : Nat) : Int)] trivial rfl (fun b7' w6 hs6 => ?_))
       exact nl (kq ⟨_, hs6, trivial⟩ (alc D_7_0 ⟨b7', ⟨rfl, rfl, rfl, trivial⟩, hs6⟩))
     refine dag (fuel' := 4) (listed' := lbits 11 251) (fun f w' => ∃ (b7' : Nat), Has f [(2, Str []), (19, I (n / 10)), (25, sb b7' (([(UInt8.ofNat (48 + (n % 10)).toNat)] : List UInt8).length) 1)] ∧ SH w w' [] [.own (some ⟨b7', 0, none⟩) (([(UInt8.ofNat (48 + (n % 10)).toNat)] : List UInt8).length) 1 5 1 (([(UInt8.ofNat (48 + (n % 10)).toNat)] : List UInt8).map U)]) ?_ (fun D_7_3 => ?_)
     · rintro f w7 ⟨b7', hf, hs7⟩
       obtain ⟨g4, rfl⟩ := has_upd hf
       clear hf
       refine aaL [2, 8] (fa_cons ?_ (fa_one ?_))
       · refine one_ rfl (cl trivial rfl (ih (n / 10) _ (by (omega)) (by (omega))) ?_)
         rintro _ w8 ⟨rfl, hs8'⟩
         have hs8 := hs7.call0 hs8'
         clear hs8'
         exact nl (kq ⟨_, hs8, trivial⟩ (alc D_7_0 ⟨b7', ⟨rfl, rfl, rfl, trivial⟩, hs8⟩))
       · refine one_ rfl (qt rfl (cvS (l := ([(UInt8.ofNat (48 + (n % 10)).toNat)] : List UInt8)) us39 ti5 st9 rfl (hs7.sl0 0 rfl)) ?_)
         exact nl (kq ⟨_, hs7, trivial⟩ (alc D_7_1 ⟨b7', ⟨rfl, rfl, rfl, trivial⟩, hs7⟩))
     refine dag (fuel' := 5) (listed' := lbits 11 123) (fun f w' => Has f [(2, Str []), (19, I (n / 10)), (24, .int .u8 (((UInt8.ofNat (48 + (n % 10)).toNat).toNat : Nat) : Int))] ∧ SH w w' [] []) ?_ (fun D_7_4 => ?_)
     · rintro f w9 ⟨hf, hs9⟩
       obtain ⟨g5, rfl⟩ := has_upd hf
       clear hf
       refine aaL [2, 7] (fa_cons ?_ (fa_one ?_))
       · refine one_ rfl (cl trivial rfl (ih (n / 10) _ (by (omega)) (by (omega))) ?_)
         rintro _ w10 ⟨rfl, hs10'⟩
         have hs10 := hs9.call0 hs10'
         clear hs10'
         exact nl (kq ⟨_, hs10, trivial⟩ (alc D_7_2 ⟨⟨rfl, rfl, rfl, trivial⟩, hs10⟩))
       · refine one_ rfl (bsk hs9 sl39 [.int .u8 (((UInt8.ofNat (48 + (n % 10)).toNat).toNat : Nat) : Int)] [.int .u8 (((UInt8.ofNat (48 + (n % 10)).toNat).toNat : Nat) : Int)] trivial rfl (fun b7' w11 hs11 => ?_))
         exact nl (kq ⟨_, hs11, trivial⟩ (alc D_7_3 ⟨b7', ⟨rfl, rfl, rfl, trivial⟩, hs11⟩))
     have hs12 := hs0.drew
     refine tk (fuel := 5) (is := [0, 1, 3, 4, 5, 6]) (.cons rfl (.cons rfl (.cons rfl (.cons rfl (.cons rfl (.cons rfl (.nil))))))) (by kernel_rfl) (by kernel_rfl) ⟨_, hs12, trivial⟩ (.op trivial rfl rfl (fun wq _ => mv (v := I n) rfl) (.op trivial rfl rfl (fun wq _ => quo (a := n) (b := 10) rfl rfl (by (omega)) (by (omega)) (by (omega))) (.op trivial rfl rfl (fun wq _ => mv (v := I n) rfl) (.op trivial rfl rfl (fun wq _ => rem (a := n) (b := 10) rfl rfl (by (omega)) (by (omega))) (.op trivial rfl rfl (fun wq _ => add (a := 48) (b := n % 10) rfl rfl (by (exact ⟨by omega, by omega⟩))) (.op trivial rfl rfl (fun wq _ => cvB (a := 48 + (n % 10)) (s := .i64) ti3 ti5 rfl (by (omega)) (by (omega))) (.nil ?_)))))))
     exact alc D_7_4 ⟨⟨rfl, rfl, rfl, trivial⟩, hs12⟩
   rintro f w12 ⟨b7', hf, hs13⟩
   obtain ⟨g6, rfl⟩ := has_upd hf
   clear hf
   refine nN (rt (fret (v := Str ((Lib.itoa (n / 10)) ++ ([(UInt8.ofNat (48 + (n % 10)).toNat)] : List UInt8))) (.tmp .nil) rfl ?_))
   have e2 : (Lib.itoa (n / 10)) ++ ([(UInt8.ofNat (48 + (n % 10)).toNat)] : List UInt8) = Lib.itoa n := by exact decDigits_big (by omega)
   exact ⟨(congrArg (Str) e2), (hs13.pick [] rfl (by decide))⟩
theorem l6Dec (n : Int) (w : World) (hn : 0 ≤ n ∧ n ≤ 9223372036854775807) : Does Tryz.prog 148 [I n] w (fun v w' => v = Str (Lib.itoa n) ∧ SH w w' [] []) := by
  have key : ∀ (j : Nat) (n : Int) (w : World), n.toNat = j → 0 ≤ n → n ≤ 9223372036854775807 → Does Tryz.prog 148 [I n] w (fun v w' => v = Str (Lib.itoa n) ∧ SH w w' [] []) := by
    intro j
    induction j using Nat.strongRecOn with
    | _ j ih =>
      intro n w hj h0 h1
      exact l6DecStep n w ⟨h0, h1⟩ (fun m w hm0 hmn => ih m.toNat (by omega) m w rfl hm0 (by omega))
  exact key _ n w rfl hn.1 hn.2
theorem iQuadText {Aqs : Option Addr} {cqs : Nat} (qs : List Int) (w : World) (hqs : Sl w [] 1 Aqs qs.length cqs (qs.map I)) (hq : quadOk qs = true) (hGp : VarP Tryz.prog w [] "internal/strconv.uint64pow10" isPow) : Does Tryz.prog 157 [.slice Aqs qs.length cqs] w (fun v w' => v = Str (quadT qs) ∧ SH w w' [] []) := by
 refine fn_enter (N := 24) Tryz.func157 rfl (by kernel_rfl) rfl rfl rfl ?_
 have hs0 : SH w w [] [] := SH.refl w []
 have hqs_m : qs.length ≤ 9223372036854775807 := Nat.le_trans hqs.cap hqs.capMax
 refine sq (rg (qt rfl (asg (v := Str []) rfl) (nl (nN (sq (rg (qt rfl (mv (v := .slice Aqs qs.length cqs) rfl) ?_)))))))
 refine qt rfl (lnA (n := qs.length) sl22 rfl) (mkm (g := Str) (z := []) (n := qs.length) hs0 sl147 rfl rfl rfl (by (have hq4 := quadOk_len hq; omega)) (by unfold maxLen; (omega)) trivial rfl (fun b1 w1 (hs1 : SH w w1 [] [.own (some ⟨b1, 0, none⟩) ((List.replicate qs.length ([] : List UInt8)).length) qs.length 9 1 ((List.replicate qs.length ([] : List UInt8)).map Str)]) => ?_))
 refine qt rfl (asg (v := sb b1 ((List.replicate qs.length ([] : List UInt8)).length) qs.length) rfl) (nl (nN (sq (sq (rg (qt rfl (mv (v := .slice Aqs qs.length cqs) rfl) (qt rfl (lnA (n := qs.length) sl22 rfl) ?_)))))))
 refine qt rfl (mv (v := I 0) rfl) (nl (nN (bl ?_)))
 have e1 : List.replicate qs.length ([] : List UInt8) = (qs.map Lib.itoa).take 0 ++ List.replicate (qs.length - 0) ([] : List UInt8) := by simp
 have e2 : (List.replicate qs.length ([] : List UInt8)).length = qs.length := by (first | rfl | (simp; done) | (simp; omega) | omega)
 refine lp (σ := Nat) (fun (k : Nat) f w' => Has f [(3, sb b1 qs.length qs.length), (9, .slice Aqs qs.length cqs), (10, I ((qs.length : Nat) : Int)), (11, I ((k : Nat) : Int))] ∧ (k ≤ qs.length) ∧ SH w w' [] [.own (some ⟨b1, 0, none⟩) qs.length qs.length 9 1 (((qs.map Lib.itoa).take k ++ List.replicate (qs.length - k) ([] : List UInt8)).map Str)]) (fun k => qs.length - k) 0 ⟨⟨(show (.slice (some ⟨b1, 0, none⟩) ((List.replicate qs.length ([] : List UInt8)).length) qs.length : Value) = .slice (some ⟨b1, 0, none⟩) qs.length qs.length from slv rfl e2 rfl), rfl, rfl, rfl, trivial⟩, (by simp), (hs1.cast (lc (own_eq (g := Str) rfl e2 rfl e1) rfl))⟩ ?_
 rintro k f w2 ⟨hf, hk, hs2⟩
 obtain ⟨g1, rfl⟩ := has_upd hf
 clear hf
 refine sq (rg (qt rfl (lss (k := .i64) (a := ((k : Nat) : Int)) (b := ((qs.length : Nat) : Int)) rfl rfl) (nl (nN (sq ?_)))))
 refine cdd (p := ((k : Nat) : Int) < ((qs.length : Nat) : Int)) rfl (fun h1 => ?_) (fun h1 => ?_)
 · refine sk (nN (sq (bl (sq (rg (qt rfl (mv (v := I ((k : Nat) : Int)) rfl) (ixw1 k sl22 rfl rfl hqs (by (first | omega | (simp; done) | (simp; omega))) (getm I 0 (by (first | omega | (simp; done) | (simp; omega)))) trivial rfl (fun a1 ha1 => ?_))))))))
   refine qt rfl (lda (v := I (qs.getD k 0)) hs2 ha1 (fun _ h => h) rfl rfl one3) (qt rfl (asg (v := I ((k : Nat) : Int)) rfl) (qt rfl (asg (v := I (qs.getD k 0)) rfl) (nl (nN (rg (qt rfl (mv (v := sb b1 qs.length qs.length) rfl) (qt rfl (mv (v := I ((k : Nat) : Int)) rfl) ?_)))))))
   refine qt rfl (mv (v := I (qs.getD k 0)) rfl) (cl trivial rfl (stItoa (n := qs.getD k 0) (w := _) (hn := (by have hy := quad_get hq (k := k) (by omega); omega)) (hGp := (hGp.up0 hs2))) ?_)
   rintro _ w3 ⟨rfl, hs3'⟩
   have hs3 := hs2.call0 hs3'
   clear hs3'
   refine qt rfl (ixo k sl147 rfl rfl (by (first | omega | (simp; done) | (simp; omega)))) (stomn (g := Str) (ys := (qs.map Lib.itoa).take k ++ List.replicate (qs.length - k) ([] : List UInt8)) (o := k) (u := Lib.itoa (qs.getD k 0)) hs3 0 rfl rfl rfl rfl (by (first | omega | (simp; done) | (simp; omega))) rfl one9 trivial (fun w4 (hs4 : SH w w4 [] [.own (some ⟨b1, 0, none⟩) qs.length qs.length 9 1 ((((qs.map Lib.itoa).take k ++ List.replicate (qs.length - k) ([] : List UInt8)).set k (Lib.itoa (qs.getD k 0))).map Str)]) => ?_))
   refine nl (bN (nN (rg (qt rfl (add (a := ((k : Nat) : Int)) (b := 1) rfl rfl (by (exact ⟨by omega, by omega⟩))) (qt rfl (mv (v := I (((k : Nat) : Int) + 1)) rfl) (nl (nN ?_)))))))
   have e3 : ((qs.map Lib.itoa).take k ++ List.replicate (qs.length - k) ([] : List UInt8)).set k (Lib.itoa (qs.getD k 0)) = (qs.map Lib.itoa).take (k + 1) ++ List.replicate (qs.length - (k + 1)) ([] : List UInt8) := by exact quad_set (by omega)
   refine ⟨(k + 1), ⟨⟨rfl, rfl, rfl, rfl, trivial⟩, (by omega), (hs4.cast (lc (own_eq (g := Str) rfl rfl rfl e3) rfl))⟩, ?_⟩
   omega
 · refine ex (tE (tE (bE ?_)))
   refine nN (sq (rg (qt rfl (mv (v := sb b1 qs.length qs.length) rfl) ?_)))
   have e4 : qs.length = ((qs.map Lib.itoa).take k ++ List.replicate (qs.length - k) ([] : List UInt8)).length := by (simp; omega)
   have hs5 : SH w w2 [] [.own (some ⟨b1, 0, none⟩) (((qs.map Lib.itoa).take k ++ List.replicate (qs.length - k) ([] : List UInt8)).length) qs.length 9 1 (((qs.map Lib.itoa).take k ++ List.replicate (qs.length - k) ([] : List UInt8)).map Str)] := (hs2.cast (lc (own_eq (g := Str) rfl e4 rfl rfl) rfl))
   refine cl trivial rfl (Does.castA (lc (slv rfl e4.symm rfl) (lc rfl rfl)) (stJoin (bxs := b1) (cxs := qs.length) (xs := (qs.map Lib.itoa).take k ++ List.replicate (qs.length - k) ([] : List UInt8)) (m := [46]) (w := _) (hxs := (hs5.sl0 0 rfl)) (hxs_n := (by (have hq4 := quadOk_len hq; first | omega | (simp; done) | (simp; omega)))) (hl := (by rw [quad_whole (by omega)]; exact Nat.le_trans (quadT_len hq) (by decide : 87 ≤ 140737488355328))))) ?_
   rintro _ w5 ⟨rfl, hs6'⟩
   have hs6 := hs5.call0 hs6'
   clear hs6'
   refine qt rfl (asg (v := Str (Lib.join ((qs.map Lib.itoa).take k ++ List.replicate (qs.length - k) ([] : List UInt8)) [46])) rfl) (nl (nN (rt (fret (v := Str (Lib.join ((qs.map Lib.itoa).take k ++ List.replicate (qs.length - k) ([] : List UInt8)) [46])) (.tmp .nil) rfl ?_))))
   have e5 : Lib.join ((qs.map Lib.itoa).take k ++ List.replicate (qs.length - k) ([] : List UInt8)) [46] = quadT qs := by rw [quad_whole (by omega)]; rfl
   exact ⟨(congrArg (Str) e5), (hs6.pick [] rfl (by decide))⟩
theorem sL2Quad {Aqs : Option Addr} {cqs : Nat} (qs : List Int) (w : World) (hqs : Sl w [] 1 Aqs qs.length cqs (qs.map I)) (hq : quadOk qs = true) : Does Tryz.prog 172 [.slice Aqs qs.length cqs] w (fun v w' => v = Str (quadT qs) ∧ SH w w' [] []) := by
 refine fn_enter (N := 25) Tryz.func172 rfl (by kernel_rfl) rfl rfl rfl ?_
 have hs0 : SH w w [] [] := SH.refl w []
 have hqs_m : qs.length ≤ 9223372036854775807 := Nat.le_trans hqs.cap hqs.capMax
 refine sq (rg (qt rfl (asg (v := Str []) rfl) (nl (nN (sq (rq (fun w' => SH w w' [] []) mixed (by kernel_rfl) hs0.drew (qq trivial rfl rfl (fun wq hsq => mv (v := .slice Aqs qs.length cqs) rfl) ?_)))))))
 refine ixq1 0 sl22 rfl rfl hqs (by (have hq4 := quadOk_len hq; have g0 := itoa_b (quad_get hq (k := 0) (by omega)); have g1 := itoa_b (quad_get hq (k := 1) (by omega)); have g2 := itoa_b (quad_get hq (k := 2) (by omega)); have g3 := itoa_b (quad_get hq (k := 3) (by omega)); first | omega | (simp; done) | (simp; omega))) (getm I 0 (by (have hq4 := quadOk_len hq; have g0 := itoa_b (quad_get hq (k := 0) (by omega)); have g1 := itoa_b (quad_get hq (k := 1) (by omega)); have g2 := itoa_b (quad_get hq (k := 2) (by omega)); have g3 := itoa_b (quad_get hq (k := 3) (by omega)); first | omega | (simp; done) | (simp; omega)))) trivial rfl (fun a1 ha1 => ?_)
 refine qq trivial rfl rfl (fun wq hsq => lda (v := I (qs.getD 0 0)) hsq ha1 (fun _ h => h) rfl rfl one3) (qc (Str (Lib.itoa (qs.getD 0 0))) trivial rfl (fun wq hsq => (l6Dec (n := qs.getD 0 0) (w := _) (hn := (by have hq4 := quadOk_len hq; have g0 := quad_get hq (k := 0) (by omega); have g1 := quad_get hq (k := 1) (by omega); have g2 := quad_get hq (k := 2) (by omega); have g3 := quad_get hq (k := 3) (by omega); omega))).mono (fun v w' h => ⟨h.1, by simpa using hsq.call0 h.2⟩)) (qq trivial rfl rfl (fun wq hsq => cat (l := Lib.itoa (qs.getD 0 0)) (m := [46]) rfl rfl (by have hq4 := quadOk_len hq; have g0 := itoa_b (quad_get hq (k := 0) (by omega)); have g1 := itoa_b (quad_get hq (k := 1) (by omega)); have g2 := itoa_b (quad_get hq (k := 2) (by omega)); have g3 := itoa_b (quad_get hq (k := 3) (by omega)); simp only [List.length_append, List.length_cons, List.length_nil]; omega)) (qq trivial rfl rfl (fun wq hsq => mv (v := .slice Aqs qs.length cqs) rfl) (ixq1 1 sl22 rfl rfl hqs (by (have hq4 := quadOk_len hq; have g0 := itoa_b (quad_get hq (k := 0) (by omega)); have g1 := itoa_b (quad_get hq (k := 1) (by omega)); have g2 := itoa_b (quad_get hq (k := 2) (by omega)); have g3 := itoa_b (quad_get hq (k := 3) (by omega)); first | omega | (simp; done) | (simp; omega))) (getm I 0 (by (have hq4 := quadOk_len hq; have g0 := itoa_b (quad_get hq (k := 0) (by omega)); have g1 := itoa_b (quad_get hq (k := 1) (by omega)); have g2 := itoa_b (quad_get hq (k := 2) (by omega)); have g3 := itoa_b (quad_get hq (k := 3) (by omega)); first | omega | (simp; done) | (simp; omega)))) trivial rfl (fun a2 ha2 => ?_)))))
 refine qq trivial rfl rfl (fun wq hsq => lda (v := I (qs.getD 1 0)) hsq ha2 (fun _ h => h) rfl rfl one3) (qc (Str (Lib.itoa (qs.getD 1 0))) trivial rfl (fun wq hsq => (l6Dec (n := qs.getD 1 0) (w := _) (hn := (by have hq4 := quadOk_len hq; have g0 := quad_get hq (k := 0) (by omega); have g1 := quad_get hq (k := 1) (by omega); have g2 := quad_get hq (k := 2) (by omega); have g3 := quad_get hq (k := 3) (by omega); omega))).mono (fun v w' h => ⟨h.1, by simpa using hsq.call0 h.2⟩)) (qq trivial rfl rfl (fun wq hsq => cat (l := (Lib.itoa (qs.getD 0 0)) ++ [46]) (m := Lib.itoa (qs.getD 1 0)) rfl rfl (by have hq4 := quadOk_len hq; have g0 := itoa_b (quad_get hq (k := 0) (by omega)); have g1 := itoa_b (quad_get hq (k := 1) (by omega)); have g2 := itoa_b (quad_get hq (k := 2) (by omega)); have g3 := itoa_b (quad_get hq (k := 3) (by omega)); simp only [List.length_append, List.length_cons, List.length_nil]; omega)) (qq trivial rfl rfl (fun wq hsq => cat (l := ((Lib.itoa (qs.getD 0 0)) ++ [46]) ++ (Lib.itoa (qs.getD 1 0))) (m := [46]) rfl rfl (by have hq4 := quadOk_len hq; have g0 := itoa_b (quad_get hq (k := 0) (by omega)); have g1 := itoa_b (quad_get hq (k := 1) (by omega)); have g2 := itoa_b (quad_get hq (k := 2) (by omega)); have g3 := itoa_b (quad_get hq (k := 3) (by omega)); simp only [List.length_append, List.length_cons, List.length_nil]; omega)) (qq trivial rfl rfl (fun wq hsq => mv (v := .slice Aqs qs.length cqs) rfl) (ixq1 2 sl22 rfl rfl hqs (by (have hq4 := quadOk_len hq; have g0 := itoa_b (quad_get hq (k := 0) (by omega)); have g1 := itoa_b (quad_get hq (k := 1) (by omega)); have g2 := itoa_b (quad_get hq (k := 2) (by omega)); have g3 := itoa_b (quad_get hq (k := 3) (by omega)); first | omega | (simp; done) | (simp; omega))) (getm I 0 (by (have hq4 := quadOk_len hq; have g0 := itoa_b (quad_get hq (k := 0) (by omega)); have g1 := itoa_b (quad_get hq (k := 1) (by omega)); have g2 := itoa_b (quad_get hq (k := 2) (by omega)); have g3 := itoa_b (quad_get hq (k := 3) (by omega)); first | omega | (simp; done) | (simp; omega)))) trivial rfl (fun a3 ha3 => ?_))))))
 refine qq trivial rfl rfl (fun wq hsq => lda (v := I (qs.getD 2 0)) hsq ha3 (fun _ h => h) rfl rfl one3) (qc (Str (Lib.itoa (qs.getD 2 0))) trivial rfl (fun wq hsq => (l6Dec (n := qs.getD 2 0) (w := _) (hn := (by have hq4 := quadOk_len hq; have g0 := quad_get hq (k := 0) (by omega); have g1 := quad_get hq (k := 1) (by omega); have g2 := quad_get hq (k := 2) (by omega); have g3 := quad_get hq (k := 3) (by omega); omega))).mono (fun v w' h => ⟨h.1, by simpa using hsq.call0 h.2⟩)) (qq trivial rfl rfl (fun wq hsq => cat (l := (((Lib.itoa (qs.getD 0 0)) ++ [46]) ++ (Lib.itoa (qs.getD 1 0))) ++ [46]) (m := Lib.itoa (qs.getD 2 0)) rfl rfl (by have hq4 := quadOk_len hq; have g0 := itoa_b (quad_get hq (k := 0) (by omega)); have g1 := itoa_b (quad_get hq (k := 1) (by omega)); have g2 := itoa_b (quad_get hq (k := 2) (by omega)); have g3 := itoa_b (quad_get hq (k := 3) (by omega)); simp only [List.length_append, List.length_cons, List.length_nil]; omega)) (qq trivial rfl rfl (fun wq hsq => cat (l := ((((Lib.itoa (qs.getD 0 0)) ++ [46]) ++ (Lib.itoa (qs.getD 1 0))) ++ [46]) ++ (Lib.itoa (qs.getD 2 0))) (m := [46]) rfl rfl (by have hq4 := quadOk_len hq; have g0 := itoa_b (quad_get hq (k := 0) (by omega)); have g1 := itoa_b (quad_get hq (k := 1) (by omega)); have g2 := itoa_b (quad_get hq (k := 2) (by omega)); have g3 := itoa_b (quad_get hq (k := 3) (by omega)); simp only [List.length_append, List.length_cons, List.length_nil]; omega)) (qq trivial rfl rfl (fun wq hsq => mv (v := .slice Aqs qs.length cqs) rfl) (ixq1 3 sl22 rfl rfl hqs (by (have hq4 := quadOk_len hq; have g0 := itoa_b (quad_get hq (k := 0) (by omega)); have g1 := itoa_b (quad_get hq (k := 1) (by omega)); have g2 := itoa_b (quad_get hq (k := 2) (by omega)); have g3 := itoa_b (quad_get hq (k := 3) (by omega)); first | omega | (simp; done) | (simp; omega))) (getm I 0 (by (have hq4 := quadOk_len hq; have g0 := itoa_b (quad_get hq (k := 0) (by omega)); have g1 := itoa_b (quad_get hq (k := 1) (by omega)); have g2 := itoa_b (quad_get hq (k := 2) (by omega)); have g3 := itoa_b (quad_get hq (k := 3) (by omega)); first | omega | (simp; done) | (simp; omega)))) trivial rfl (fun a4 ha4 => ?_))))))
 refine qq trivial rfl rfl (fun wq hsq => lda (v := I (qs.getD 3 0)) hsq ha4 (fun _ h => h) rfl rfl one3) (qc (Str (Lib.itoa (qs.getD 3 0))) trivial rfl (fun wq hsq => (l6Dec (n := qs.getD 3 0) (w := _) (hn := (by have hq4 := quadOk_len hq; have g0 := quad_get hq (k := 0) (by omega); have g1 := quad_get hq (k := 1) (by omega); have g2 := quad_get hq (k := 2) (by omega); have g3 := quad_get hq (k := 3) (by omega); omega))).mono (fun v w' h => ⟨h.1, by simpa using hsq.call0 h.2⟩)) (qq trivial rfl rfl (fun wq hsq => cat (l := (((((Lib.itoa (qs.getD 0 0)) ++ [46]) ++ (Lib.itoa (qs.getD 1 0))) ++ [46]) ++ (Lib.itoa (qs.getD 2 0))) ++ [46]) (m := Lib.itoa (qs.getD 3 0)) rfl rfl (by have hq4 := quadOk_len hq; have g0 := itoa_b (quad_get hq (k := 0) (by omega)); have g1 := itoa_b (quad_get hq (k := 1) (by omega)); have g2 := itoa_b (quad_get hq (k := 2) (by omega)); have g3 := itoa_b (quad_get hq (k := 3) (by omega)); simp only [List.length_append, List.length_cons, List.length_nil]; omega)) (qq trivial rfl rfl (fun wq hsq => asg (v := Str (((((((Lib.itoa (qs.getD 0 0)) ++ [46]) ++ (Lib.itoa (qs.getD 1 0))) ++ [46]) ++ (Lib.itoa (qs.getD 2 0))) ++ [46]) ++ (Lib.itoa (qs.getD 3 0)))) rfl) (qn (fun w1 hs1 => ?_)))))
 refine nN (rt (fret (v := Str (((((((Lib.itoa (qs.getD 0 0)) ++ [46]) ++ (Lib.itoa (qs.getD 1 0))) ++ [46]) ++ (Lib.itoa (qs.getD 2 0))) ++ [46]) ++ (Lib.itoa (qs.getD 3 0)))) (.tmp .nil) rfl ?_))
 have e1 : ((((((Lib.itoa (qs.getD 0 0)) ++ [46]) ++ (Lib.itoa (qs.getD 1 0))) ++ [46]) ++ (Lib.itoa (qs.getD 2 0))) ++ [46]) ++ (Lib.itoa (qs.getD 3 0)) = quadT qs := by exact (quadT_eq (quadOk_len hq)).symm
 exact ⟨(congrArg (Str) e1), hs1⟩
theorem iHostText (ak : Int) {Aaq : Option Addr} {caq : Nat} (aq : List Int) (an : List UInt8) (apt : Int) (w : World) (haq : Sl w [] 1 Aaq aq.length caq (aq.map I)) (han_n : an.length ≤ 1099511627776) (hok : addrOk ak aq an apt = true) (hGp : VarP Tryz.prog w [] "internal/strconv.uint64pow10" isPow) : Does Tryz.prog 124 [.agg #[I ak, .slice Aaq aq.length caq, Str an, I apt]] w (fun v w' => v = Str (hostT ak aq an) ∧ SH w w' [] []) := by
 refine fn_enter (N := 11) Tryz.func124 rfl (by kernel_rfl) rfl rfl rfl ?_
 have hs0 : SH w w [] [] := SH.refl w []
 have haq_m : aq.length ≤ 9223372036854775807 := Nat.le_trans haq.cap haq.capMax
 refine sq (rg (bx (v := .agg #[I ak, .slice Aaq aq.length caq, Str an, I apt]) (cs := [I ak, .slice Aaq aq.length caq, Str an, I apt]) hs0 rfl rfl trivial rfl (fun b1 w1 (hs1 : SH w w1 [] [.blk b1 43 [I ak, .slice Aaq aq.length caq, Str an, I apt]]) => ?_)))
 refine qt rfl (asg (v := Str []) rfl) (nl (nN (sq (sq (rg (qt rfl (fa 0 fo43_0 rfl) (qt rfl (ld (v := I ak) hs1 0 rfl rfl rfl one3) ?_)))))))
 refine qt rfl (eqi (k := .i64) (a := ak) (b := 1) rfl rfl) (nl (nN ?_))
 refine cdd (p := ak = 1) rfl (fun h1 => ?_) (fun h1 => ?_)
 · refine sq (rg (qt rfl (fa 1 fo43_1 rfl) (qt rfl (ld (v := .slice Aaq aq.length caq) hs1 0 rfl rfl rfl one22) (cl trivial rfl (iQuadText (Aqs := Aaq) (cqs := caq) (qs := aq) (w := _) (hqs := (haq.up0 hs1)) (hq := (by exact addr_quad hok (by assumption))) (hGp := (hGp.up0 hs1))) ?_))))
   rintro _ w2 ⟨rfl, hs2'⟩
   have hs2 := hs1.call0 hs2'
   clear hs2'
   refine qt rfl (asg (v := Str (quadT aq)) rfl) (nl (nN (rt (tR ?_))))
   refine fret (v := Str (quadT aq)) (.tmp .nil) rfl ?_
   have e1 : quadT aq = hostT ak aq an := by simp [hostT, h1]
   exact ⟨(congrArg (Str) e1), (hs2.pick [] rfl (by decide))⟩
 · refine sk (nN (sq (rg (qt rfl (fa 2 fo43_2 rfl) (qt rfl (ld (v := Str an) hs1 0 rfl rfl rfl one9) (qt rfl (asg (v := Str an) rfl) (nl ?_)))))))
   refine nN (rt (fret (v := Str an) (.tmp .nil) rfl ?_))
   have e2 : an = hostT ak aq an := by simp [hostT, h1]
   exact ⟨(congrArg (Str) e2), (hs1.pick [] rfl (by decide))⟩
theorem sL3Host (ak : Int) {Aaq : Option Addr} {caq : Nat} (aq : List Int) (an : List UInt8) (apt : Int) (w : World) (haq : Sl w [] 1 Aaq aq.length caq (aq.map I)) (han_n : an.length ≤ 1099511627776) (hok : addrOk ak aq an apt = true) : Does Tryz.prog 147 [.agg #[I ak, .slice Aaq aq.length caq, Str an, I apt]] w (fun v w' => v = Str (hostT ak aq an) ∧ SH w w' [] []) := by
 refine fn_enter (N := 11) Tryz.func147 rfl (by kernel_rfl) rfl rfl rfl ?_
 have hs0 : SH w w [] [] := SH.refl w []
 have haq_m : aq.length ≤ 9223372036854775807 := Nat.le_trans haq.cap haq.capMax
 refine sq (rg (bx (v := .agg #[I ak, .slice Aaq aq.length caq, Str an, I apt]) (cs := [I ak, .slice Aaq aq.length caq, Str an, I apt]) hs0 rfl rfl trivial rfl (fun b1 w1 (hs1 : SH w w1 [] [.blk b1 43 [I ak, .slice Aaq aq.length caq, Str an, I apt]]) => ?_)))
 refine qt rfl (asg (v := Str []) rfl) (nl (nN (sq (sq (rg (qt rfl (fa 0 fo43_0 rfl) (qt rfl (ld (v := I ak) hs1 0 rfl rfl rfl one3) ?_)))))))
 refine qt rfl (eqi (k := .i64) (a := ak) (b := 1) rfl rfl) (nl (nN ?_))
 refine cdd (p := ak = 1) rfl (fun h1 => ?_) (fun h1 => ?_)
 · refine sq (rg (qt rfl (fa 1 fo43_1 rfl) (qt rfl (ld (v := .slice Aaq aq.length caq) hs1 0 rfl rfl rfl one22) (cl trivial rfl (sL2Quad (Aqs := Aaq) (cqs := caq) (qs := aq) (w := _) (hqs := (haq.up0 hs1)) (hq := (by exact addr_quad hok (by assumption)))) ?_))))
   rintro _ w2 ⟨rfl, hs2'⟩
   have hs2 := hs1.call0 hs2'
   clear hs2'
   refine qt rfl (asg (v := Str (quadT aq)) rfl) (nl (nN (rt (tR ?_))))
   refine fret (v := Str (quadT aq)) (.tmp .nil) rfl ?_
   have e1 : quadT aq = hostT ak aq an := by simp [hostT, h1]
   exact ⟨(congrArg (Str) e1), (hs2.pick [] rfl (by decide))⟩
 · refine sk (nN (sq (rg (qt rfl (fa 2 fo43_2 rfl) (qt rfl (ld (v := Str an) hs1 0 rfl rfl rfl one9) (qt rfl (asg (v := Str an) rfl) (nl ?_)))))))
   refine nN (rt (fret (v := Str an) (.tmp .nil) rfl ?_))
   have e2 : an = hostT ak aq an := by simp [hostT, h1]
   exact ⟨(congrArg (Str) e2), (hs1.pick [] rfl (by decide))⟩
theorem iAddressText (ak : Int) {Aaq : Option Addr} {caq : Nat} (aq : List Int) (an : List UInt8) (apt : Int) (w : World) (haq : Sl w [] 1 Aaq aq.length caq (aq.map I)) (han_n : an.length ≤ 1099511627776) (hok : addrOk ak aq an apt = true) (hGp : VarP Tryz.prog w [] "internal/strconv.uint64pow10" isPow) : Does Tryz.prog 63 [.agg #[I ak, .slice Aaq aq.length caq, Str an, I apt]] w (fun v w' => v = Str (hostT ak aq an ++ [58] ++ Lib.itoa apt) ∧ SH w w' [] []) := by
 refine fn_enter (N := 10) Tryz.func63 rfl (by kernel_rfl) rfl rfl rfl ?_
 have hs0 : SH w w [] [] := SH.refl w []
 have haq_m : aq.length ≤ 9223372036854775807 := Nat.le_trans haq.cap haq.capMax
 refine sq (rg (bx (v := .agg #[I ak, .slice Aaq aq.length caq, Str an, I apt]) (cs := [I ak, .slice Aaq aq.length caq, Str an, I apt]) hs0 rfl rfl trivial rfl (fun b1 w1 (hs1 : SH w w1 [] [.blk b1 43 [I ak, .slice Aaq aq.length caq, Str an, I apt]]) => ?_)))
 refine qt rfl (asg (v := Str []) rfl) (nl (nN (sq (rq (fun w' => SH w w' [] [.blk b1 43 [I ak, .slice Aaq aq.length caq, Str an, I apt]]) mixed (by kernel_rfl) hs1.drew (qq trivial rfl rfl (fun wq hsq => ldg (vs := [I ak, .slice Aaq aq.length caq, Str an, I apt]) hsq 0 rfl rfl rfl rfl ag43) (qc (Str (hostT ak aq an)) trivial rfl (fun wq hsq => (iHostText (ak := ak) (Aaq := Aaq) (caq := caq) (aq := aq) (an := an) (apt := apt) (w := _) (haq := (haq.up0 hsq)) (han_n := (by (first | omega | (simp; done) | (simp; omega)))) (hok := (by (first | omega | assumption | (simp; done) | (simp; omega)))) (hGp := (hGp.up0 hsq))).mono (fun v w' h => ⟨h.1, by simpa using hsq.call0 h.2⟩)) (qq trivial rfl rfl (fun wq hsq => cat (l := hostT ak aq an) (m := [58]) rfl rfl (by have haf := addrOk_fit hok; have hhl := hostT_len hok; have hil := Lib.itoa_length_le apt (by omega) (by omega); simp only [List.length_append, List.length_cons, List.length_nil]; omega)) ?_)))))))
 refine qq trivial rfl rfl (fun wq hsq => fa 3 fo43_3 rfl) (qq trivial rfl rfl (fun wq hsq => ld (v := I apt) hsq 0 rfl rfl rfl one3) (qc (Str (Lib.itoa apt)) trivial rfl (fun wq hsq => (stItoa (n := apt) (w := _) (hn := (by (have haf := addrOk_fit hok; have hhl := hostT_len hok; have hil := Lib.itoa_length_le apt (by omega) (by omega); first | omega | assumption | (simp; done) | (simp; omega)))) (hGp := (hGp.up0 hsq))).mono (fun v w' h => ⟨h.1, by simpa using hsq.call0 h.2⟩)) (qq trivial rfl rfl (fun wq hsq => cat (l := (hostT ak aq an) ++ [58]) (m := Lib.itoa apt) rfl rfl (by have haf := addrOk_fit hok; have hhl := hostT_len hok; have hil := Lib.itoa_length_le apt (by omega) (by omega); simp only [List.length_append, List.length_cons, List.length_nil]; omega)) (qq trivial rfl rfl (fun wq hsq => asg (v := Str (((hostT ak aq an) ++ [58]) ++ (Lib.itoa apt))) rfl) (qn (fun w2 hs2 => ?_))))))
 refine nN (rt (fret (v := Str (((hostT ak aq an) ++ [58]) ++ (Lib.itoa apt))) (.tmp .nil) rfl ?_))
 have e1 : ((hostT ak aq an) ++ [58]) ++ (Lib.itoa apt) = hostT ak aq an ++ [58] ++ Lib.itoa apt := by rfl
 exact ⟨(congrArg (Str) e1), (hs2.pick [] rfl (by decide))⟩
theorem slEqual {Axs : Option Addr} {cxs : Nat} (xs : List Int) {Abs : Option Addr} {cbs : Nat} (bs : List Int) (w : World) (hxs : Sl w [] 1 Axs xs.length cxs (xs.map I)) (hbs : Sl w [] 1 Abs bs.length cbs (bs.map I)) : Does Tryz.prog 152 [.slice Axs xs.length cxs, .slice Abs bs.length cbs] w (fun v w' => v = .bool (decide (xs = bs)) ∧ SH w w' [] []) := by
 refine fn_enter (N := 26) Tryz.func152 rfl (by kernel_rfl) rfl rfl rfl ?_
 have hs0 : SH w w [] [] := SH.refl w []
 have hxs_m : xs.length ≤ 9223372036854775807 := Nat.le_trans hxs.cap hxs.capMax
 have hbs_m : bs.length ≤ 9223372036854775807 := Nat.le_trans hbs.cap hbs.capMax
 refine sq (rg (qt rfl (asg (v := .bool false) rfl) (nl (nN (sq (sq (rg ?_)))))))
 refine qt rfl (mv (v := .slice Axs xs.length cxs) rfl) (qt rfl (lnA (n := xs.length) sl22 rfl) (qt rfl (mv (v := .slice Abs bs.length cbs) rfl) (qt rfl (lnA (n := bs.length) sl22 rfl) (qt rfl (nei (k := .i64) (a := ((xs.length : Nat) : Int)) (b := ((bs.length : Nat) : Int)) rfl rfl) (nl (nN ?_))))))
 refine cdd (p := ((xs.length : Nat) : Int) ≠ ((bs.length : Nat) : Int)) rfl (fun h1 => ?_) (fun h1 => ?_)
 · refine sq (rg (qt rfl (asg (v := .bool false) rfl) (nl (nN (rt (tR ?_))))))
   refine fret (v := .bool false) (.tmp .nil) rfl ?_
   have e1 : false = (decide (xs = bs)) := by simp; intro h; subst h; exact h1 rfl
   exact ⟨(congrArg (Value.bool) e1), hs0⟩
 · refine sk (nN (sq (sq (rg (qt rfl (mv (v := .slice Axs xs.length cxs) rfl) (qt rfl (lnA (n := xs.length) sl22 rfl) (qt rfl (mv (v := I 0) rfl) ?_)))))))
   refine nl (nN (bl (lp (σ := Nat) (fun (k : Nat) f w' => Has f [(0, .slice Axs xs.length cxs), (1, .slice Abs bs.length cbs), (12, I ((xs.length : Nat) : Int)), (13, I ((k : Nat) : Int))] ∧ (xs.length = bs.length) ∧ (k ≤ xs.length) ∧ (xs.take k = bs.take k) ∧ SH w w' [] []) (fun k => xs.length - k) 0 ⟨⟨rfl, rfl, rfl, rfl, trivial⟩, (by omega), (by simp), (by simp), hs0⟩ ?_)))
   rintro k f w1 ⟨hf, hl, hk, ha, hs1⟩
   obtain ⟨g1, rfl⟩ := has_upd hf
   clear hf
   refine sq (rg (qt rfl (lss (k := .i64) (a := ((k : Nat) : Int)) (b := ((xs.length : Nat) : Int)) rfl rfl) (nl (nN (sq ?_)))))
   refine cdd (p := ((k : Nat) : Int) < ((xs.length : Nat) : Int)) rfl (fun h2 => ?_) (fun h2 => ?_)
   · refine sk (nN (sq (bl (sq (rg (qt rfl (mv (v := I ((k : Nat) : Int)) rfl) (qt rfl (asg (v := I ((k : Nat) : Int)) rfl) ?_)))))))
     refine nl (nN (sq (rq (fun w' => SH w w' [] []) mixed (by kernel_rfl) hs1.drew (qq trivial rfl rfl (fun wq hsq => mv (v := .slice Axs xs.length cxs) rfl) (qq trivial rfl rfl (fun wq hsq => mv (v := I ((k : Nat) : Int)) rfl) (ixq1 k sl22 rfl rfl hxs (by omega) (getm I 0 (by omega)) trivial rfl (fun a1 ha1 => ?_)))))))
     refine qq trivial rfl rfl (fun wq hsq => lda (v := I (xs.getD k 0)) hsq ha1 (fun _ h => h) rfl rfl one3) (qq trivial rfl rfl (fun wq hsq => mv (v := .slice Abs bs.length cbs) rfl) (qq trivial rfl rfl (fun wq hsq => mv (v := I ((k : Nat) : Int)) rfl) (ixq1 k sl22 rfl rfl hbs (by omega) (getm I 0 (by omega)) trivial rfl (fun a2 ha2 => ?_))))
     refine qq trivial rfl rfl (fun wq hsq => lda (v := I (bs.getD k 0)) hsq ha2 (fun _ h => h) rfl rfl one3) (qq trivial rfl rfl (fun wq hsq => nei (k := .i64) (a := xs.getD k 0) (b := bs.getD k 0) rfl rfl) (qn (fun w2 hs2 => ?_)))
     refine nN ?_
     refine cdd (p := (xs.getD k 0) ≠ (bs.getD k 0)) rfl (fun h3 => ?_) (fun h3 => ?_)
     · refine sq (rg (qt rfl (asg (v := .bool false) rfl) (nl (nN ?_))))
       refine rt (bR (tR (tR (bR (tR ?_)))))
       refine fret (v := .bool false) (.tmp .nil) rfl ?_
       have e2 : false = (decide (xs = bs)) := by simp; intro h; subst h; exact h3 rfl
       exact ⟨(congrArg (Value.bool) e2), hs2⟩
     · refine sk (bN (nN (rg (qt rfl (add (a := ((k : Nat) : Int)) (b := 1) rfl rfl (by exact ⟨by omega, by omega⟩)) (qt rfl (mv (v := I (((k : Nat) : Int) + 1)) rfl) (nl (nN ?_)))))))
       refine ⟨(k + 1), ⟨⟨rfl, rfl, rfl, rfl, trivial⟩, (hl), (by omega), (take_succ_eq (by omega) (by omega) ha (by simpa using h3)), hs2⟩, ?_⟩
       omega
   · refine ex (tE (tE (bE ?_)))
     refine nN (sq (rg (qt rfl (asg (v := .bool true) rfl) (nl (nN (rt (fret (v := .bool true) (.tmp .nil) rfl ?_)))))))
     have e3 : true = (decide (xs = bs)) := by simp; exact take_all_eq hl (by omega) ha
     exact ⟨(congrArg (Value.bool) e3), hs1⟩
set_option maxHeartbeats 8000000 in
theorem sAddressText (ak : Int) {Aaq : Option Addr} {caq : Nat} (aq : List Int) (an : List UInt8) (apt : Int) (w : World) (haq : Sl w [] 1 Aaq aq.length caq (aq.map I)) (han_n : an.length ≤ 1099511627776) : Does Tryz.prog 102 [.agg #[I ak, .slice Aaq aq.length caq, Str an, I apt]] w (fun v w' => v = Str (addrT ak aq an apt) ∧ SH w w' [] []) := by
 refine fn_enter (N := 13) Tryz.func102 rfl (by kernel_rfl) rfl rfl rfl ?_
 have hs0 : SH w w [] [] := SH.refl w []
 have haq_m : aq.length ≤ 9223372036854775807 := Nat.le_trans haq.cap haq.capMax
 refine sq (rg (bx (v := .agg #[I ak, .slice Aaq aq.length caq, Str an, I apt]) (cs := [I ak, .slice Aaq aq.length caq, Str an, I apt]) hs0 rfl rfl trivial rfl (fun b1 w1 (hs1 : SH w w1 [] [.blk b1 43 [I ak, .slice Aaq aq.length caq, Str an, I apt]]) => ?_)))
 refine qt rfl (asg (v := Str []) rfl) (nl (nN (sq (sq (rg (qt rfl (ldg (vs := [I ak, .slice Aaq aq.length caq, Str an, I apt]) hs1 0 rfl rfl rfl rfl ag43) (cl trivial rfl (sAddressValid (ak := ak) (Aaq := Aaq) (caq := caq) (aq := aq) (an := an) (apt := apt) (w := _) (haq := (haq.up0 hs1)) (han_n := (by omega))) ?_)))))))
 rintro _ w2 ⟨rfl, hs2'⟩
 have hs2 := hs1.call0 hs2'
 clear hs2'
 refine qt rfl (nt (b := addrOk ak aq an apt) rfl) (nl (nN ?_))
 refine cd (b := !(addrOk ak aq an apt)) rfl (fun h1 => ?_) (fun h1 => ?_)
 · have h2 : (addrOk ak aq an apt) = false := by simpa using h1
   refine sq (rg (qt rfl (asg (v := Str []) rfl) (nl (nN (rt (tR ?_))))))
   refine fret (v := Str []) (.tmp .nil) rfl ?_
   have e1 : [] = addrT ak aq an apt := by simp [addrT, h2]
   exact ⟨(congrArg (Str) e1), (hs2.pick [] rfl (by decide))⟩
 · have h3 : (addrOk ak aq an apt) = true := by simpa using h1
   refine sk (nN (sq (rq (fun w' => SH w w' [] [.blk b1 43 [I ak, .slice Aaq aq.length caq, Str an, I apt]]) mixed (by kernel_rfl) hs2.drew (qq trivial rfl rfl (fun wq hsq => ldg (vs := [I ak, .slice Aaq aq.length caq, Str an, I apt]) hsq 0 rfl rfl rfl rfl ag43) (qc (Str (hostT ak aq an)) trivial rfl (fun wq hsq => (sL3Host (ak := ak) (Aaq := Aaq) (caq := caq) (aq := aq) (an := an) (apt := apt) (w := _) (haq := (haq.up0 hsq)) (han_n := (by omega)) (hok := (by omega))).mono (fun v w' h => ⟨h.1, by simpa using hsq.call0 h.2⟩)) (qq trivial rfl rfl (fun wq hsq => cat (l := hostT ak aq an) (m := [58]) rfl rfl (by have haf := addrOk_fit (by assumption : addrOk ak aq an apt = true); have hhl := hostT_len (by assumption : addrOk ak aq an apt = true); have hil := Lib.itoa_length_le apt (by omega) (by omega); simp only [List.length_append, List.length_cons, List.length_nil]; omega)) (qq trivial rfl rfl (fun wq hsq => fa 3 fo43_3 rfl) ?_)))))))
   refine qq trivial rfl rfl (fun wq hsq => ld (v := I apt) hsq 0 rfl rfl rfl one3) (qc (Str (Lib.itoa apt)) trivial rfl (fun wq hsq => (l6Dec (n := apt) (w := _) (hn := (by have haf := addrOk_fit (by assumption : addrOk ak aq an apt = true); omega))).mono (fun v w' h => ⟨h.1, by simpa using hsq.call0 h.2⟩)) (qq trivial rfl rfl (fun wq hsq => cat (l := (hostT ak aq an) ++ [58]) (m := Lib.itoa apt) rfl rfl (by have haf := addrOk_fit (by assumption : addrOk ak aq an apt = true); have hhl := hostT_len (by assumption : addrOk ak aq an apt = true); have hil := Lib.itoa_length_le apt (by omega) (by omega); simp only [List.length_append, List.length_cons, List.length_nil]; omega)) (qq trivial rfl rfl (fun wq hsq => asg (v := Str (((hostT ak aq an) ++ [58]) ++ (Lib.itoa apt))) rfl) (qn (fun w3 hs3 => ?_)))))
   refine nN (rt (fret (v := Str (((hostT ak aq an) ++ [58]) ++ (Lib.itoa apt))) (.tmp .nil) rfl ?_))
   have e2 : ((hostT ak aq an) ++ [58]) ++ (Lib.itoa apt) = addrT ak aq an apt := by simp [addrT, h3]
   exact ⟨(congrArg (Str) e2), (hs3.pick [] rfl (by decide))⟩
set_option maxHeartbeats 8000000 in
theorem iReplyBytes (c : Int) (ak : Int) {Aaq : Option Addr} {caq : Nat} (aq : List Int) (an : List UInt8) (apt : Int) (w : World) (haq : Sl w [] 1 Aaq aq.length caq (aq.map I)) (han_n : an.length ≤ 1099511627776) : Does Tryz.prog 110 [I c, .agg #[I ak, .slice Aaq aq.length caq, Str an, I apt]] w (fun v w' => ∃ Ar : Option Addr, ∃ cr : Nat, v = .tuple #[.slice Ar ((replyP c ak aq an apt).1).length cr, .bool ((replyP c ak aq an apt).2)] ∧ SH w w' [] [.own Ar (((replyP c ak aq an apt).1).length) cr 3 1 (((replyP c ak aq an apt).1).map I)]) := by
 refine fn_enter (N := 19) Tryz.func110 rfl (by kernel_rfl) rfl rfl rfl ?_
 have hs0 : SH w w [] [] := SH.refl w []
 have haq_m : aq.length ≤ 9223372036854775807 := Nat.le_trans haq.cap haq.capMax
 refine sq (rg (bx (v := .agg #[I ak, .slice Aaq aq.length caq, Str an, I apt]) (cs := [I ak, .slice Aaq aq.length caq, Str an, I apt]) hs0 rfl rfl trivial rfl (fun b1 w1 (hs1 : SH w w1 [] [.blk b1 43 [I ak, .slice Aaq aq.length caq, Str an, I apt]]) => ?_)))
 refine qt rfl (asg (v := ns) rfl) (qt rfl (asg (v := .bool false) rfl) (nl (nN (sq (sq (rg (qt rfl (mv (v := I c) rfl) ?_)))))))
 refine cl trivial rfl (iWithin (x := c) (lo := 0) (hi := 8) (w := _)) ?_
 rintro _ w2 ⟨rfl, hs2'⟩
 have hs2 := hs1.call0 hs2'
 clear hs2'
 refine qt rfl (nd (p := 0 ≤ c ∧ c ≤ 8) rfl) (qt rfl (mv (v := .bool (decide (¬ (0 ≤ c ∧ c ≤ 8)))) rfl) ?_)
 refine spd (p := ¬ (0 ≤ c ∧ c ≤ 8)) 9 rfl (fun h1 => ?_) (fun h1 => ?_)
 · refine gk true rfl rfl rfl rfl rfl (gk true rfl rfl rfl rfl rfl (gk true rfl rfl rfl rfl rfl (qt rfl (pt (v := .bool true) rfl rfl) (nl (nN (cdt rfl (sq ?_)))))))
   refine rg (qt rfl (asg (v := ns) rfl) (qt rfl (asg (v := .bool false) rfl) (nl (nN (rt (tR ?_))))))
   refine fret (v := .tuple #[ns, .bool false]) (.tmp (.tmp .nil)) rfl ?_
   have hs3 : SH w w2 [] [.blk b1 43 [I ak, .slice Aaq aq.length caq, Str an, I apt], .own none (([] : List Int).length) 0 3 1 (([] : List Int).map I)] := SH.nils (by intro i hi; simp at hi; subst hi; exact nilItem) hs2
   have e1 : replyP c ak aq an apt = (([] : List Int), false) := by simp [replyP, h1]
   have e2 : ([] : List Int) = (replyP c ak aq an apt).1 := by rw [e1]
   have e3 : ([] : List Int).length = ((replyP c ak aq an apt).1).length := by exact congrArg List.length e2
   have e4 : false = (replyP c ak aq an apt).2 := by rw [e1]
   exact ⟨none, 0, (tup2 (slv rfl e3 rfl) (congrArg (Value.bool) e4)), ((hs3.pick [1] rfl (by decide)).cast (lc (own_eq (g := I) rfl e3 rfl e2) rfl))⟩
 · refine q ⟨_, rfl, rfl⟩ rfl rfl (ldg (vs := [I ak, .slice Aaq aq.length caq, Str an, I apt]) hs2 0 rfl rfl rfl rfl ag43) (cl ⟨_, rfl, rfl⟩ rfl (iAddressValid (ak := ak) (Aaq := Aaq) (caq := caq) (aq := aq) (an := an) (apt := apt) (w := _) (haq := (haq.up0 hs2)) (han_n := (by omega))) ?_)
   rintro _ w3 ⟨rfl, hs4'⟩
   have hs4 := hs2.call0 hs4'
   clear hs4'
   refine q ⟨_, rfl, rfl⟩ rfl rfl (nt (b := addrOk ak aq an apt) rfl) (qt rfl (pf (v := .bool (!(addrOk ak aq an apt))) rfl rfl) (nl (nN ?_)))
   refine cd (b := !(addrOk ak aq an apt)) rfl (fun h2 => ?_) (fun h2 => ?_)
   · have h3 : (addrOk ak aq an apt) = false := by simpa using h2
     refine sq (rg (qt rfl (asg (v := ns) rfl) (qt rfl (asg (v := .bool false) rfl) (nl (nN (rt (tR ?_)))))))
     refine fret (v := .tuple #[ns, .bool false]) (.tmp (.tmp .nil)) rfl ?_
     have hs5 : SH w w3 [] [.blk b1 43 [I ak, .slice Aaq aq.length caq, Str an, I apt], .own none (([] : List Int).length) 0 3 1 (([] : List Int).map I)] := SH.nils (by intro i hi; simp at hi; subst hi; exact nilItem) hs4
     have e5 : replyP c ak aq an apt = (([] : List Int), false) := by simp [replyP, h1, h3]
     have e6 : ([] : List Int) = (replyP c ak aq an apt).1 := by rw [e5]
     have e7 : ([] : List Int).length = ((replyP c ak aq an apt).1).length := by exact congrArg List.length e6
     have e8 : false = (replyP c ak aq an apt).2 := by rw [e5]
     exact ⟨none, 0, (tup2 (slv rfl e7 rfl) (congrArg (Value.bool) e8)), ((hs5.pick [1] rfl (by decide)).cast (lc (own_eq (g := I) rfl e7 rfl e6) rfl))⟩
   · have h4 : (addrOk ak aq an apt) = true := by simpa using h2
     refine sk (nN (sq (rg (qt rfl (mv (v := I c) rfl) (bsk hs4 sl22 [I 5, I c, I 0] [I 5, I c, I 0] trivial rfl (fun b2 w4 (hs6 : SH w w4 [] [.blk b1 43 [I ak, .slice Aaq aq.length caq, Str an, I apt], oI b2 ([5, c, 0] : List Int) 3 3]) => ?_))))))
     refine qt rfl (ldg (vs := [I ak, .slice Aaq aq.length caq, Str an, I apt]) hs6 0 rfl rfl rfl rfl ag43) (cl trivial rfl (iAddressBytes (ak := ak) (Aaq := Aaq) (caq := caq) (aq := aq) (an := an) (apt := apt) (w := _) (haq := (haq.up0 hs6)) (han_n := (by omega)) (hok := (by omega))) ?_)
     rintro _ w5 ⟨A1, c1, rfl, hs7'⟩
     have hs7 := hs6.call0 hs7'
     clear hs7'
     refine apm (g := I) (ys := ([5, c, 0] : List Int)) (zs := addrB ak aq an apt) hs7 1 rfl sl22 rfl rfl rfl (hs7.sl0 2 rfl) (fun _ => rfl) (by unfold maxLen; have hbl := addrB_len (by assumption : addrOk ak aq an apt = true); simp only [List.length_append, List.length_cons, List.length_nil]; omega) (by have hbl := addrB_len (by assumption : addrOk ak aq an apt = true); simp only [List.length_append, List.length_cons, List.length_nil]; omega) trivial rfl (fun A2 c2 w6 (hs8 : SH w w6 [] [.blk b1 43 [I ak, .slice Aaq aq.length caq, Str an, I apt], .own A1 ((addrB ak aq an apt).length) c1 3 1 ((addrB ak aq an apt).map I), .own A2 ((([5, c, 0] : List Int) ++ (addrB ak aq an apt)).length) c2 3 1 ((([5, c, 0] : List Int) ++ (addrB ak aq an apt)).map I)]) => ?_)
     refine qt rfl (asg (v := .slice A2 ((([5, c, 0] : List Int) ++ (addrB ak aq an apt)).length) c2) rfl) (qt rfl (asg (v := .bool true) rfl) (nl (nN (rt (fret (v := .tuple #[.slice A2 ((([5, c, 0] : List Int) ++ (addrB ak aq an apt)).length) c2, .bool true]) (.tmp (.tmp .nil)) rfl ?_)))))
     have e9 : replyP c ak aq an apt = (([5, c, 0] : List Int) ++ (addrB ak aq an apt), true) := by simp [replyP, h1, h4]
     have e10 : ([5, c, 0] : List Int) ++ (addrB ak aq an apt) = (replyP c ak aq an apt).1 := by rw [e9]
     have e11 : (([5, c, 0] : List Int) ++ (addrB ak aq an apt)).length = ((replyP c ak aq an apt).1).length := by exact congrArg List.length e10
     have e12 : true = (replyP c ak aq an apt).2 := by rw [e9]
     exact ⟨A2, c2, (tup2 (slv rfl e11 rfl) (congrArg (Value.bool) e12)), ((hs8.pick [2] rfl (by decide)).cast (lc (own_eq (g := I) rfl e11 rfl e10) rfl))⟩
set_option maxHeartbeats 8000000 in
theorem sReplyBytes (c : Int) (ak : Int) {Aaq : Option Addr} {caq : Nat} (aq : List Int) (an : List UInt8) (apt : Int) (w : World) (haq : Sl w [] 1 Aaq aq.length caq (aq.map I)) (han_n : an.length ≤ 1099511627776) : Does Tryz.prog 101 [I c, .agg #[I ak, .slice Aaq aq.length caq, Str an, I apt]] w (fun v w' => ∃ Ar : Option Addr, ∃ cr : Nat, v = .tuple #[.slice Ar ((replyP c ak aq an apt).1).length cr, .bool ((replyP c ak aq an apt).2)] ∧ SH w w' [] [.own Ar (((replyP c ak aq an apt).1).length) cr 3 1 (((replyP c ak aq an apt).1).map I)]) := by
 refine fn_enter (N := 18) Tryz.func101 rfl (by kernel_rfl) rfl rfl rfl ?_
 have hs0 : SH w w [] [] := SH.refl w []
 have haq_m : aq.length ≤ 9223372036854775807 := Nat.le_trans haq.cap haq.capMax
 refine sq (rg (bx (v := .agg #[I ak, .slice Aaq aq.length caq, Str an, I apt]) (cs := [I ak, .slice Aaq aq.length caq, Str an, I apt]) hs0 rfl rfl trivial rfl (fun b1 w1 (hs1 : SH w w1 [] [.blk b1 43 [I ak, .slice Aaq aq.length caq, Str an, I apt]]) => ?_)))
 refine qt rfl (asg (v := ns) rfl) (qt rfl (asg (v := .bool false) rfl) (nl (nN (sq (sq (rg (qt rfl (mv (v := I c) rfl) ?_)))))))
 refine cl trivial rfl (sIn (x := c) (lo := 0) (hi := 8) (w := _)) ?_
 rintro _ w2 ⟨rfl, hs2'⟩
 have hs2 := hs1.call0 hs2'
 clear hs2'
 refine qt rfl (nd (p := 0 ≤ c ∧ c ≤ 8) rfl) (qt rfl (mv (v := .bool (decide (¬ (0 ≤ c ∧ c ≤ 8)))) rfl) ?_)
 refine spd (p := ¬ (0 ≤ c ∧ c ≤ 8)) 9 rfl (fun h1 => ?_) (fun h1 => ?_)
 · refine gk true rfl rfl rfl rfl rfl (gk true rfl rfl rfl rfl rfl (gk true rfl rfl rfl rfl rfl (qt rfl (pt (v := .bool true) rfl rfl) (nl (nN (cdt rfl (sq ?_)))))))
   refine rg (bsk hs2 sl22 [] [] trivial rfl (fun b2 w3 (hs3 : SH w w3 [] [.blk b1 43 [I ak, .slice Aaq aq.length caq, Str an, I apt], oI b2 ([] : List Int) 0 3]) => ?_))
   refine qt rfl (asg (v := sb b2 (([] : List Int).length) 0) rfl) (qt rfl (asg (v := .bool false) rfl) (nl (nN (rt (tR ?_)))))
   refine fret (v := .tuple #[sb b2 (([] : List Int).length) 0, .bool false]) (.tmp (.tmp .nil)) rfl ?_
   have e1 : replyP c ak aq an apt = (([] : List Int), false) := by simp [replyP, h1]
   have e2 : ([] : List Int) = (replyP c ak aq an apt).1 := by rw [e1]
   have e3 : ([] : List Int).length = ((replyP c ak aq an apt).1).length := by exact congrArg List.length e2
   have e4 : false = (replyP c ak aq an apt).2 := by rw [e1]
   exact ⟨(some ⟨b2, 0, none⟩), 0, (tup2 (slv rfl e3 rfl) (congrArg (Value.bool) e4)), ((hs3.pick [1] rfl (by decide)).cast (lc (own_eq (g := I) rfl e3 rfl e2) rfl))⟩
 · refine q ⟨_, rfl, rfl⟩ rfl rfl (ldg (vs := [I ak, .slice Aaq aq.length caq, Str an, I apt]) hs2 0 rfl rfl rfl rfl ag43) (cl ⟨_, rfl, rfl⟩ rfl (sAddressValid (ak := ak) (Aaq := Aaq) (caq := caq) (aq := aq) (an := an) (apt := apt) (w := _) (haq := (haq.up0 hs2)) (han_n := (by omega))) ?_)
   rintro _ w4 ⟨rfl, hs4'⟩
   have hs4 := hs2.call0 hs4'
   clear hs4'
   refine q ⟨_, rfl, rfl⟩ rfl rfl (nt (b := addrOk ak aq an apt) rfl) (qt rfl (pf (v := .bool (!(addrOk ak aq an apt))) rfl rfl) (nl (nN ?_)))
   refine cd (b := !(addrOk ak aq an apt)) rfl (fun h2 => ?_) (fun h2 => ?_)
   · have h3 : (addrOk ak aq an apt) = false := by simpa using h2
     refine sq (rg (bsk hs4 sl22 [] [] trivial rfl (fun b3 w5 (hs5 : SH w w5 [] [.blk b1 43 [I ak, .slice Aaq aq.length caq, Str an, I apt], oI b3 ([] : List Int) 0 3]) => ?_)))
     refine qt rfl (asg (v := sb b3 (([] : List Int).length) 0) rfl) (qt rfl (asg (v := .bool false) rfl) (nl (nN (rt (tR ?_)))))
     refine fret (v := .tuple #[sb b3 (([] : List Int).length) 0, .bool false]) (.tmp (.tmp .nil)) rfl ?_
     have e5 : replyP c ak aq an apt = (([] : List Int), false) := by simp [replyP, h1, h3]
     have e6 : ([] : List Int) = (replyP c ak aq an apt).1 := by rw [e5]
     have e7 : ([] : List Int).length = ((replyP c ak aq an apt).1).length := by exact congrArg List.length e6
     have e8 : false = (replyP c ak aq an apt).2 := by rw [e5]
     exact ⟨(some ⟨b3, 0, none⟩), 0, (tup2 (slv rfl e7 rfl) (congrArg (Value.bool) e8)), ((hs5.pick [1] rfl (by decide)).cast (lc (own_eq (g := I) rfl e7 rfl e6) rfl))⟩
   · have h4 : (addrOk ak aq an apt) = true := by simpa using h2
     refine sk (nN (sq (rg (qt rfl (mv (v := I c) rfl) (qt rfl (ldg (vs := [I ak, .slice Aaq aq.length caq, Str an, I apt]) hs4 0 rfl rfl rfl rfl ag43) (cl trivial rfl (sL12Bytes (n := c) (ak := ak) (Aaq := Aaq) (caq := caq) (aq := aq) (an := an) (apt := apt) (w := _) (haq := (haq.up0 hs4)) (han_n := (by omega)) (hok := (by omega))) ?_))))))
     rintro _ w6 ⟨A1, c1, rfl, hs6'⟩
     have hs6 := hs4.call0 hs6'
     clear hs6'
     refine qt rfl (asg (v := .slice A1 (([5, c, 0] ++ addrB ak aq an apt).length) c1) rfl) (qt rfl (asg (v := .bool true) rfl) (nl (nN (rt (fret (v := .tuple #[.slice A1 (([5, c, 0] ++ addrB ak aq an apt).length) c1, .bool true]) (.tmp (.tmp .nil)) rfl ?_)))))
     have e9 : replyP c ak aq an apt = ([5, c, 0] ++ addrB ak aq an apt, true) := by simp [replyP, h1, h4]
     have e10 : [5, c, 0] ++ addrB ak aq an apt = (replyP c ak aq an apt).1 := by rw [e9]
     have e11 : ([5, c, 0] ++ addrB ak aq an apt).length = ((replyP c ak aq an apt).1).length := by exact congrArg List.length e10
     have e12 : true = (replyP c ak aq an apt).2 := by rw [e9]
     exact ⟨A1, c1, (tup2 (slv rfl e11 rfl) (congrArg (Value.bool) e12)), ((hs6.pick [1] rfl (by decide)).cast (lc (own_eq (g := I) rfl e11 rfl e10) rfl))⟩
theorem markText (k : Int) (w : World) (hk : 0 ≤ k ∧ k ≤ 4611686018427387904) : Does Tryz.prog 111 [I k] w (fun v w' => v = Str (markT k) ∧ SH w w' [] []) := by
 refine fn_enter (N := 20) Tryz.func111 rfl (by kernel_rfl) rfl rfl rfl ?_
 have hs0 : SH w w [] [] := SH.refl w []
 refine sq (rg (qt rfl (asg (v := Str []) rfl) (nl (nN (sq (sq (rg ?_)))))))
 refine qt rfl (mv (v := I k) rfl) (qt rfl (leq (k := .i64) (a := k) (b := 0) rfl rfl) (nl (nN ?_)))
 refine cdd (p := k ≤ 0) rfl (fun h1 => ?_) (fun h1 => ?_)
 · refine sq (rg (qt rfl (asg (v := Str [109, 48]) rfl) (nl (nN (rt (tR ?_))))))
   refine fret (v := Str [109, 48]) (.tmp .nil) rfl ?_
   have e1 : [109, 48] = markT k := by exact (if_pos (by assumption)).symm
   exact ⟨(congrArg (Str) e1), hs0⟩
 · refine sk (nN (sq (rg (qt rfl (asg (v := Str []) rfl) (nl (nN (sq ?_)))))))
   refine bl (lp (σ := Int × (List UInt8)) (fun ⟨j, o⟩ f w' => Has f [(0, I j), (3, Str o)] ∧ (0 ≤ j ∧ j ≤ k) ∧ ((if j = 0 then [] else Lib.itoa j) ++ o = Lib.itoa k) ∧ SH w w' [] []) (fun ⟨j, o⟩ => j.toNat) (k, ([] : List UInt8)) ⟨⟨rfl, rfl, trivial⟩, (by omega), (by rw [if_neg (by omega)]; simp), hs0⟩ ?_)
   rintro ⟨j, o⟩ f w1 ⟨hf, hj, ho, hs1⟩
   obtain ⟨g1, rfl⟩ := has_upd hf
   clear hf
   refine sq (sq (rg (qt rfl (mv (v := I j) rfl) (qt rfl (gtr (k := .i64) (a := j) (b := 0) rfl rfl) (nl (nN ?_))))))
   refine cdd (p := (0 : Int) < j) rfl (fun h2 => ?_) (fun h2 => ?_)
   · refine sk (nN (bl (sq (rg (qt rfl (mv (v := I j) rfl) (qt rfl (rem (a := j) (b := 10) rfl rfl (by omega) (by omega)) (qt rfl (add (a := 48) (b := j % 10) rfl rfl (by exact ⟨by omega, by omega⟩)) ?_)))))))
     refine qt rfl (cvB (a := 48 + (j % 10)) (s := .i64) ti3 ti5 rfl (by omega) (by omega)) (bsk hs1 sl39 [.int .u8 (((UInt8.ofNat (48 + (j % 10)).toNat).toNat : Nat) : Int)] [.int .u8 (((UInt8.ofNat (48 + (j % 10)).toNat).toNat : Nat) : Int)] trivial rfl (fun b1 w2 (hs2 : SH w w2 [] [.own (some ⟨b1, 0, none⟩) (([(UInt8.ofNat (48 + (j % 10)).toNat)] : List UInt8).length) 1 5 1 (([(UInt8.ofNat (48 + (j % 10)).toNat)] : List UInt8).map U)]) => ?_))
     refine qt rfl (cvS (l := ([(UInt8.ofNat (48 + (j % 10)).toNat)] : List UInt8)) us39 ti5 st9 rfl (hs2.sl0 0 rfl)) (qt rfl (mv (v := Str o) rfl) (qt rfl (cat (l := ([(UInt8.ofNat (48 + (j % 10)).toNat)] : List UInt8)) (m := o) rfl rfl (by have hto := markT_o hk ho; simp only [List.length_append, List.length_cons, List.length_nil]; omega)) (qt rfl (asg (v := Str (([(UInt8.ofNat (48 + (j % 10)).toNat)] : List UInt8) ++ o)) rfl) (nl (nN (rg (qt rfl (mv (v := I j) rfl) ?_)))))))
     refine qt rfl (quo (a := j) (b := 10) rfl rfl (by omega) (by omega) (by omega)) (qt rfl (asg (v := I (j / 10)) rfl) (nl (bN (nN ?_))))
     refine ⟨(j / 10, (([(UInt8.ofNat (48 + (j % 10)).toNat)] : List UInt8) ++ o)), ⟨⟨rfl, rfl, trivial⟩, (by omega), (markT_step (by omega) ho), (hs2.pick [] rfl (by decide))⟩, ?_⟩
     show (j / 10).toNat < j.toNat
     omega
   · refine ex (tE (tE (bE ?_)))
     refine nN (sq (rg (qt rfl (mv (v := Str o) rfl) (qt rfl (cat (l := [109]) (m := o) rfl rfl (by have hto := markT_o hk ho; simp only [List.length_append, List.length_cons, List.length_nil]; omega)) (qt rfl (asg (v := Str ([109] ++ o)) rfl) (nl (nN ?_)))))))
     refine rt (fret (v := Str ([109] ++ o)) (.tmp .nil) rfl ?_)
     have e2 : [109] ++ o = markT k := by exact markT_end (by omega) (by omega) (by omega) ho
     exact ⟨(congrArg (Str) e2), hs1⟩
theorem newReader {Abs : Option Addr} {cbs : Nat} (bs : List Int) (w : World) (hbs : Sl w [] 1 Abs bs.length cbs (bs.map I)) : Does Tryz.prog 117 [.slice Abs bs.length cbs] w (fun v w' => ∃ gr : Nat, v = .pointer (some ⟨gr, 0, none⟩) ∧ SH w w' [] [.blk gr 133 [.slice Abs bs.length cbs, I 0, .bool (!isBytes bs)]]) := by
 refine fn_enter (N := 9) Tryz.func117 rfl (by kernel_rfl) rfl rfl rfl ?_
 have hs0 : SH w w [] [] := SH.refl w []
 have hbs_m : bs.length ≤ 9223372036854775807 := Nat.le_trans hbs.cap hbs.capMax
 refine sq (rg (qt rfl (asg (v := .pointer none) rfl) (nl (nN (sq (rg (qt rfl (mv (v := .slice Abs bs.length cbs) rfl) ?_)))))))
 refine qt rfl (mv (v := .slice Abs bs.length cbs) rfl) (cl trivial rfl (iBytesValid (Azs := Abs) (czs := cbs) (zs := bs) (w := _) (hzs := (hbs.up0 hs0))) ?_)
 rintro _ w1 ⟨rfl, hs1'⟩
 have hs1 := hs0.call0 hs1'
 clear hs1'
 refine qt rfl (nt (b := isBytes bs) rfl) (qt rfl (bdv (v := .agg #[.slice Abs bs.length cbs, I 0, .bool (!(isBytes bs))]) [(0, .slice Abs bs.length cbs), (2, .bool (!(isBytes bs)))] rfl (fun _ => by kernel_rfl)) (bx (v := .agg #[.slice Abs bs.length cbs, I 0, .bool (!(isBytes bs))]) (cs := [.slice Abs bs.length cbs, I 0, .bool (!(isBytes bs))]) hs1 rfl rfl trivial rfl (fun b1 w2 (hs2 : SH w w2 [] [.blk b1 133 [.slice Abs bs.length cbs, I 0, .bool (!(isBytes bs))]]) => ?_)))
 refine qt rfl (asg (v := pB b1) rfl) (nl (nN (rt (fret (v := pB b1) (.tmp .nil) rfl ?_))))
 have e1 : (!(isBytes bs)) = (!isBytes bs) := by rfl
 exact ⟨b1, rfl, (hs2.cast (lc (congrArg (It.blk b1 133) (lc rfl (lc rfl (lc (congrArg Value.bool e1) rfl)))) rfl))⟩
theorem rdTake {rb : Nat} {Ab : Option Addr} {cb : Nat} (bs : List Int) (sa : Nat) (sf : Bool) (n : Int) (w : World) (hr : w.heap[rb]? = some (.cells [.slice Ab bs.length cb, .int .i64 ((sa : Nat) : Int), .bool sf].toArray 133 (0, 0))) (hb : Sl w [rb] 1 Ab bs.length cb (bs.map I)) (hbv : sf = false → isBytes bs = true) (hsa : sa ≤ bs.length) (hn : 0 ≤ n ∧ n ≤ 65535) : Does Tryz.prog 149 [pB rb, I n] w (fun v w' => ∃ Ar : Option Addr, ∃ cr : Nat, ∃ qa : Nat, ∃ qf : Bool, v = .slice Ar (tkL bs (sa, sf) n.toNat).length cr ∧ (qa ≤ bs.length) ∧ ((qf = false → isBytes bs = true)) ∧ ((qa, qf) = tkS bs (sa, sf) n.toNat) ∧ SH w w' [rb] [.blk rb 133 [.slice Ab bs.length cb, I ((qa : Nat) : Int), .bool qf], .own Ar ((tkL bs (sa, sf) n.toNat).length) cr 3 1 ((tkL bs (sa, sf) n.toNat).map I)]) := by
 refine fn_enter (N := 52) Tryz.func149 rfl (by kernel_rfl) rfl rfl rfl ?_
 have hb_m : bs.length ≤ 9223372036854775807 := Nat.le_trans hb.cap hb.capMax
 have hs0 : SH w w [rb] [.blk rb 133 [.slice Ab bs.length cb, I ((sa : Nat) : Int), .bool sf]] := SH.entry1 hr
 refine sq (rg (qt rfl (asg (v := ns) rfl) (nl (nN (sq (sq (rq (fun w' => SH w w' [rb] [.blk rb 133 [.slice Ab bs.length cb, I ((sa : Nat) : Int), .bool sf]]) mixed (by kernel_rfl) hs0.drew ?_)))))))
 refine qq trivial rfl rfl (fun wq hsq => mv (v := pB rb) rfl) (qq trivial rfl rfl (fun wq hsq => nc rfl) (qq trivial rfl rfl (fun wq hsq => fa 2 fo133_2 rfl) (qq trivial rfl rfl (fun wq hsq => ld (v := .bool sf) hsq 0 rfl rfl rfl one4) (qq trivial rfl rfl (fun wq hsq => mv (v := .bool sf) rfl) ?_))))
 refine qspl (b := sf) 9 rfl (fun h1 => ?_) (fun h1 => ?_)
 · refine qk true rfl rfl rfl rfl rfl (qk true rfl rfl rfl rfl rfl (qk true rfl rfl rfl rfl rfl (qk true rfl rfl rfl rfl rfl (qk true rfl rfl rfl rfl rfl (qk true rfl rfl rfl rfl rfl (qk true rfl rfl rfl rfl rfl (qk true rfl rfl rfl rfl rfl ?_)))))))
   refine qk true rfl rfl rfl rfl rfl (qk true rfl rfl rfl rfl rfl (qk true rfl rfl rfl rfl rfl (qk true rfl rfl rfl rfl rfl (qq trivial rfl rfl (fun wq hsq => pt (v := .bool true) rfl rfl) (qn (fun w1 hs1 => ?_))))))
   refine nN (cdt rfl (sq (rg (qt rfl (mv (v := pB rb) rfl) (qt rfl (nc rfl) (qt rfl (fa 2 fo133_2 rfl) (st (v := .bool true) hs1 0 rfl rfl rfl rfl rfl one4 trivial (fun w2 (hs2 : SH w w2 [rb] [.blk rb 133 [.slice Ab bs.length cb, I ((sa : Nat) : Int), .bool true]]) => ?_))))))))
   refine nl (nN (sq (rg (qt rfl (mv (v := I n) rfl) (mkm (g := I) (z := 0) (n := n.toNat) hs2 sl22 rfl (ieq (x := n) (by (omega))) (ieq (x := n) (by (omega))) (by (omega)) (by unfold maxLen; (omega)) trivial rfl (fun b1 w3 (hs3 : SH w w3 [rb] [.blk rb 133 [.slice Ab bs.length cb, I ((sa : Nat) : Int), .bool true], oI b1 (List.replicate n.toNat (0 : Int)) n.toNat 3]) => ?_))))))
   refine qt rfl (asg (v := sb b1 ((List.replicate n.toNat (0 : Int)).length) n.toNat) rfl) (nl (nN (rt (tR ?_))))
   refine fret (v := sb b1 ((List.replicate n.toNat (0 : Int)).length) n.toNat) (.tmp .nil) rfl ?_
   have e1 : List.replicate n.toNat (0 : Int) = tkL bs (sa, sf) n.toNat := by exact tkL_n1 (by assumption)
   have e2 : (List.replicate n.toNat (0 : Int)).length = (tkL bs (sa, sf) n.toNat).length := by exact congrArg List.length e1
   exact ⟨(some ⟨b1, 0, none⟩), n.toNat, sa, true, (slv rfl e2 rfl), (by assumption), (by (simp_all; done)), (by exact tkS_n1 (by assumption)), (hs3.cast (lc rfl (lc (own_eq (g := I) rfl e2 rfl e1) rfl)))⟩
 · refine qq ⟨_, rfl, rfl⟩ rfl rfl (fun wq hsq => mv (v := I n) rfl) (qq ⟨_, rfl, rfl⟩ rfl rfl (fun wq hsq => mv (v := pB rb) rfl) (qq ⟨_, rfl, rfl⟩ rfl rfl (fun wq hsq => nc rfl) (qq ⟨_, rfl, rfl⟩ rfl rfl (fun wq hsq => fa 0 fo133_0 rfl) (qq ⟨_, rfl, rfl⟩ rfl rfl (fun wq hsq => ld (v := .slice Ab bs.length cb) hsq 0 rfl rfl rfl one22) (qq ⟨_, rfl, rfl⟩ rfl rfl (fun wq hsq => lnA (n := bs.length) sl22 rfl) (qq ⟨_, rfl, rfl⟩ rfl rfl (fun wq hsq => mv (v := pB rb) rfl) (qq ⟨_, rfl, rfl⟩ rfl rfl (fun wq hsq => nc rfl) ?_)))))))
   refine qq ⟨_, rfl, rfl⟩ rfl rfl (fun wq hsq => fa 1 fo133_1 rfl) (qq ⟨_, rfl, rfl⟩ rfl rfl (fun wq hsq => ld (v := I ((sa : Nat) : Int)) hsq 0 rfl rfl rfl one3) (qq ⟨_, rfl, rfl⟩ rfl rfl (fun wq hsq => sub (a := ((bs.length : Nat) : Int)) (b := ((sa : Nat) : Int)) rfl rfl (by (exact ⟨by omega, by omega⟩))) (qq ⟨_, rfl, rfl⟩ rfl rfl (fun wq hsq => gtr (k := .i64) (a := n) (b := ((bs.length : Nat) : Int) - ((sa : Nat) : Int)) rfl rfl) (qq trivial rfl rfl (fun wq hsq => pf (v := .bool (decide ((((bs.length : Nat) : Int) - ((sa : Nat) : Int)) < n))) rfl rfl) (qn (fun w4 hs4 => ?_))))))
   refine nN ?_
   refine cdd (p := (((bs.length : Nat) : Int) - ((sa : Nat) : Int)) < n) rfl (fun h2 => ?_) (fun h2 => ?_)
   · refine sq (rg (qt rfl (mv (v := pB rb) rfl) (qt rfl (nc rfl) (qt rfl (fa 2 fo133_2 rfl) (st (v := .bool true) hs4 0 rfl rfl rfl rfl rfl one4 trivial (fun w5 (hs5 : SH w w5 [rb] [.blk rb 133 [.slice Ab bs.length cb, I ((sa : Nat) : Int), .bool true]]) => ?_))))))
     refine nl (nN (sq (rg (qt rfl (mv (v := I n) rfl) (mkm (g := I) (z := 0) (n := n.toNat) hs5 sl22 rfl (ieq (x := n) (by (omega))) (ieq (x := n) (by (omega))) (by (omega)) (by unfold maxLen; (omega)) trivial rfl (fun b2 w6 (hs6 : SH w w6 [rb] [.blk rb 133 [.slice Ab bs.length cb, I ((sa : Nat) : Int), .bool true], oI b2 (List.replicate n.toNat (0 : Int)) n.toNat 3]) => ?_))))))
     refine qt rfl (asg (v := sb b2 ((List.replicate n.toNat (0 : Int)).length) n.toNat) rfl) (nl (nN (rt (tR ?_))))
     refine fret (v := sb b2 ((List.replicate n.toNat (0 : Int)).length) n.toNat) (.tmp .nil) rfl ?_
     have e3 : List.replicate n.toNat (0 : Int) = tkL bs (sa, sf) n.toNat := by exact tkL_n2 (by omega)
     have e4 : (List.replicate n.toNat (0 : Int)).length = (tkL bs (sa, sf) n.toNat).length := by exact congrArg List.length e3
     exact ⟨(some ⟨b2, 0, none⟩), n.toNat, sa, true, (slv rfl e4 rfl), (by assumption), (by (simp_all; done)), (by exact tkS_n2 (by omega)), (hs6.cast (lc rfl (lc (own_eq (g := I) rfl e4 rfl e3) rfl)))⟩
   · refine sk (nN (sq (rg (qt rfl (mv (v := pB rb) rfl) (qt rfl (nc rfl) (qt rfl (fa 1 fo133_1 rfl) (qt rfl (ld (v := I ((sa : Nat) : Int)) hs4 0 rfl rfl rfl one3) ?_)))))))
     refine qt rfl (mv (v := I n) rfl) (qt rfl (add (a := ((sa : Nat) : Int)) (b := n) rfl rfl (by (exact ⟨by omega, by omega⟩))) ?_)
     have e5 : ((sa : Nat) : Int) + n = ((sa + n.toNat : Nat) : Int) := by omega
     refine re 33 (v := I ((sa + n.toNat : Nat) : Int)) (congrArg (Value.int .i64) e5) (qt rfl (nc rfl) (qt rfl (fa 1 fo133_1 rfl) (st (v := I ((sa + n.toNat : Nat) : Int)) hs4 0 rfl rfl rfl rfl rfl one3 trivial (fun w7 (hs7 : SH w w7 [rb] [.blk rb 133 [.slice Ab bs.length cb, I ((sa + n.toNat : Nat) : Int), .bool sf]]) => ?_))))
     refine nl (nN (sq (ra (fun w' => ∃ L, SH w w' [rb] L ∧ (.blk rb 133 [.slice Ab bs.length cb, I ((sa + n.toNat : Nat) : Int), .bool sf]) ∈ L ∧ True) mixed ?_)))
     have hs8 := hs7.drew
     refine tk (fuel := 2) (is := [0, 1, 2, 3, 4, 5, 6, 7, 8, 9, 10, 11, 12, 13, 14]) (.cons rfl (.cons rfl (.cons rfl (.cons rfl (.cons rfl (.cons rfl (.cons rfl (.cons rfl (.cons rfl (.cons rfl (.cons rfl (.cons rfl (.cons rfl (.cons rfl (.cons rfl (.nil)))))))))))))))) (by kernel_rfl) (by kernel_rfl) ⟨_, hs8, memi 0 rfl, trivial⟩ (.op trivial rfl rfl (fun wq _ => mv (v := pB rb) rfl) (.op trivial rfl rfl (fun wq _ => nc rfl) (.op trivial rfl rfl (fun wq _ => fa 0 fo133_0 rfl) (.op trivial rfl rfl (fun wq ⟨Lq, hsq, mh0, _⟩ => ldm (v := .slice Ab bs.length cb) hsq mh0 rfl rfl one22) (.op trivial rfl rfl (fun wq _ => mv (v := pB rb) rfl) (.op trivial rfl rfl (fun wq _ => nc rfl) (.op trivial rfl rfl (fun wq _ => fa 1 fo133_1 rfl) ?_)))))))
     refine .op trivial rfl rfl (fun wq ⟨Lq, hsq, mh0, _⟩ => ldm (v := I ((sa + n.toNat : Nat) : Int)) hsq mh0 rfl rfl one3) (.op trivial rfl rfl (fun wq _ => mv (v := I n) rfl) (.op trivial rfl rfl (fun wq _ => sub (a := ((sa + n.toNat : Nat) : Int)) (b := n) rfl rfl (by (exact ⟨by omega, by omega⟩))) (.op trivial rfl rfl (fun wq _ => mv (v := pB rb) rfl) (.op trivial rfl rfl (fun wq _ => nc rfl) (.op trivial rfl rfl (fun wq _ => fa 1 fo133_1 rfl) (.op trivial rfl rfl (fun wq ⟨Lq, hsq, mh0, _⟩ => ldm (v := I ((sa + n.toNat : Nat) : Int)) hsq mh0 rfl rfl one3) (.op trivial rfl rfl (fun wq _ => cum (zs := bs) ((((sa + n.toNat : Nat) : Int) - n).toNat) (sa + n.toNat) sl22 rfl (ieq (x := ((sa + n.toNat : Nat) : Int) - n) (by (omega))) rfl (by (first | omega | (simp; done) | (simp; omega))) (by (first | omega | (simp; done) | (simp; omega))) hb.cap) ?_)))))))
     refine .nil (a1 (i := 15) (by kernel_rfl) (one_ rfl (cl trivial rfl (slClone (Axs := if cb = (((sa + n.toNat : Nat) : Int) - n).toNat then Ab else Ab.map (·.add (((((sa + n.toNat : Nat) : Int) - n).toNat) * 1))) (cxs := cb - ((((sa + n.toNat : Nat) : Int) - n).toNat)) (xs := (bs.take (sa + n.toNat)).drop ((((sa + n.toNat : Nat) : Int) - n).toNat)) (w := _) (hxs := (Sl.cutm (hb.up hs8 (fun _ h => h) (by simp)) (by (first | omega | (simp; done) | (simp; omega))) (by (first | omega | (simp; done) | (simp; omega))))) (hxs_n := (by (first | omega | (simp; done) | (simp; omega))))) ?_)))
     rintro _ w8 ⟨A_5_15, c_5_15, rfl, hs9'⟩
     have hs9 := hs8.call0 hs9'
     clear hs9'
     refine nl (kq ⟨_, hs9, memi 0 rfl, trivial⟩ ?_)
     refine tk (fuel := 0) (is := [16]) (.cons rfl (.nil)) (by kernel_rfl) (by kernel_rfl) ⟨_, hs9, memi 0 rfl, trivial⟩ (.op trivial rfl rfl (fun wq _ => asg (v := .slice A_5_15 (((bs.take (sa + n.toNat)).drop ((((sa + n.toNat : Nat) : Int) - n).toNat)).length) c_5_15) rfl) (.nil (ad (by kernel_rfl) (nN (rt (fret (v := .slice A_5_15 (((bs.take (sa + n.toNat)).drop ((((sa + n.toNat : Nat) : Int) - n).toNat)).length) c_5_15) (.tmp .nil) rfl ?_))))))
     have e6 : ((bs.take (sa + n.toNat)).drop ((((sa + n.toNat : Nat) : Int) - n).toNat)) = tkL bs (sa, sf) n.toNat := by exact tk_cut (by assumption) (by omega) (by omega) (by omega)
     have e7 : ((bs.take (sa + n.toNat)).drop ((((sa + n.toNat : Nat) : Int) - n).toNat)).length = (tkL bs (sa, sf) n.toNat).length := by exact congrArg List.length e6
     exact ⟨A_5_15, c_5_15, sa + n.toNat, sf, (slv rfl e7 rfl), (by omega), (by assumption), (by exact tkS_y (by assumption) (by omega)), (hs9.cast (lc rfl (lc (own_eq (g := I) rfl e7 rfl e6) rfl)))⟩

end Go.Proofs.YtjehmnojfpedjaaGreatDoor
