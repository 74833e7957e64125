/-
  Part of the proofs over this seat: what each function of the program computes, function by function (the text is written by a program of this hand-in's own).
  Conditions: each theorem states its own.
-/
import Derived.Test.YtbopieehnmljkaaGreatDoorProg
import Derived.KernelRfl
import Derived.Test.YtbopieehnmljkaaGreatDoorPfModel
import Derived.Test.YtbopieehnmljkaaGreatDoorPfShelf
namespace Go.Proofs.YtbopieehnmljkaaGreatDoor
open Go.PF
set_option maxRecDepth 100000
set_option linter.unusedSimpArgs false
set_option linter.unusedVariables false

theorem ag112:aggOk Tryz.prog 112 8=true:=by kernel_rfl
theorem ag166:aggOk Tryz.prog 166 2=true:=by kernel_rfl
theorem ag27:aggOk Tryz.prog 27 4=true:=by kernel_rfl
theorem ag31:aggOk Tryz.prog 31 2=true:=by kernel_rfl
theorem ag54:aggOk Tryz.prog 54 4=true:=by kernel_rfl
theorem ag60:aggOk Tryz.prog 60 6=true:=by kernel_rfl
theorem ag64:aggOk Tryz.prog 64 5=true:=by kernel_rfl
theorem ar132:arrOk Tryz.prog 132 7 9=true:=by kernel_rfl
theorem ar48:arrOk Tryz.prog 48 5 9=true:=by kernel_rfl
theorem fo112_0:fieldOk Tryz.prog 112 0 0=true:=by kernel_rfl
theorem fo112_1:fieldOk Tryz.prog 112 1 4=true:=by kernel_rfl
theorem fo162_0:fieldOk Tryz.prog 162 0 0=true:=by kernel_rfl
theorem fo162_1:fieldOk Tryz.prog 162 1 1=true:=by kernel_rfl
theorem fo162_2:fieldOk Tryz.prog 162 2 2=true:=by kernel_rfl
theorem fo166_0:fieldOk Tryz.prog 166 0 0=true:=by kernel_rfl
theorem fo166_1:fieldOk Tryz.prog 166 1 1=true:=by kernel_rfl
theorem fo27_0:fieldOk Tryz.prog 27 0 0=true:=by kernel_rfl
theorem fo27_1:fieldOk Tryz.prog 27 1 1=true:=by kernel_rfl
theorem fo27_2:fieldOk Tryz.prog 27 2 2=true:=by kernel_rfl
theorem fo27_3:fieldOk Tryz.prog 27 3 3=true:=by kernel_rfl
theorem fo31_0:fieldOk Tryz.prog 31 0 0=true:=by kernel_rfl
theorem fo31_1:fieldOk Tryz.prog 31 1 1=true:=by kernel_rfl
theorem fo38_0:fieldOk Tryz.prog 38 0 0=true:=by kernel_rfl
theorem fo38_1:fieldOk Tryz.prog 38 1 1=true:=by kernel_rfl
theorem fo54_0:fieldOk Tryz.prog 54 0 0=true:=by kernel_rfl
theorem fo54_1:fieldOk Tryz.prog 54 1 1=true:=by kernel_rfl
theorem fo54_2:fieldOk Tryz.prog 54 2 2=true:=by kernel_rfl
theorem fo54_3:fieldOk Tryz.prog 54 3 3=true:=by kernel_rfl
theorem fo60_0:fieldOk Tryz.prog 60 0 0=true:=by kernel_rfl
theorem fo60_1:fieldOk Tryz.prog 60 1 1=true:=by kernel_rfl
theorem fo60_2:fieldOk Tryz.prog 60 2 5=true:=by kernel_rfl
theorem fo64_0:fieldOk Tryz.prog 64 0 0=true:=by kernel_rfl
theorem fo64_1:fieldOk Tryz.prog 64 1 1=true:=by kernel_rfl
theorem ifc45:isIfcT Tryz.prog 45=true:=by kernel_rfl
theorem mixed:Tryz.prog.follows .mixedOrders=true:=by kernel_rfl
theorem one24:oneOk Tryz.prog 24=true:=by kernel_rfl
theorem one25:oneOk Tryz.prog 25=true:=by kernel_rfl
theorem one3:oneOk Tryz.prog 3=true:=by kernel_rfl
theorem one35:oneOk Tryz.prog 35=true:=by kernel_rfl
theorem one36:oneOk Tryz.prog 36=true:=by kernel_rfl
theorem one4:oneOk Tryz.prog 4=true:=by kernel_rfl
theorem one5:oneOk Tryz.prog 5=true:=by kernel_rfl
theorem one9:oneOk Tryz.prog 9=true:=by kernel_rfl
theorem s2_31:str2Ok Tryz.prog 31=true:=by kernel_rfl
theorem sl115:SlT Tryz.prog 115 166 2 32 (.agg #[.int .i64 0,.slice none 0 0]):=SlT.mk' (by kernel_rfl) (by kernel_rfl)
theorem sl134:SlT Tryz.prog 134 24 1 24 (.slice none 0 0):=SlT.mk' (by kernel_rfl) (by kernel_rfl)
theorem sl24:SlT Tryz.prog 24 3 1 8 (.int .i64 0):=SlT.mk' (by kernel_rfl) (by kernel_rfl)
theorem sl25:SlT Tryz.prog 25 31 2 32 (.agg #[Str [],Str []]):=SlT.mk' (by kernel_rfl) (by kernel_rfl)
theorem sl36:SlT Tryz.prog 36 5 1 1 (.int .u8 0):=SlT.mk' (by kernel_rfl) (by kernel_rfl)
theorem sl51:SlT Tryz.prog 51 9 1 16 (Str []):=SlT.mk' (by kernel_rfl) (by kernel_rfl)
theorem st9:Tryz.prog.underlying 9=some .string:=by kernel_rfl
theorem tb4:Tryz.prog.underlying 4=some .bool:=by kernel_rfl
theorem ti3:Tryz.prog.underlying 3=some (.int .i64):=by kernel_rfl
theorem ti5:Tryz.prog.underlying 5=some (.int .u8):=by kernel_rfl
theorem tp35:Tryz.prog.underlying 35=some (.pointer 38):=by kernel_rfl
theorem tp75:Tryz.prog.underlying 75=some (.pointer 5):=by kernel_rfl
theorem tu99:Tryz.prog.underlying 99=some .unsafePointer:=by kernel_rfl
theorem tz112:(Tryz.prog.info? 112).bind (·.zero)=some (.agg #[.int .i64 0,.slice none 0 0,Str [],.int .i64 0,.int .i64 0,.slice none 0 0,Str [],.int .i64 0]):=by kernel_rfl
theorem tz27:(Tryz.prog.info? 27).bind (·.zero)=some (.agg #[.int .i64 0,.slice none 0 0,.slice none 0 0,Str []]):=by kernel_rfl
theorem tz31:(Tryz.prog.info? 31).bind (·.zero)=some (.agg #[Str [],Str []]):=by kernel_rfl
theorem tz38:(Tryz.prog.info? 38).bind (·.zero)=some (.agg #[.pointer none,.slice none 0 0]):=by kernel_rfl
theorem tz54:(Tryz.prog.info? 54).bind (·.zero)=some (.agg #[.int .i64 0,.slice none 0 0,Str [],.int .i64 0]):=by kernel_rfl
theorem tz60:(Tryz.prog.info? 60).bind (·.zero)=some (.agg #[.int .i64 0,.int .i64 0,.slice none 0 0,Str [],.int .i64 0,Str []]):=by kernel_rfl
theorem tz64:(Tryz.prog.info? 64).bind (·.zero)=some (.agg #[.int .i64 0,.int .i64 0,.slice none 0 0,Str [],.int .i64 0]):=by kernel_rfl
theorem tz_38:szOk Tryz.prog 38=true:=by kernel_rfl
theorem us36:Tryz.prog.underlying 36=some (.slice 5):=by kernel_rfl
theorem sIn (x:Int) (lo:Int) (hi:Int) (w:World):Does Tryz.prog 46 [I x,I lo,I hi] w (fun v w'=>v=.bool (decide (lo≤x∧x≤hi))∧SH w w' [] []):=by
 refine fE (N:=15) Tryz.func46 r0 (by kernel_rfl) r0 ?_
 have hs0:=SH.refl w []
 refine sr (tA Z6 r0 (nx (tm (I x) r0 (tm (I lo) r0 (qt r0 (geq r0 r0) (tm (.bool (decide (lo≤x))) r0 (spd 10 r0 (fun h1=>?_) (fun h1=>?_))))))))
 ·exact qh r0 (mv (v:=I x) r0) (qh r0 (mv (v:=I hi) r0) (qh r0 (leq r0 r0) (qt r0 (pt (v:=.bool (decide (x≤hi))) r0 r0) (tA (.bool (decide (x≤hi))) r0 (nn (rt (fB r0 (by simp[*]) hs0)))))))
 exact gf5 r0 (gf5 r0 (gf5 r0 (qt r0 (pf (v:=.bool false) r0 r0) (tA Z6 r0 (nn (rt (fB r0 (by simp[*]) hs0)))))))
theorem iWithin (x:Int) (lo:Int) (hi:Int) (w:World):Does Tryz.prog 57 [I x,I lo,I hi] w (fun v w'=>v=.bool (decide (lo≤x∧x≤hi))∧SH w w' [] []):=by
 refine fE (N:=15) Tryz.func57 r0 (by kernel_rfl) r0 ?_
 have hs0:=SH.refl w []
 refine sr (tA Z6 r0 (nx (tm (I x) r0 (tm (I lo) r0 (qt r0 (geq r0 r0) (tm (.bool (decide (lo≤x))) r0 (spd 10 r0 (fun h1=>?_) (fun h1=>?_))))))))
 ·exact qh r0 (mv (v:=I x) r0) (qh r0 (mv (v:=I hi) r0) (qh r0 (leq r0 r0) (qt r0 (pt (v:=.bool (decide (x≤hi))) r0 r0) (tA (.bool (decide (x≤hi))) r0 (nn (rt (fB r0 (by simp[*]) hs0)))))))
 exact gf5 r0 (gf5 r0 (gf5 r0 (qt r0 (pf (v:=.bool false) r0 r0) (tA Z6 r0 (nn (rt (fB r0 (by simp[*]) hs0)))))))
theorem iBV1 (x:Int) (w:World):Does Tryz.prog 168 [I x] w (fun v w'=>v=.bool (decide (¬ (0≤x∧x≤255)))∧SH w w' [] []):=by
 refine fE (N:=6) Tryz.func168 r0 (by kernel_rfl) r0 ?_
 have hs0:=SH.refl w []
 refine sr (tA Z6 r0 (nx (tm (I x) r0 (cS hs0 r0 (iWithin _ 0 255 _) (fun w1 hs1=>?_)))))
 refine qt r0 (nd r0) (tA (.bool (decide (¬ (0≤x∧x≤255)))) r0 (nn (rt (fT (.bool (decide (¬ (0≤x∧x≤255)))) r0 ?_))))
 exact⟨rfl,hs1⟩
theorem sBytesValid {Azs:Option Addr} {czs:Nat} (zs:List Int) (w:World) (hzs:Sl w [] 1 Azs zs.length czs (zs.map I)):Does Tryz.prog 87 [.slice Azs zs.length czs] w (fun v w'=>v=.bool (isBytes zs)∧SH w w' [] []):=by
 refine fE (N:=19) Tryz.func87 r0 (by kernel_rfl) r0 ?_
 have hs0:=SH.refl w []
 have hzs_m:zs.length≤9223372036854775807:=Nat.le_trans hzs.cap hzs.capMax
 refine sr (tA Z6 r0 (nn (sq (sr (tA (I 0) r0 (nn (bl (lp (σ:=Nat) (fun(k:Nat) f w'=>Hz f [(0,.slice Azs zs.length czs),(3,I (k:Int))]∧(k≤zs.length)∧(allB (zs.take k)=true)∧SH w w' [] []) (fun k=>zs.length-k) 0 ⟨(zR r0),(by simp),(by simp[allB]),hs0⟩ ?_))))))))
 rintro k f w1 ⟨⟨g1,rfl⟩,hk,ha,hs1⟩
 refine sq (sr (tm (I (k:Int)) r0 (tm (Z14 Azs zs czs) r0 (qt r0 (lnA sl24 r0) (qt r0 (lss r0 r0) (nl (nN (cdd r0 (fun h1=>?_) (fun h1=>?_)))))))))
 ·refine sk (nN (sq (bl (sr (tm (Z14 Azs zs czs) r0 (tm (I (k:Int)) r0 (ixw1 k sl24 r0 r0 hzs (by omega) (getm I 0 (by omega)) trivial r0 (fun a1 ha1=>?_))))))))
  refine qt r0 (lda hs1 ha1 (fun _ h=>h) r0 r0 one3) (cS hs1 r0 (sIn _ 0 255 _) (fun w2 hs2=>?_))
  refine qt r0 (nd r0) (nn (cdd r0 (fun h2=>?_) (fun h2=>?_)))
  ·exact sr (tA Z6 r0 (nn (rt (bR (tR (tR (bR (tR (fB r0 (bytes_no1 (k:=k) (by omega) (by simpa using h2)) hs2)))))))))
  refine sk (bN (nN (rg (tm (I (k:Int)) r0 (qt r0 (add r0 r0 (by exact⟨by omega,by omega⟩)) (tA (I ((k:Int)+1)) r0 (nl (nN ?_))))))))
  refine⟨(k+1),⟨(zR r0),(by omega),(allB_step (by omega) ha (by simpa using h2)),hs2⟩,?_⟩
  omega
 refine ex (tE (tE (bE (nN (sr (tm (Z14 Azs zs czs) r0 (qt r0 (lnA sl24 r0) (qt r0 (leq r0 r0) (tA (.bool (decide ((zs.length:Int)≤120))) r0 (nl (nN (rt (fT (.bool (decide ((zs.length:Int)≤120))) r0 ?_)))))))))))))
 have e2:(decide ((zs.length:Int)≤120))=isBytes zs:=by exact bytes_yes (k:=k) (by omega) ha
 exact⟨(congrArg (Value.bool) e2),hs1⟩
theorem slIndexFunc (p:Int→Bool) {Azs:Option Addr} {czs:Nat} (zs:List Int) (kf:FuncId) (w:World) (hzs:Sl w [] 1 Azs zs.length czs (zs.map I)) (hf: ∀ (x:Int) (w:World),Does Tryz.prog kf [.int .i64 x] w (fun v w'=>v=.bool (p x)∧SH w w' [] [])):Does Tryz.prog 104 [.slice Azs zs.length czs,.func (.func kf) #[] #[]] w (fun v w'=>v=.int .i64 (idxF p zs)∧SH w w' [] []):=by
 refine fE (N:=19) Tryz.func104 r0 (by kernel_rfl) r0 ?_
 have hs0:=SH.refl w []
 have hzs_m:zs.length≤9223372036854775807:=Nat.le_trans hzs.cap hzs.capMax
 refine sr (tA (I 0) r0 (nn (sq (sr (tm (Z14 Azs zs czs) r0 (qt r0 (lnA sl24 r0) (tm (I 0) r0 (nn (bl (lp (σ:=Nat) (fun(k:Nat) f w'=>Has f [(0,.slice Azs zs.length czs),(1,.func (.func kf) #[] #[]),(7,I (zs.length:Int)),(8,I (k:Int))]∧(k≤zs.length)∧(∀ j,j<k→p (zs.getD j 0)=false)∧SH w w' [] []) (fun k=>zs.length-k) 0 ⟨(hA r0),(by simp),(by intro j hj; omega),hs0⟩ ?_))))))))))
 rintro k f w1 ⟨hf,hk,hn,hs1⟩
 obtain ⟨g1,rfl⟩:=has_upd hf
 clear hf
 refine sr (qt r0 (lss r0 r0) (nn (sq (cdd r0 (fun h1=>?_) (fun h1=>?_)))))
 ·refine sk (nN (sq (bl (sr (tm (I (k:Int)) r0 (tA (I (k:Int)) r0 (nx (tm (.func (.func kf) #[] #[]) r0 (tm (Z14 Azs zs czs) r0 (tm (I (k:Int)) r0 (ixw1 k sl24 r0 r0 hzs (by omega) (getm I 0 (by omega)) trivial r0 (fun a1 ha1=>?_))))))))))))
  refine qt r0 (lda hs1 ha1 (fun _ h=>h) r0 r0 one3) (clv (k:=kf) trivial r0 r0 (hf (zs.getD k 0) _) ?_)
  rintro _ w2 ⟨rfl,hs2⟩
  replace hs2:=hs1.call0 hs2
  refine nn (cd r0 (fun h2=>?_) (fun h2=>?_))
  ·exact sr (tm (I (k:Int)) r0 (tA (I (k:Int)) r0 (nn (rt (bR (tR (tR (bR (tR (fI r0 (idxF_eq (by omega) hn h2) hs2))))))))))
  refine sk (bN (nN (rg (qt r0 (add r0 r0 (by exact⟨by omega,by omega⟩)) (tm (I ((k:Int)+1)) r0 (nn ?_))))))
  refine⟨(k+1),⟨(hA r0),(by omega),(by intro j hj; rcases Nat.lt_succ_iff_lt_or_eq.1 hj with h | h; exact hn j h; subst h; exact h2),hs2⟩,?_⟩
  omega
 refine ex (tE (tE (bE (nN (sr (tA (I (-1)) r0 (nn (rt (fT (I (-1)) r0 ?_)))))))))
 have e2:(-1)=idxF p zs:=by exact idxF_none (fun j hj=>hn j (by omega))
 exact⟨(congrArg (Value.int .i64) e2),hs1⟩
theorem slContainsFunc (p:Int→Bool) {Azs:Option Addr} {czs:Nat} (zs:List Int) (kf:FuncId) (w:World) (hzs:Sl w [] 1 Azs zs.length czs (zs.map I)) (hf: ∀ (x:Int) (w:World),Does Tryz.prog kf [.int .i64 x] w (fun v w'=>v=.bool (p x)∧SH w w' [] [])):Does Tryz.prog 59 [.slice Azs zs.length czs,.func (.func kf) #[] #[]] w (fun v w'=>v=.bool (zs.any p)∧SH w w' [] []):=by
 refine fE (N:=9) Tryz.func59 r0 (by kernel_rfl) r0 ?_
 have hs0:=SH.refl w []
 have hzs_m:zs.length≤9223372036854775807:=Nat.le_trans hzs.cap hzs.capMax
 refine sr (tA Z6 r0 (nx (tm (Z14 Azs zs czs) r0 (tm (.func (.func kf) #[] #[]) r0 (cS hs0 r0 (slIndexFunc _ _ _ _ (hzs.up0 hs0) hf) (fun w1 hs1=>?_))))))
 refine qt r0 (geq r0 r0) (tA (.bool (decide ((0:Int)≤(idxF p zs)))) r0 (nn (rt (fT (.bool (decide ((0:Int)≤(idxF p zs)))) r0 ?_))))
 have e1:(decide ((0:Int)≤(idxF p zs)))=zs.any p:=by exact idxF_any p zs
 exact⟨(congrArg (Value.bool) e1),hs1⟩
theorem iBytesValid {Azs:Option Addr} {czs:Nat} (zs:List Int) (w:World) (hzs:Sl w [] 1 Azs zs.length czs (zs.map I)):Does Tryz.prog 122 [.slice Azs zs.length czs] w (fun v w'=>v=.bool (isBytes zs)∧SH w w' [] []):=by
 refine fE (N:=11) Tryz.func122 r0 (by kernel_rfl) r0 ?_
 have hs0:=SH.refl w []
 have hzs_m:zs.length≤9223372036854775807:=Nat.le_trans hzs.cap hzs.capMax
 refine sr (tA Z6 r0 (nx (tm (Z14 Azs zs czs) r0 (qt r0 (lnA sl24 r0) (qt r0 (leq r0 r0) (tm (.bool (decide ((zs.length:Int)≤120))) r0 (spd 6 r0 (fun h1=>?_) (fun h1=>?_))))))))
 ·refine qh r0 (mv (v:=.slice Azs zs.length czs) r0) (cl ⟨_,rfl,rfl⟩ r0 (slContainsFunc (fun x=>(decide (¬ (0≤x∧x≤255)))) _ 168 _ (hzs.up0 hs0) (fun x w=>iBV1 x w)) ?_)
  rintro _ w1 ⟨rfl,hs1⟩
  replace hs1:=hs0.call0 hs1
  refine qh r0 (nt r0) (qt r0 (pt (v:=.bool (!(zs.any (fun x=>(decide (¬ (0≤x∧x≤255))))))) r0 r0) (tA (.bool (!(zs.any (fun x=>(decide (¬ (0≤x∧x≤255))))))) r0 (nn (rt (fT (.bool (!(zs.any (fun x=>(decide (¬ (0≤x∧x≤255))))))) r0 ?_)))))
  have e1:(!(zs.any (fun x=>(decide (¬ (0≤x∧x≤255))))))=isBytes zs:=by rw[← isBytes_not]; simp[*]
  exact⟨(congrArg (Value.bool) e1),hs1⟩
 exact gf5 r0 (gf5 r0 (gf5 r0 (qt r0 (pf (v:=.bool false) r0 r0) (tA Z6 r0 (nn (rt (fB r0 (by rw[← isBytes_not]; simp[*]) hs0)))))))
theorem slIndexByte (l:List UInt8) (c:UInt8) (w:World):Does Tryz.prog 66 [Str l,.int .u8 (c.toNat:Int)] w (fun v w'=>v=.int .i64 (idxB l c)∧SH w w' [] []):=by
 refine fE (N:=8) Tryz.func66 r0 (by kernel_rfl) r0 ?_
 have hs0:=SH.refl w []
 refine sr (tA (I 0) r0 (nx (tm (Str l) r0 (tm (Z119 c) r0 (qt r0 (ibs (l:=l) (c:=c) Tryz.func112 (by kernel_rfl) r0 (by kernel_rfl) (by kernel_rfl) r0 r0) (tA (I (idxB l c)) r0 (nn (rt (fT (I (idxB l c)) r0 ?_)))))))))
 exact⟨rfl,hs0⟩
theorem stIndexByte (l:List UInt8) (c:UInt8) (w:World):Does Tryz.prog 28 [Str l,.int .u8 (c.toNat:Int)] w (fun v w'=>v=.int .i64 (idxB l c)∧SH w w' [] []):=by
 refine fE (N:=8) Tryz.func28 r0 (by kernel_rfl) r0 ?_
 have hs0:=SH.refl w []
 refine sr (tA (I 0) r0 (nx (tm (Str l) r0 (tm (Z119 c) r0 (cS hs0 r0 (slIndexByte _ _ _) (fun w1 hs1=>?_))))))
 refine tA (I (idxB l c)) r0 (nn (rt (fT (I (idxB l c)) r0 ?_)))
 exact⟨rfl,hs1⟩
theorem sDigits (w:World):Does Tryz.prog 88 [] w (fun v w'=>v=Str hexDs∧SH w w' [] []):=by
 refine fE (N:=1) Tryz.func88 r0 (by kernel_rfl) r0 ?_
 have hs0:=SH.refl w []
 refine sr (tA (Str []) r0 (nx (tA (Str hexDs) r0 (nn (rt (fT (Str hexDs) r0 ?_))))))
 exact⟨rfl,hs0⟩
theorem sDigit (c:UInt8) (w:World):Does Tryz.prog 90 [.int .u8 (c.toNat:Int)] w (fun v w'=>v=.int .i64 (idxB hexDs c)∧SH w w' [] []):=by
 refine fE (N:=14) Tryz.func90 r0 (by kernel_rfl) r0 ?_
 have hs0:=SH.refl w []
 refine sr (tA (I 0) r0 (nn (sq (sr (tA (I 0) r0 (nn (bl (lp (σ:=Nat) (fun(k:Nat) f w'=>Hz f [(0,.int .u8 (c.toNat:Int)),(3,I (k:Int))]∧(k≤16)∧(∀ j,j<k→hexDs.getD j 0≠c)∧SH w w' [] []) (fun k=>16-k) 0 ⟨(zR r0),(by simp),(by intro j hj; omega),hs0⟩ ?_))))))))
 rintro k f w1 ⟨⟨g1,rfl⟩,hk,hn,hs1⟩
 refine sq (sr (tm (I (k:Int)) r0 (qt r0 (lss r0 r0) (nn (cdd r0 (fun h1=>?_) (fun h1=>?_))))))
 ·refine sk (nN (sq (bl (sr (cS hs1 r0 (sDigits _) (fun w2 hs2=>?_))))))
  refine tm (I (k:Int)) r0 (qt r0 (ixs k st9 r0 r0 (by rw[hexDs_len]; omega)) (tm (Z119 c) r0 (qt r0 (eqi r0 r0) (nn (cdd r0 (fun h2=>?_) (fun h2=>?_))))))
  ·exact sr (tm (I (k:Int)) r0 (tA (I (k:Int)) r0 (nn (rt (bR (tR (tR (bR (tR (fI r0 (by exact(idxB_eq (by rw[hexDs_len]; omega) hn (u8_eq (by omega))).symm) hs2))))))))))
  refine sk (bN (nN (rg (tm (I (k:Int)) r0 (qt r0 (add r0 r0 (by exact⟨by omega,by omega⟩)) (tA (I ((k:Int)+1)) r0 (nl (nN ?_))))))))
  refine⟨(k+1),⟨(zR r0),(by omega),(by intro j hj; rcases Nat.lt_succ_iff_lt_or_eq.1 hj with h | h; exact hn j h; subst h; intro he; exact h2 (by rw[he])),hs2⟩,?_⟩
  omega
 refine ex (tE (tE (bE (nN (sr (tA (I (-1)) r0 (nn (rt (fT (I (-1)) r0 ?_)))))))))
 have e2:(-1)=idxB hexDs c:=by exact(idxB_none (fun j hj=>hn j (by rw[hexDs_len]at hj; omega))).symm
 exact⟨(congrArg (Value.int .i64) e2),hs1⟩
theorem sHexFrom (l:List UInt8) (w:World) (hl_n:l.length≤1099511627776):Does Tryz.prog 49 [Str l] w (fun v w'=>∃ Ar:Option Addr,∃ cr:Nat,v=.tuple #[.slice Ar ((hexFrom l).1).length cr,.bool ((hexFrom l).2)]∧SH w w' [] [.own Ar (((hexFrom l).1).length) cr 3 1 (((hexFrom l).1).map I)]):=by
 refine fE (N:=49) Tryz.func49 r0 (by kernel_rfl) r0 ?_
 have hs0:=SH.refl w []
 refine sr (tA ns r0 (tA Z6 r0 (nx (bsk hs0 sl24 [] [] trivial r0 (fun b1 w1 hs1=>?_)))))
 refine tA (sb b1 (([]:List Int).length) 0) r0 (nn (sq (sr (tm (Str l) r0 (qt r0 (lnS st9 r0) (qt r0 (rem r0 r0 (by omega) (by omega)) (qt r0 (nei r0 r0) (tm (.bool (decide (((l.length:Int) % 2)≠0))) r0 (spd 13 r0 (fun h1=>?_) (fun h1=>?_))))))))))
 ·refine gt5 r0 (gt5 r0 (gt5 r0 (qt r0 (pt (v:=.bool true) r0 r0) (nn (cdt r0 (sq (rg (tm (sb b1 (([]:List Int).length) 0) r0 (tA (sb b1 (([]:List Int).length) 0) r0 (tA Z6 r0 (nn (rt (tR (fret (.tmp (.tmp .nil)) r0 ?_))))))))))))))
  have e1:([]:List Int)=(hexFrom l).1:=by rw[hex_size (by omega)]
  have e2:=congrArg List.length e1
  have e3:false=(hexFrom l).2:=by rw[hex_size (by omega)]
  exact⟨(Z8 b1),0,(tup2 (slv r0 e2 r0) (congrArg (Value.bool) e3)),(hs1.cast (lc (own_eq (g:=I) r0 e2 r0 e1) r0))⟩
 refine qh r0 (mv (v:=Str l) r0) (qh r0 (lnS st9 r0) (qh r0 (gtr r0 r0) (qt r0 (pf (v:=.bool (decide ((240:Int)<(l.length:Int)))) r0 r0) (nn (cdd r0 (fun h2=>?_) (fun h2=>?_))))))
 ·refine sr (tm (sb b1 (([]:List Int).length) 0) r0 (tA (sb b1 (([]:List Int).length) 0) r0 (tA Z6 r0 (nn (rt (tR (fret (.tmp (.tmp .nil)) r0 ?_)))))))
  have e4:([]:List Int)=(hexFrom l).1:=by rw[hex_size (by omega)]
  have e5:=congrArg List.length e4
  have e6:false=(hexFrom l).2:=by rw[hex_size (by omega)]
  exact⟨(Z8 b1),0,(tup2 (slv r0 e5 r0) (congrArg (Value.bool) e6)),(hs1.cast (lc (own_eq (g:=I) r0 e5 r0 e4) r0))⟩
 refine sk (nN (sq (sr (tA (I 0) r0 (nn (bl ?_))))))
 have e7:([]:List Int)=hexN l 0:=by rfl
 have e8:([]:List Int).length=(hexN l 0).length:=by rw[e7]
 refine lp (σ:=(Option Addr)×Nat×Nat) (fun⟨Ag4,cg4,k⟩ f w'=>Hz f [(0,Str l),(4,.slice Ag4 ((hexN l k).length) cg4),(5,I ((2*k:Nat):Int))]∧(k≤l.length / 2)∧(∀ j,j<k→hexOk l j=true)∧SH w w' [] [.own Ag4 ((hexN l k).length) cg4 3 1 ((hexN l k).map I)]) (fun⟨Ag4,cg4,k⟩=>l.length-k) ((Z8 b1),0,0) ⟨(zH ⟨rfl,(show (.slice (Z8 b1) (([]:List Int).length) 0:Value)=.slice (Z8 b1) ((hexN l 0).length) 0 from slv r0 e8 r0),(show (I 0:Value)=I ((2*0:Nat):Int) from congrArg (Value.int .i64) (by simp)),trivial⟩),(by simp),(by intro j hj; omega),(hs1.cast (lc (own_eq (g:=I) r0 e8 r0 e7) r0))⟩ ?_
 rintro ⟨Ag4,cg4,k⟩ f w2 ⟨⟨g1,rfl⟩,hk,hg,hs2⟩
 refine sq (sr (tm (I ((2*k:Nat):Int)) r0 (tm (Str l) r0 (qt r0 (lnS st9 r0) (qt r0 (lss r0 r0) (nl (nN (cdd r0 (fun h3=>?_) (fun h3=>?_)))))))))
 ·refine sk (nN (sq (bl (sr (tm (Str l) r0 (tm (I ((2*k:Nat):Int)) r0 (qt r0 (ixs (2*k) st9 r0 r0 (by omega)) (cS hs2 r0 (sDigit _ _) (fun w3 hs3=>?_)))))))))
  refine tA (I (idxB hexDs (l.getD (2*k) 0))) r0 (nx (tm (Str l) r0 (tm (I ((2*k:Nat):Int)) r0 (qt r0 (add r0 r0 (by have:=dig_bd (l.getD (2*k) 0); have:=dig_bd (l.getD (2*k+1) 0); exact⟨by omega,by omega⟩)) (qt r0 (ixs ((2*k)+1) st9 r0 r0 (by omega)) (cS hs3 r0 (sDigit _ _) (fun w4 hs4=>?_)))))))
  refine tA (I (idxB hexDs (l.getD ((2*k)+1) 0))) r0 (nn (sq (sr (tm (I (idxB hexDs (l.getD (2*k) 0))) r0 (qt r0 (lss r0 r0) (tm (.bool (decide ((idxB hexDs (l.getD (2*k) 0))<0))) r0 (spd 36 r0 (fun h4=>?_) (fun h4=>?_))))))))
  ·refine gt5 r0 (gt5 r0 (qt r0 (pt (v:=.bool true) r0 r0) (nn (cdt r0 (sr (bsk hs4 sl24 [] [] trivial r0 (fun b2 w5 hs5=>?_)))))))
   refine tA (sb b2 (([]:List Int).length) 0) r0 (tA Z6 r0 (nn (rt (tR (bR (tR (tR (bR (tR (fret (.tmp (.tmp .nil)) r0 ?_))))))))))
   have e9:([]:List Int)=(hexFrom l).1:=by rw[hex_bad (k:=k) (by omega) (hexOk_no (by omega))]
   have e10:=congrArg List.length e9
   have e11:false=(hexFrom l).2:=by rw[hex_bad (k:=k) (by omega) (hexOk_no (by omega))]
   exact⟨(Z8 b2),0,(tup2 (slv r0 e10 r0) (congrArg (Value.bool) e11)),((hs5.pq [1] r0).cast (lc (own_eq (g:=I) r0 e10 r0 e9) r0))⟩
  refine qh r0 (mv (v:=I (idxB hexDs (l.getD ((2*k)+1) 0))) r0) (qh r0 (lss r0 r0) (qt r0 (pf (v:=.bool (decide ((idxB hexDs (l.getD ((2*k)+1) 0))<0))) r0 r0) (nn (cdd r0 (fun h5=>?_) (fun h5=>?_)))))
  ·refine sr (bsk hs4 sl24 [] [] trivial r0 (fun b3 w6 hs6=>?_))
   refine tA (sb b3 (([]:List Int).length) 0) r0 (tA Z6 r0 (nn (rt (tR (bR (tR (tR (bR (tR (fret (.tmp (.tmp .nil)) r0 ?_))))))))))
   have e12:([]:List Int)=(hexFrom l).1:=by rw[hex_bad (k:=k) (by omega) (hexOk_no (by omega))]
   have e13:=congrArg List.length e12
   have e14:false=(hexFrom l).2:=by rw[hex_bad (k:=k) (by omega) (hexOk_no (by omega))]
   exact⟨(Z8 b3),0,(tup2 (slv r0 e13 r0) (congrArg (Value.bool) e14)),((hs6.pq [1] r0).cast (lc (own_eq (g:=I) r0 e13 r0 e12) r0))⟩
  refine sk (nN (rg (tm (.slice Ag4 ((hexN l k).length) cg4) r0 (tm (I (idxB hexDs (l.getD (2*k) 0))) r0 (qt r0 (mul r0 r0 (by have:=dig_bd (l.getD (2*k) 0); have:=dig_bd (l.getD (2*k+1) 0); exact⟨by omega,by omega⟩)) (tm (I (idxB hexDs (l.getD ((2*k)+1) 0))) r0 (qt r0 (add r0 r0 (by have:=dig_bd (l.getD (2*k) 0); have:=dig_bd (l.getD (2*k+1) 0); exact⟨by omega,by omega⟩)) (bsk hs4 sl24 [I ((16*(idxB hexDs (l.getD (2*k) 0)))+(idxB hexDs (l.getD ((2*k)+1) 0)))] [I ((16*(idxB hexDs (l.getD (2*k) 0)))+(idxB hexDs (l.getD ((2*k)+1) 0)))] trivial r0 (fun b4 w7 hs7=>?_)))))))))
  refine apm (g:=I) (ys:=hexN l k) (zs:=([(16*(idxB hexDs (l.getD (2*k) 0)))+(idxB hexDs (l.getD ((2*k)+1) 0))]:List Int)) hs7 0 r0 sl24 r0 r0 r0 (hs7.sl0 1 r0) (fun _=>rfl) (by unfold maxLen; (simp; omega)) (by(simp; omega)) trivial r0 (fun A1 c1 w8 hs8=>?_)
  refine tA (.slice A1 (((hexN l k)++([(16*(idxB hexDs (l.getD (2*k) 0)))+(idxB hexDs (l.getD ((2*k)+1) 0))]:List Int)).length) c1) r0 (nl (bN (nN (rg (tm (I ((2*k:Nat):Int)) r0 (qt r0 (add r0 r0 (by have:=dig_bd (l.getD (2*k) 0); have:=dig_bd (l.getD (2*k+1) 0); exact⟨by omega,by omega⟩)) (tA (I (((2*k:Nat):Int)+2)) r0 (nn ?_))))))))
  have e15:(hexN l k)++([(16*(idxB hexDs (l.getD (2*k) 0)))+(idxB hexDs (l.getD ((2*k)+1) 0))]:List Int)=hexN l (k+1):=by exact hexN_succ l k
  have e16:((hexN l k)++([(16*(idxB hexDs (l.getD (2*k) 0)))+(idxB hexDs (l.getD ((2*k)+1) 0))]:List Int)).length=(hexN l (k+1)).length:=by rw[e15]
  refine⟨(A1,c1,k+1),⟨(zH ⟨rfl,(show (.slice A1 (((hexN l k)++([(16*(idxB hexDs (l.getD (2*k) 0)))+(idxB hexDs (l.getD ((2*k)+1) 0))]:List Int)).length) c1:Value)=.slice A1 ((hexN l (k+1)).length) c1 from slv r0 e16 r0),(show (I (((2*k:Nat):Int)+2):Value)=I ((2*(k+1):Nat):Int) from congrArg (Value.int .i64) (by omega)),trivial⟩),(by omega),(hexOk_step hg (by omega) (by omega)),((hs8.pq [1] r0).cast (lc (own_eq (g:=I) r0 e16 r0 e15) r0))⟩,?_⟩
  show l.length-(k+1)<l.length-k
  omega
 refine ex (tE (tE (bE (nN (sr (tm (.slice Ag4 ((hexN l k).length) cg4) r0 (tA (.slice Ag4 ((hexN l k).length) cg4) r0 (tA Z35 r0 (nn (rt (fret (.tmp (.tmp .nil)) r0 ?_)))))))))))
 have e17:hexN l k=(hexFrom l).1:=by rw[hex_good (by omega) (by omega) (by omega) hg]
 have e18:=congrArg List.length e17
 have e19:true=(hexFrom l).2:=by rw[hex_good (by omega) (by omega) (by omega) hg]
 exact⟨Ag4,cg4,(tup2 (slv r0 e18 r0) (congrArg (Value.bool) e19)),(hs2.cast (lc (own_eq (g:=I) r0 e18 r0 e17) r0))⟩
theorem iHexFrom (l:List UInt8) (w:World) (hl_n:l.length≤1099511627776):Does Tryz.prog 34 [Str l] w (fun v w'=>∃ Ar:Option Addr,∃ cr:Nat,v=.tuple #[.slice Ar ((hexFrom l).1).length cr,.bool ((hexFrom l).2)]∧SH w w' [] [.own Ar (((hexFrom l).1).length) cr 3 1 (((hexFrom l).1).map I)]):=by
 refine fE (N:=46) Tryz.func34 r0 (by kernel_rfl) r0 ?_
 have hs0:=SH.refl w []
 refine sr (tA ns r0 (tA Z6 r0 (nn (sq (sq (rg (tm (Str l) r0 (qt r0 (lnS st9 r0) (qt r0 (rem r0 r0 (by omega) (by omega)) (qt r0 (eqi r0 r0) (tm (.bool (decide (((l.length:Int) % 2)=1))) r0 (spd 12 r0 (fun h1=>?_) (fun h1=>?_)))))))))))))
 ·refine gt5 r0 (gt5 r0 (gt5 r0 (qt r0 (pt (v:=.bool true) r0 r0) (nn (cdt r0 (sq (rg (tA ns r0 (tA Z6 r0 (nn (rt (tR (fret (.tmp (.tmp .nil)) r0 ?_)))))))))))))
  have hs1:=hs0.nl [Z0] r0
  have e1:([]:List Int)=(hexFrom l).1:=by rw[hex_size (by omega)]
  have e2:=congrArg List.length e1
  have e3:false=(hexFrom l).2:=by rw[hex_size (by omega)]
  exact⟨none,0,(tup2 (slv r0 e2 r0) (congrArg (Value.bool) e3)),(hs1.cast (lc (own_eq (g:=I) r0 e2 r0 e1) r0))⟩
 refine qh r0 (mv (v:=Str l) r0) (qh r0 (lnS st9 r0) (qh r0 (gtr r0 r0) (qt r0 (pf (v:=.bool (decide ((240:Int)<(l.length:Int)))) r0 r0) (nn (cdd r0 (fun h2=>?_) (fun h2=>?_))))))
 ·refine sr (tA ns r0 (tA Z6 r0 (nn (rt (tR (fret (.tmp (.tmp .nil)) r0 ?_))))))
  have hs2:=hs0.nl [Z0] r0
  have e4:([]:List Int)=(hexFrom l).1:=by rw[hex_size (by omega)]
  have e5:=congrArg List.length e4
  have e6:false=(hexFrom l).2:=by rw[hex_size (by omega)]
  exact⟨none,0,(tup2 (slv r0 e5 r0) (congrArg (Value.bool) e6)),(hs2.cast (lc (own_eq (g:=I) r0 e5 r0 e4) r0))⟩
 refine sk (nN (sr (tA ns r0 (nn (sq (sr (tA (I 0) r0 (nn (bl ?_)))))))))
 have hs3:=hs0.nl [Z0] r0
 have e7:([]:List Int)=hexN l 0:=by rfl
 have e8:([]:List Int).length=(hexN l 0).length:=by rw[e7]
 refine lp (σ:=(Option Addr)×Nat×Nat) (fun⟨Ag4,cg4,k⟩ f w'=>Hz f [(0,Str l),(4,.slice Ag4 ((hexN l k).length) cg4),(5,I ((2*k:Nat):Int))]∧(k≤l.length / 2)∧(∀ j,j<k→hexOk l j=true)∧SH w w' [] [.own Ag4 ((hexN l k).length) cg4 3 1 ((hexN l k).map I)]) (fun⟨Ag4,cg4,k⟩=>l.length-k) (none,0,0) ⟨(zH ⟨rfl,(show (.slice none (([]:List Int).length) 0:Value)=.slice none ((hexN l 0).length) 0 from slv r0 e8 r0),(show (I 0:Value)=I ((2*0:Nat):Int) from congrArg (Value.int .i64) (by simp)),trivial⟩),(by simp),(by intro j hj; omega),(hs3.cast (lc (own_eq (g:=I) r0 e8 r0 e7) r0))⟩ ?_
 rintro ⟨Ag4,cg4,k⟩ f w1 ⟨⟨g1,rfl⟩,hk,hg,hs4⟩
 refine sq (sr (tm (I ((2*k:Nat):Int)) r0 (tm (Str l) r0 (qt r0 (lnS st9 r0) (qt r0 (lss r0 r0) (nl (nN (cdd r0 (fun h3=>?_) (fun h3=>?_)))))))))
 ·refine sk (nN (sq (bl (sq (rq (fun w'=>SH w w' [] [.own Ag4 ((hexN l k).length) cg4 3 1 ((hexN l k).map I)]) mixed (by kernel_rfl) hs4.drew (qA r0 (mv (v:=Str l) r0) (qA r0 (mv (v:=I ((2*k:Nat):Int)) r0) (qA r0 (ixs (2*k) st9 r0 r0 (by omega)) (qc (I (idxB hexDs (l.getD (2*k) 0))) trivial r0 (fun wq hsq=>(stIndexByte hexDs _ _).mono (fun v w' h=>⟨h.1,by simpa using hsq.call0 h.2⟩)) (qA r0 (mv (v:=Str l) r0) (qA r0 (mv (v:=I ((2*k:Nat):Int)) r0) (qA r0 (add r0 r0 (by have:=dig_bd (l.getD (2*k) 0); have:=dig_bd (l.getD (2*k+1) 0); exact⟨by omega,by omega⟩)) (qA r0 (ixs ((2*k)+1) st9 r0 r0 (by omega)) (qc (I (idxB hexDs (l.getD ((2*k)+1) 0))) trivial r0 (fun wq hsq=>(stIndexByte hexDs _ _).mono (fun v w' h=>⟨h.1,by simpa using hsq.call0 h.2⟩)) (qA r0 (asg (v:=I (idxB hexDs (l.getD (2*k) 0))) r0) (qA r0 (asg (v:=I (idxB hexDs (l.getD ((2*k)+1) 0))) r0) (qn (fun w2 hs5=>?_))))))))))))))))))
  refine nN (sq (sr (tm (I (idxB hexDs (l.getD (2*k) 0))) r0 (qt r0 (lss r0 r0) (tm (.bool (decide ((idxB hexDs (l.getD (2*k) 0))<0))) r0 (spd 34 r0 (fun h4=>?_) (fun h4=>?_)))))))
  ·refine gt5 r0 (gt5 r0 (qt r0 (pt (v:=.bool true) r0 r0) (nn (cdt r0 (sr (tA ns r0 (tA Z6 r0 (nn (rt (tR (bR (tR (tR (bR (tR (fret (.tmp (.tmp .nil)) r0 ?_))))))))))))))))
   have hs6:=hs5.nl [Z0] r0
   have e9:([]:List Int)=(hexFrom l).1:=by rw[hex_bad (k:=k) (by omega) (hexOk_no (by omega))]
   have e10:=congrArg List.length e9
   have e11:false=(hexFrom l).2:=by rw[hex_bad (k:=k) (by omega) (hexOk_no (by omega))]
   exact⟨none,0,(tup2 (slv r0 e10 r0) (congrArg (Value.bool) e11)),((hs6.pq [1] r0).cast (lc (own_eq (g:=I) r0 e10 r0 e9) r0))⟩
  refine qh r0 (mv (v:=I (idxB hexDs (l.getD ((2*k)+1) 0))) r0) (qh r0 (lss r0 r0) (qt r0 (pf (v:=.bool (decide ((idxB hexDs (l.getD ((2*k)+1) 0))<0))) r0 r0) (nn (cdd r0 (fun h5=>?_) (fun h5=>?_)))))
  ·refine sr (tA ns r0 (tA Z6 r0 (nn (rt (tR (bR (tR (tR (bR (tR (fret (.tmp (.tmp .nil)) r0 ?_)))))))))))
   have hs7:=hs5.nl [Z0] r0
   have e12:([]:List Int)=(hexFrom l).1:=by rw[hex_bad (k:=k) (by omega) (hexOk_no (by omega))]
   have e13:=congrArg List.length e12
   have e14:false=(hexFrom l).2:=by rw[hex_bad (k:=k) (by omega) (hexOk_no (by omega))]
   exact⟨none,0,(tup2 (slv r0 e13 r0) (congrArg (Value.bool) e14)),((hs7.pq [1] r0).cast (lc (own_eq (g:=I) r0 e13 r0 e12) r0))⟩
  refine sk (nN (rg (tm (.slice Ag4 ((hexN l k).length) cg4) r0 (tm (I (idxB hexDs (l.getD (2*k) 0))) r0 (qt r0 (mul r0 r0 (by have:=dig_bd (l.getD (2*k) 0); have:=dig_bd (l.getD (2*k+1) 0); exact⟨by omega,by omega⟩)) (tm (I (idxB hexDs (l.getD ((2*k)+1) 0))) r0 (qt r0 (add r0 r0 (by have:=dig_bd (l.getD (2*k) 0); have:=dig_bd (l.getD (2*k+1) 0); exact⟨by omega,by omega⟩)) (bsk hs5 sl24 [I ((16*(idxB hexDs (l.getD (2*k) 0)))+(idxB hexDs (l.getD ((2*k)+1) 0)))] [I ((16*(idxB hexDs (l.getD (2*k) 0)))+(idxB hexDs (l.getD ((2*k)+1) 0)))] trivial r0 (fun b1 w3 hs8=>?_)))))))))
  refine apm (g:=I) (ys:=hexN l k) (zs:=([(16*(idxB hexDs (l.getD (2*k) 0)))+(idxB hexDs (l.getD ((2*k)+1) 0))]:List Int)) hs8 0 r0 sl24 r0 r0 r0 (hs8.sl0 1 r0) (fun _=>rfl) (by unfold maxLen; (simp; omega)) (by(simp; omega)) trivial r0 (fun A1 c1 w4 hs9=>?_)
  refine tA (.slice A1 (((hexN l k)++([(16*(idxB hexDs (l.getD (2*k) 0)))+(idxB hexDs (l.getD ((2*k)+1) 0))]:List Int)).length) c1) r0 (nl (bN (nN (rg (tm (I ((2*k:Nat):Int)) r0 (qt r0 (add r0 r0 (by have:=dig_bd (l.getD (2*k) 0); have:=dig_bd (l.getD (2*k+1) 0); exact⟨by omega,by omega⟩)) (tA (I (((2*k:Nat):Int)+2)) r0 (nn ?_))))))))
  have e15:(hexN l k)++([(16*(idxB hexDs (l.getD (2*k) 0)))+(idxB hexDs (l.getD ((2*k)+1) 0))]:List Int)=hexN l (k+1):=by exact hexN_succ l k
  have e16:((hexN l k)++([(16*(idxB hexDs (l.getD (2*k) 0)))+(idxB hexDs (l.getD ((2*k)+1) 0))]:List Int)).length=(hexN l (k+1)).length:=by rw[e15]
  refine⟨(A1,c1,k+1),⟨(zH ⟨rfl,(show (.slice A1 (((hexN l k)++([(16*(idxB hexDs (l.getD (2*k) 0)))+(idxB hexDs (l.getD ((2*k)+1) 0))]:List Int)).length) c1:Value)=.slice A1 ((hexN l (k+1)).length) c1 from slv r0 e16 r0),(show (I (((2*k:Nat):Int)+2):Value)=I ((2*(k+1):Nat):Int) from congrArg (Value.int .i64) (by omega)),trivial⟩),(by omega),(hexOk_step hg (by omega) (by omega)),((hs9.pq [1] r0).cast (lc (own_eq (g:=I) r0 e16 r0 e15) r0))⟩,?_⟩
  show l.length-(k+1)<l.length-k
  omega
 refine ex (tE (tE (bE (nN (sr (tm (.slice Ag4 ((hexN l k).length) cg4) r0 (tA (.slice Ag4 ((hexN l k).length) cg4) r0 (tA Z35 r0 (nn (rt (fret (.tmp (.tmp .nil)) r0 ?_)))))))))))
 have e17:hexN l k=(hexFrom l).1:=by rw[hex_good (by omega) (by omega) (by omega) hg]
 have e18:=congrArg List.length e17
 have e19:true=(hexFrom l).2:=by rw[hex_good (by omega) (by omega) (by omega) hg]
 exact⟨Ag4,cg4,(tup2 (slv r0 e18 r0) (congrArg (Value.bool) e19)),(hs4.cast (lc (own_eq (g:=I) r0 e18 r0 e17) r0))⟩
theorem sHexText {Axs:Option Addr} {cxs:Nat} (xs:List Int) (w:World) (hxs:Sl w [] 1 Axs xs.length cxs (xs.map I)):Does Tryz.prog 45 [.slice Axs xs.length cxs] w (fun v w'=>v=Str (hexText xs)∧SH w w' [] []):=by
 refine fE (N:=45) Tryz.func45 r0 (by kernel_rfl) r0 ?_
 have hs0:=SH.refl w []
 have hxs_m:xs.length≤9223372036854775807:=Nat.le_trans hxs.cap hxs.capMax
 refine sr (tA (Str []) r0 (nx (tA (Str []) r0 (nn (sq (sr (tA (I 0) r0 (nn (bl (lp (σ:=Nat) (fun(k:Nat) f w'=>Hz f [(0,.slice Axs xs.length cxs),(3,Str (hexT xs k)),(4,I (k:Int))]∧(k≤xs.length)∧(0<k→isBytes xs=true)∧SH w w' [] []) (fun k=>xs.length-k) 0 ⟨(zH ⟨rfl,(show (Str []:Value)=Str (hexT xs 0) from congrArg (Str) (by rfl)),rfl,trivial⟩),(by simp),(by intro h; omega),hs0⟩ ?_))))))))))
 rintro k f w1 ⟨⟨g1,rfl⟩,hk,hb,hs1⟩
 refine sq (sr (tm (I (k:Int)) r0 (tm (Z14 Axs xs cxs) r0 (qt r0 (lnA sl24 r0) (qt r0 (lss r0 r0) (tm (.bool (decide ((k:Int)<(xs.length:Int)))) r0 (spd 9 r0 (fun h1=>?_) (fun h1=>?_))))))))
 ·refine qh r0 (mv (v:=.slice Axs xs.length cxs) r0) (cl ⟨_,rfl,rfl⟩ r0 (sBytesValid _ _ (hxs.up0 hs1)) ?_)
  rintro _ w2 ⟨rfl,hs2⟩
  replace hs2:=hs1.call0 hs2
  refine qt r0 (pt (v:=.bool (isBytes xs)) r0 r0) (nn (cd r0 (fun h2=>?_) (fun h2=>?_)))
  ·refine sk (nN (sq (bl (rq (fun w'=>SH w w' [] []) mixed (by kernel_rfl) hs2.drew (qA r0 (mv (v:=Str (hexT xs k)) r0) (qc (Str hexDs) trivial r0 (fun wq hsq=>(sDigits _).mono (fun v w' h=>⟨h.1,by simpa using hsq.call0 h.2⟩)) (qA r0 (mv (v:=.slice Axs xs.length cxs) r0) (qA r0 (mv (v:=I (k:Int)) r0) (ixq1 k sl24 r0 r0 hxs (by omega) (getm I 0 (by omega)) trivial r0 (fun a1 ha1=>?_))))))))))
   have hy:=isBytes_get (by assumption:isBytes xs=true) (k:=k) (by omega)
   refine qB r0 (fun hsq=>lda hsq ha1 (fun _ h=>h) r0 r0 one3) (qA r0 (quo (a:=xs.getD k 0) (b:=16) r0 r0 (by omega) (by omega) (by omega)) (qA r0 (mv (v:=.slice Axs xs.length cxs) r0) (qA r0 (mv (v:=I (k:Int)) r0) (ixq1 k sl24 r0 r0 hxs (by omega) (getm I 0 (by omega)) trivial r0 (fun a2 ha2=>?_)))))
   refine qB r0 (fun hsq=>lda hsq ha2 (fun _ h=>h) r0 r0 one3) (qA r0 (quo (a:=xs.getD k 0) (b:=16) r0 r0 (by omega) (by omega) (by omega)) (qA r0 (add r0 r0 (by exact⟨by omega,by omega⟩)) (qA r0 (cus (l:=hexDs) (((xs.getD k 0) / 16).toNat) ((((xs.getD k 0) / 16)+1).toNat) st9 r0 (ieq (x:=(xs.getD k 0) / 16) (by omega)) (ieq (x:=((xs.getD k 0) / 16)+1) (by omega)) (by have:=hexDs_len; omega) (by have:=hexDs_len; omega)) (qA r0 (cat r0 r0 (by have:=hexT_len xs k; have:=isBytes_len (by assumption:isBytes xs=true); simp[hexDs_len]; omega)) (qc (Str hexDs) trivial r0 (fun wq hsq=>(sDigits _).mono (fun v w' h=>⟨h.1,by simpa using hsq.call0 h.2⟩)) (qA r0 (mv (v:=.slice Axs xs.length cxs) r0) (qA r0 (mv (v:=I (k:Int)) r0) (ixq1 k sl24 r0 r0 hxs (by omega) (getm I 0 (by omega)) trivial r0 (fun a3 ha3=>?_)))))))))
   refine qB r0 (fun hsq=>lda hsq ha3 (fun _ h=>h) r0 r0 one3) (qA r0 (rem r0 r0 (by omega) (by omega)) (qA r0 (mv (v:=.slice Axs xs.length cxs) r0) (qA r0 (mv (v:=I (k:Int)) r0) (ixq1 k sl24 r0 r0 hxs (by omega) (getm I 0 (by omega)) trivial r0 (fun a4 ha4=>?_)))))
   refine qB r0 (fun hsq=>lda hsq ha4 (fun _ h=>h) r0 r0 one3) (qA r0 (rem r0 r0 (by omega) (by omega)) (qA r0 (add r0 r0 (by exact⟨by omega,by omega⟩)) (qA r0 (cus (l:=hexDs) (((xs.getD k 0) % 16).toNat) ((((xs.getD k 0) % 16)+1).toNat) st9 r0 (ieq (x:=(xs.getD k 0) % 16) (by omega)) (ieq (x:=((xs.getD k 0) % 16)+1) (by omega)) (by have:=hexDs_len; omega) (by have:=hexDs_len; omega)) (qA r0 (cat r0 r0 (by have:=hexT_len xs k; have:=isBytes_len (by assumption:isBytes xs=true); simp[hexDs_len]; omega)) (qA r0 (asg (v:=Str (((hexT xs k)++((hexDs.take ((((xs.getD k 0) / 16)+1).toNat)).drop (((xs.getD k 0) / 16).toNat)))++((hexDs.take ((((xs.getD k 0) % 16)+1).toNat)).drop (((xs.getD k 0) % 16).toNat)))) r0) (qn (fun w3 hs3=>?_)))))))
   refine bN (nN (rg (tm (I (k:Int)) r0 (qt r0 (add r0 r0 (by exact⟨by omega,by omega⟩)) (tA (I ((k:Int)+1)) r0 (nn ?_))))))
   refine⟨(k+1),⟨(zH ⟨rfl,(show (Str (((hexT xs k)++((hexDs.take ((((xs.getD k 0) / 16)+1).toNat)).drop (((xs.getD k 0) / 16).toNat)))++((hexDs.take ((((xs.getD k 0) % 16)+1).toNat)).drop (((xs.getD k 0) % 16).toNat))):Value)=Str (hexT xs (k+1)) from congrArg (Str) (by exact hexT_succ xs k)),rfl,trivial⟩),(by omega),(fun _=>h2),hs3⟩,?_⟩
   omega
  exact ex (tE (tE (bE (nN (sr (tm (Str (hexT xs k)) r0 (tA (Str (hexT xs k)) r0 (nn (rt (fS r0 (hexText_at hk hb (by exact .inr (by simpa using h2))) hs2))))))))))
 exact gf5 r0 (gf5 r0 (qt r0 (pf (v:=.bool false) r0 r0) (nn (cdf r0 (ex (tE (tE (bE (nN (sr (tm (Str (hexT xs k)) r0 (tA (Str (hexT xs k)) r0 (nn (rt (fS r0 (hexText_at hk hb (by exact .inl (by omega))) hs1)))))))))))))))
theorem copyCheckF {bb:Nat} {Abb:Option Addr} {cbb nbb:Nat} (w:World) (hbd:w.heap[bb]?=some (.cells [.pointer none,.slice Abb nbb cbb].toArray 38 (0,0))):Does Tryz.prog 30 [pB bb] w (fun v w'=>v=.tuple #[]∧SH w w' [bb] [.blk bb 38 [pB bb,.slice Abb nbb cbb]]):=by
 refine fE (N:=20) Tryz.func30 r0 (by kernel_rfl) r0 ?_
 have hs0:=SH.entry1 hbd
 refine sr (tm (pB bb) r0 (tn r0 (qt r0 (fa 0 fo38_0 r0) (qt r0 (lD (.pointer none) hs0 0 r0 one35) (qt r0 (pnil0 tp35 r0 r0) (nl (nN (cdt r0 (rg (tm (pB bb) r0 (tm (pB bb) r0 (qt r0 (toU hs0 0 r0 tp35 tu99 tz_38 (by simp) r0) (qt r0 (nesc (v:=pB bb) Tryz.func68 (by kernel_rfl) r0 (by kernel_rfl) (by kernel_rfl) r0) (qt r0 (frU hs0 0 r0 tu99 tp35 tz_38 (by kernel_rfl) r0) (tn r0 (qt r0 (fa 0 fo38_0 r0) (sT (pB bb) hs0 0 r0 one35 (fun w1 hs1=>?_))))))))))))))))))
 refine nl (fnor (v:=.tuple #[]) .nil r0 ?_)
 exact⟨rfl,hs1⟩
theorem copyCheckU {bb:Nat} {Abb:Option Addr} {cbb nbb:Nat} (w:World) (hbd:w.heap[bb]?=some (.cells [.pointer (some ⟨bb,0,none⟩),.slice Abb nbb cbb].toArray 38 (0,0))):Does Tryz.prog 30 [pB bb] w (fun v w'=>v=.tuple #[]∧SH w w' [bb] [.blk bb 38 [pB bb,.slice Abb nbb cbb]]):=by
 refine fE (N:=20) Tryz.func30 r0 (by kernel_rfl) r0 ?_
 have hs0:=SH.entry1 hbd
 refine sr (tm (pB bb) r0 (tn r0 (qt r0 (fa 0 fo38_0 r0) (qt r0 (lD (pB bb) hs0 0 r0 one35) (qt r0 (pnil1 tp35 r0 r0) (nl (nN (cdf r0 (sr (tm (pB bb) r0 (tn r0 (qt r0 (fa 0 fo38_0 r0) (qt r0 (lD (pB bb) hs0 0 r0 one35) (tm (pB bb) r0 (qt r0 (pnesz tp35 tz_38 r0 r0) (nn (cdf r0 (sk (fnor (v:=.tuple #[]) .nil r0 ?_)))))))))))))))))))
 exact⟨rfl,hs0⟩
theorem copyCheck {bb:Nat} {Abb:Option Addr} {cbb nbb:Nat} {pb:Option Addr} (w:World) (hbd:w.heap[bb]?=some (.cells [.pointer pb,.slice Abb nbb cbb].toArray 38 (0,0))) (hpb:pb=none∨pb=some ⟨bb,0,none⟩):Does Tryz.prog 30 [pB bb] w (fun v w'=>v=.tuple #[]∧SH w w' [bb] [.blk bb 38 [pB bb,.slice Abb nbb cbb]]):=by
 rcases hpb with rfl | rfl
 ·exact copyCheckF w hbd
 exact copyCheckU w hbd
theorem writeByte {bb:Nat} {pb:Option Addr} {Abb:Option Addr} {cbb:Nat} (l:List UInt8) (c:UInt8) (w:World) (hbd:w.heap[bb]?=some (.cells [.pointer pb,.slice Abb l.length cbb].toArray 38 (0,0))) (hpb:pb=none∨pb=some ⟨bb,0,none⟩) (hbo:OwnR w Abb l.length cbb 5 1 (l.map U)) (hbx: ∀ k,(It.own Abb l.length cbb 5 1 (l.map U)).has k→ ¬ (It.blk bb 38 [.pointer pb,.slice Abb l.length cbb]).has k) (hl:l.length≤1099511627776):Does Tryz.prog 135 [pB bb,.int .u8 (c.toNat:Int)] w (fun v w'=>∃ Aor:Option Addr,∃ cor:Nat,v=.nilIface∧SH w w' ([bb]++(ownM Abb cbb++[])) [.blk bb 38 [pB bb,.slice Aor ((l++[c]).length) cor],.own Aor ((l++[c]).length) cor 5 1 ((l++[c]).map U)]):=by
 refine fE (N:=17) Tryz.func135 r0 (by kernel_rfl) r0 ?_
 have hs0:SH w w ([bb]++(ownM Abb cbb++[])) [.blk bb 38 [.pointer pb,.slice Abb l.length cbb],.own Abb l.length cbb 5 1 (l.map U)]:=entryB hbd hbo hbx
 refine sr (tA (.nilIface) r0 (nx (tm (pB bb) r0 (cL r0 (copyCheck _ (blk_heap hs0 0 r0) (‹_›)) ?_))))
 rintro _ w1 ⟨rfl,hs1⟩
 replace hs1:=hs0.cK [0] [1] hs1 r0
 refine nx (tm (pB bb) r0 (tm (pB bb) r0 (tn r0 (qt r0 (fa 1 fo38_1 r0) (qt r0 (lD (.slice Abb l.length cbb) hs1 1 r0 one36) (tm (Z119 c) r0 (bsk hs1 sl36 [.int .u8 (c.toNat:Int)] [.int .u8 (c.toNat:Int)] trivial r0 (fun b1 w2 hs2=>?_))))))))
 refine apm (g:=U) (ys:=l) (zs:=([c]:List UInt8)) hs2 0 r0 sl36 r0 r0 r0 (hs2.sl0 2 r0) (fun _=>rfl) (by unfold maxLen; (simp; omega)) (by(simp; omega)) trivial r0 (fun A1 c1 w3 hs3=>?_)
 refine tn r0 (qt r0 (fa 1 fo38_1 r0) (sT (.slice A1 ((l++([c]:List UInt8)).length) c1) hs3 0 r0 one36 (fun w4 hs4=>?_)))
 refine nx (tA (.nilIface) r0 (nn (rt (fT (.nilIface) r0 ?_))))
 exact⟨A1,c1,rfl,(hs4.pk [2,1] r0)⟩
theorem bStringN {bb:Nat} {pb:Option Addr} (w:World) (hbd:w.heap[bb]?=some (.cells [.pointer pb,.slice none 0 0].toArray 38 (0,0))):Does Tryz.prog 14 [pB bb] w (fun v w'=>v=Str []∧SH w w' [bb] []):=by
 refine fE (N:=14) Tryz.func14 r0 (by kernel_rfl) r0 ?_
 have hs0:=SH.entry1 hbd
 refine sr (tA (Str []) r0 (nn (sq (ra (fun w'=>∃ L,SH w w' [bb] L∧(.blk bb 38 [.pointer pb,ns])∈L∧True) mixed ?_))))
 have hs1:=hs0.drew
 refine tk (fuel:=2) (is:=[0,1,2,3,4,5,6,7,8,9]) (.cons r0 (.cons r0 (.cons r0 (.cons r0 (.cons r0 (.cons r0 (.cons r0 (.cons r0 (.cons r0 (.cons r0 (.nil))))))))))) (by kernel_rfl) (by kernel_rfl) (m1 hs1 0 r0) (yA r0 (mv (v:=pB bb) r0) (yA r0 (nc r0) (yA r0 (fa 1 fo38_1 r0) (yB r0 (fun ⟨Lq,hsq,mh0,_⟩=>lM ns hsq mh0 r0 one36) (yA r0 (usd0 r0) (yA r0 (mv (v:=pB bb) r0) (yA r0 (nc r0) (yA r0 (fa 1 fo38_1 r0) (yB r0 (fun ⟨Lq,hsq,mh0,_⟩=>lM ns hsq mh0 r0 one36) (yA r0 (lnA sl36 r0) (.nil (a1 (i:=10) (by kernel_rfl) (one_ r0 (qt r0 (ust0 (p:=none) r0 r0) (nk (m1 hs1 0 r0) (tk (fuel:=0) (is:=[11]) (.cons r0 (.nil)) (by kernel_rfl) (by kernel_rfl) (m1 hs1 0 r0) (yA r0 (asg (v:=Str []) r0) (.nil (ad (by kernel_rfl) (nN (rt (fT (Str []) r0 ?_))))))))))))))))))))))
 exact⟨rfl,(hs1.pk [] r0)⟩
theorem bStringR {bb gb:Nat} {pb:Option Addr} {cbb:Nat} (l:List UInt8) (w:World) (hbd:w.heap[bb]?=some (.cells [.pointer pb,.slice (some ⟨gb,0,none⟩) l.length cbb].toArray 38 (0,0))) (hbo:OwnR w (some ⟨gb,0,none⟩) l.length cbb 5 1 (l.map U)) (hbx: ∀ k,(It.own (some ⟨gb,0,none⟩) l.length cbb 5 1 (l.map U)).has k→ ¬ (It.blk bb 38 [.pointer pb,.slice (some ⟨gb,0,none⟩) l.length cbb]).has k) (hl0:0<l.length) (hlc:cbb≠0):Does Tryz.prog 14 [pB bb] w (fun v w'=>v=Str l∧SH w w' ([bb]++(ownM (some ⟨gb,0,none⟩) cbb++[])) []):=by
 refine fE (N:=14) Tryz.func14 r0 (by kernel_rfl) r0 ?_
 have hs0:SH w w ([bb]++(ownM (Z8 gb) cbb++[])) [.blk bb 38 [.pointer pb,sb gb l.length cbb],.own (Z8 gb) l.length cbb 5 1 (l.map U)]:=entryB hbd hbo hbx
 refine sr (tA (Str []) r0 (nn (sq (ra (fun w'=>∃ L,SH w w' ([bb]++(ownM (Z8 gb) cbb++[])) L∧(.blk bb 38 [.pointer pb,sb gb l.length cbb])∈L∧True) mixed ?_))))
 have hs1:=hs0.drew
 refine tk (fuel:=2) (is:=[0,1,2,3,4,5,6,7,8,9]) (.cons r0 (.cons r0 (.cons r0 (.cons r0 (.cons r0 (.cons r0 (.cons r0 (.cons r0 (.cons r0 (.cons r0 (.nil))))))))))) (by kernel_rfl) (by kernel_rfl) (m1 hs1 0 r0) (yA r0 (mv (v:=pB bb) r0) (yA r0 (nc r0) (yA r0 (fa 1 fo38_1 r0) (yB r0 (fun ⟨Lq,hsq,mh0,_⟩=>lM (sb gb l.length cbb) hsq mh0 r0 one36) (yA r0 (usd (a:=⟨gb,0,none⟩) r0 (by exact hlc)) (yA r0 (mv (v:=pB bb) r0) (yA r0 (nc r0) (yA r0 (fa 1 fo38_1 r0) (yB r0 (fun ⟨Lq,hsq,mh0,_⟩=>lM (sb gb l.length cbb) hsq mh0 r0 one36) (yA r0 (lnA sl36 r0) (.nil (a1 (i:=10) (by kernel_rfl) (one_ r0 (ust (l:=l) hs1 1 r0 tp75 (by kernel_rfl) r0 r0 (by omega) trivial r0 (fun w1 hs2=>?_)))))))))))))))
 refine nk (m1 hs2 0 r0) (tk (fuel:=0) (is:=[11]) (.cons r0 (.nil)) (by kernel_rfl) (by kernel_rfl) (m1 hs2 0 r0) (yA r0 (asg (v:=Str l) r0) (.nil (ad (by kernel_rfl) (nN (rt (fT (Str l) r0 ?_)))))))
 exact⟨rfl,(hs2.pk [] r0)⟩
theorem bString {bb:Nat} {pb:Option Addr} {Abb:Option Addr} {cbb:Nat} (l:List UInt8) (w:World) (hbd:w.heap[bb]?=some (.cells [.pointer pb,.slice Abb l.length cbb].toArray 38 (0,0))) (hpb:pb=none∨pb=some ⟨bb,0,none⟩) (hbo:OwnR w Abb l.length cbb 5 1 (l.map U)) (hbx: ∀ k,(It.own Abb l.length cbb 5 1 (l.map U)).has k→ ¬ (It.blk bb 38 [.pointer pb,.slice Abb l.length cbb]).has k) (hA:l.length=0→Abb=none∧cbb=0):Does Tryz.prog 14 [pB bb] w (fun v w'=>v=Str l∧SH w w' ([bb]++(ownM Abb cbb++[])) []):=by
 rcases Nat.eq_zero_or_pos l.length with h0 | h0
 ·obtain ⟨rfl,rfl⟩:=hA h0
  have hl:l=[]:=List.eq_nil_of_length_eq_zero h0
  subst hl
  exact(bStringN w hbd).mono fun v w' h=>⟨h.1,h.2.monoM (by intro k hk; simp at hk; subst hk; simp)⟩
 obtain ⟨gb,rfl⟩:=ownR_form hbo h0
 exact bStringR l w hbd hbo hbx h0 (by have:=hbo.2.1; omega)
theorem iHexText {Axs:Option Addr} {cxs:Nat} (xs:List Int) (w:World) (hxs:Sl w [] 1 Axs xs.length cxs (xs.map I)):Does Tryz.prog 79 [.slice Axs xs.length cxs] w (fun v w'=>v=Str (hexText xs)∧SH w w' [] []):=by
 refine fE (N:=25) Tryz.func79 r0 (by kernel_rfl) r0 ?_
 have hs0:=SH.refl w []
 have hxs_m:xs.length≤9223372036854775807:=Nat.le_trans hxs.cap hxs.capMax
 refine sr (tA (Str []) r0 (nn (sq (sr (tm (Z14 Axs xs cxs) r0 (cS hs0 r0 (iBytesValid (Azs:=Axs) (czs:=cxs) (zs:=xs) (w:=_) (hzs:=(hxs.up0 hs0))) (fun w1 hs1=>?_)))))))
 refine qt r0 (nt r0) (nn (cd r0 (fun h1=>?_) (fun h1=>?_)))
 ·have h2:=nbF h1
  exact sr (tA (Str []) r0 (nn (rt (tR (fS r0 (by have h0:isBytes xs=false:=(by simpa using h1); simp[hexText,h0]) hs1)))))
 have h3:=nbT h1
 refine sk (nN (sr (al (v:=.agg #[.pointer none,ns]) (cs:=[.pointer none,ns]) hs1 tz38 r0 trivial r0 (fun b1 w2 hs2=>?_))))
 refine nn (sq (sr (tm (Z14 Axs xs cxs) r0 (qt r0 (lnA (n:=xs.length) sl24 r0) (tm (I 0) r0 (nn (bl ?_)))))))
 have hs3:=hs2.nl [Z90] r0
 have hbz:isBytes xs=true:=by simpa using h1
 have e2:([]:List UInt8)=hexT xs 0:=by rfl
 have e3:([]:List UInt8).length=(hexT xs 0).length:=by rw[e2]
 refine lp (σ:=(Option Addr)×Nat×(Option Addr)×Nat) (fun⟨Ab_,cb_,pb_,k⟩ f w'=>Hz f [(3,pB b1),(9,.slice Axs xs.length cxs),(10,I (xs.length:Int)),(11,I (k:Int))]∧(k≤xs.length)∧(pb_=none∨pb_=some ⟨b1,0,none⟩)∧(k=0→Ab_=none∧cb_=0)∧SH w w' [] [.blk b1 38 [.pointer pb_,.slice Ab_ ((hexT xs k).length) cb_],.own Ab_ ((hexT xs k).length) cb_ 5 1 ((hexT xs k).map U)]) (fun⟨Ab_,cb_,pb_,k⟩=>xs.length-k) (none,0,none,0) ⟨(zR r0),(by simp),(.inl r0),(fun _=>⟨rfl,rfl⟩),(hs3.cast (lc (congrArg (It.blk b1 38) (lc r0 (lc (slv r0 e3 r0) r0))) (lc (own_eq (g:=U) r0 e3 r0 e2) r0)))⟩ ?_
 rintro ⟨Ab_,cb_,pb_,k⟩ f w3 ⟨⟨g1,rfl⟩,hk,hpb_,hA,hs4⟩
 refine sr (qt r0 (lss (k:=.i64) (a:=(k:Int)) (b:=(xs.length:Int)) r0 r0) (nn (sq (cdd r0 (fun h4=>?_) (fun h4=>?_)))))
 ·refine sk (nN (sq (bl (sr (ixw1 k sl24 r0 r0 hxs (by omega) (getm I 0 (by omega)) trivial r0 (fun a1 ha1=>?_))))))
  refine qt r0 (lda (v:=I (xs.getD k 0)) hs4 ha1 (fun _ h=>h) r0 r0 one3) (tA (I (xs.getD k 0)) r0 (nx (tm (I (xs.getD k 0)) r0 (qt r0 (quo (a:=xs.getD k 0) (b:=16) r0 r0 (by have hy:=isBytes_get hbz (k:=k) (by omega); omega) (by have hy:=isBytes_get hbz (k:=k) (by omega); omega) (by have hy:=isBytes_get hbz (k:=k) (by omega); omega)) (qt r0 (ixs (l:=hexDs) (((xs.getD k 0) / 16).toNat) st9 r0 (ieq (x:=(xs.getD k 0) / 16) (by have hy:=isBytes_get hbz (k:=k) (by omega); omega)) (by have hy:=isBytes_get hbz (k:=k) (by omega); have:=hexDs_len; omega)) (cL r0 (writeByte (bb:=b1) (pb:=pb_) (Abb:=Ab_) (cbb:=cb_) (l:=hexT xs k) (c:=(hexDs.getD (((xs.getD k 0) / 16).toNat) 0)) (w:=_) (hbd:=(blk_heap hs4 0 r0)) (hpb:=(by assumption)) (hbo:=(own_ok hs4 1 r0)) (hbx:=(it_dis hs4 1 0 (by decide) r0 r0)) (hl:=(by have:=hexT_len xs k; have:=isBytes_len hbz; (try simp); omega))) ?_))))))
  rintro _ w4 ⟨Ao1,co1,rfl,hs5⟩
  replace hs5:=hs4.cK [0,1] [] hs5 r0
  refine nn (rg (tm (I (xs.getD k 0)) r0 (qt r0 (rem (a:=xs.getD k 0) (b:=16) r0 r0 (by have hy:=isBytes_get hbz (k:=k) (by omega); omega) (by have hy:=isBytes_get hbz (k:=k) (by omega); omega)) (qt r0 (ixs (l:=hexDs) (((xs.getD k 0) % 16).toNat) st9 r0 (ieq (x:=(xs.getD k 0) % 16) (by have hy:=isBytes_get hbz (k:=k) (by omega); omega)) (by have hy:=isBytes_get hbz (k:=k) (by omega); have:=hexDs_len; omega)) (cL r0 (writeByte (bb:=b1) (pb:=(Z8 b1)) (Abb:=Ao1) (cbb:=co1) (l:=(hexT xs k)++[(hexDs.getD (((xs.getD k 0) / 16).toNat) 0)]) (c:=(hexDs.getD (((xs.getD k 0) % 16).toNat) 0)) (w:=_) (hbd:=(blk_heap hs5 0 r0)) (hpb:=(.inr r0)) (hbo:=(own_ok hs5 1 r0)) (hbx:=(it_dis hs5 1 0 (by decide) r0 r0)) (hl:=(by have:=hexT_len xs k; have:=isBytes_len hbz; (try simp); omega))) ?_)))))
  rintro _ w5 ⟨Ao2,co2,rfl,hs6⟩
  replace hs6:=hs5.cK [0,1] [] hs6 r0
  refine nl (bN (nN (rg (qt r0 (add (a:=(k:Int)) (b:=1) r0 r0 (by exact⟨by omega,by omega⟩)) (tm (I ((k:Int)+1)) r0 (nn ?_))))))
  have e4:((hexT xs k)++[(hexDs.getD (((xs.getD k 0) / 16).toNat) 0)])++[(hexDs.getD (((xs.getD k 0) % 16).toNat) 0)]=hexT xs (k+1):=by exact hexT_succ2 hbz (by omega)
  have e5:(((hexT xs k)++[(hexDs.getD (((xs.getD k 0) / 16).toNat) 0)])++[(hexDs.getD (((xs.getD k 0) % 16).toNat) 0)]).length=(hexT xs (k+1)).length:=by rw[e4]
  refine⟨(Ao2,co2,(Z8 b1),k+1),⟨(zR r0),(by omega),(.inr r0),(fun h=>by omega),(hs6.cast (lc (congrArg (It.blk b1 38) (lc r0 (lc (slv r0 e5 r0) r0))) (lc (own_eq (g:=U) r0 e5 r0 e4) r0)))⟩,?_⟩
  show xs.length-(k+1)<xs.length-k
  omega
 refine ex (tE (tE (bE (nN (sr (cL r0 (bString (bb:=b1) (pb:=pb_) (Abb:=Ab_) (cbb:=cb_) (l:=hexT xs k) (w:=_) (hbd:=(blk_heap hs4 0 r0)) (hpb:=(by assumption)) (hbo:=(own_ok hs4 1 r0)) (hbx:=(it_dis hs4 1 0 (by decide) r0 r0)) (hA:=(by intro h0; rw[hexT_len2 hbz k hk]at h0; exact hA (by omega)))) ?_))))))
 rintro _ w6 ⟨rfl,hs7⟩
 replace hs7:=hs4.cK [0,1] [] hs7 r0
 refine tA (Str (hexT xs k)) r0 (nn (rt (fT (Str (hexT xs k)) r0 ?_)))
 have e6:(hexT xs k)=hexText xs:=by have h0:k=xs.length:=(by omega); subst h0; rw[hexText,if_pos hbz]
 exact⟨(congrArg (Str) e6),hs7⟩
theorem iLetter (c:UInt8) (w:World):Does Tryz.prog 194 [.int .u8 (c.toNat:Int)] w (fun v w'=>v=.bool (decide (97≤(c.toNat:Int)∧(c.toNat:Int)≤122))∧SH w w' [] []):=by
 refine fE (N:=9) Tryz.func194 r0 (by kernel_rfl) r0 ?_
 have hs0:=SH.refl w []
 refine sr (tA Z6 r0 (nx (tm (Z119 c) r0 (qt r0 (geq r0 r0) (tm (.bool (decide ((97:Int)≤(c.toNat:Int)))) r0 (spd 5 r0 (fun h1=>?_) (fun h1=>?_)))))))
 ·refine qh r0 (mv (v:=.int .u8 (c.toNat:Int)) r0) (qh r0 (leq r0 r0) (qt r0 (pt (v:=.bool (decide ((c.toNat:Int)≤122))) r0 r0) (tA (.bool (decide ((c.toNat:Int)≤122))) r0 (nn (rt (fT (.bool (decide ((c.toNat:Int)≤122))) r0 ?_))))))
  have e1:(decide ((c.toNat:Int)≤122))=(decide (97≤(c.toNat:Int)∧(c.toNat:Int)≤122)):=by simp[h1]
  exact⟨(congrArg (Value.bool) e1),hs0⟩
 refine gf5 r0 (gf5 r0 (qt r0 (pf (v:=.bool false) r0 r0) (tA Z6 r0 (nn (rt (fT Z6 r0 ?_))))))
 have e2:false=(decide (97≤(c.toNat:Int)∧(c.toNat:Int)≤122)):=by simp[h1]
 exact⟨(congrArg (Value.bool) e2),hs0⟩
theorem iDigit (c:UInt8) (w:World):Does Tryz.prog 195 [.int .u8 (c.toNat:Int)] w (fun v w'=>v=.bool (decide (48≤(c.toNat:Int)∧(c.toNat:Int)≤57))∧SH w w' [] []):=by
 refine fE (N:=9) Tryz.func195 r0 (by kernel_rfl) r0 ?_
 have hs0:=SH.refl w []
 refine sr (tA Z6 r0 (nx (tm (Z119 c) r0 (qt r0 (geq r0 r0) (tm (.bool (decide ((48:Int)≤(c.toNat:Int)))) r0 (spd 5 r0 (fun h1=>?_) (fun h1=>?_)))))))
 ·refine qh r0 (mv (v:=.int .u8 (c.toNat:Int)) r0) (qh r0 (leq r0 r0) (qt r0 (pt (v:=.bool (decide ((c.toNat:Int)≤57))) r0 r0) (tA (Z137 c) r0 (nn (rt (fT (Z137 c) r0 ?_))))))
  have e1:(decide ((c.toNat:Int)≤57))=(decide (48≤(c.toNat:Int)∧(c.toNat:Int)≤57)):=by simp[h1]
  exact⟨(congrArg (Value.bool) e1),hs0⟩
 refine gf5 r0 (gf5 r0 (qt r0 (pf (v:=.bool false) r0 r0) (tA Z6 r0 (nn (rt (fT Z6 r0 ?_))))))
 have e2:false=(decide (48≤(c.toNat:Int)∧(c.toNat:Int)≤57)):=by simp[h1]
 exact⟨(congrArg (Value.bool) e2),hs0⟩
theorem sLetter (c:UInt8) (w:World):Does Tryz.prog 136 [.int .u8 (c.toNat:Int)] w (fun v w'=>v=.bool (letC c)∧SH w w' [] []):=by
 refine fE (N:=21) Tryz.func136 r0 (by kernel_rfl) r0 ?_
 have hs0:=SH.refl w []
 refine sr (tA Z6 r0 (nx (tm (Z119 c) r0 (qt r0 (geq r0 r0) (tm (.bool (decide ((97:Int)≤(c.toNat:Int)))) r0 (spd 5 r0 (fun h1=>?_) (fun h1=>?_)))))))
 ·refine qh r0 (mv (v:=.int .u8 (c.toNat:Int)) r0) (qh r0 (leq r0 r0) (qt r0 (pt (v:=.bool (decide ((c.toNat:Int)≤122))) r0 r0) (tm (.bool (decide ((c.toNat:Int)≤122))) r0 (spd 9 r0 (fun h2=>?_) (fun h2=>?_)))))
  ·refine gt5 r0 (gt5 r0 (gt5 r0 (gku r0 r0 r0 r0 r0 (gku r0 r0 r0 r0 r0 (gt5 r0 (qt r0 (pt (v:=.bool true) r0 r0) (tm Z35 r0 (gt5 r0 (gt5 r0 (qt r0 (pt (v:=.bool true) r0 r0) (tA Z35 r0 (nn (rt (fT Z35 r0 ?_))))))))))))))
   have e1:true=letC c:=by simp only[letC]; (simp; omega)
   exact⟨(congrArg (Value.bool) e1),hs0⟩
  refine qh r0 (mv (v:=.int .u8 (c.toNat:Int)) r0) (qh r0 (geq r0 r0) (qh r0 (mv (v:=.bool (decide ((48:Int)≤(c.toNat:Int)))) r0) (spd 12 r0 (fun h3=>?_) (fun h3=>?_))))
  ·refine qh r0 (mv (v:=.int .u8 (c.toNat:Int)) r0) (qh r0 (leq r0 r0) (qh r0 (pt (v:=.bool (decide ((c.toNat:Int)≤57))) r0 r0) (qt r0 (pf (v:=.bool (decide ((c.toNat:Int)≤57))) r0 r0) (tm (Z137 c) r0 (spd 17 r0 (fun h4=>?_) (fun h4=>?_))))))
   ·refine gt5 r0 (gt5 r0 (qt r0 (pt (v:=.bool true) r0 r0) (tA Z35 r0 (nn (rt (fT Z35 r0 ?_))))))
    have e2:true=letC c:=by simp only[letC]; (simp; omega)
    exact⟨(congrArg (Value.bool) e2),hs0⟩
   refine qh r0 (mv (v:=.int .u8 (c.toNat:Int)) r0) (qh r0 (eqi r0 r0) (qt r0 (pf (v:=.bool (decide ((c.toNat:Int)=45))) r0 r0) (tA (Z86 c) r0 (nn (rt (fT (Z86 c) r0 ?_))))))
   have e3:(decide ((c.toNat:Int)=45))=letC c:=by simp only[letC]; simp[h1,h2,h3,h4]
   exact⟨(congrArg (Value.bool) e3),hs0⟩
  refine gf5 r0 (gf5 r0 (qh r0 (pf (v:=.bool false) r0 r0) (qt r0 (pf (v:=.bool false) r0 r0) (tm Z6 r0 (qh r0 (mv (v:=.int .u8 (c.toNat:Int)) r0) (qh r0 (eqi r0 r0) (qt r0 (pf (v:=.bool (decide ((c.toNat:Int)=45))) r0 r0) (tA (Z86 c) r0 (nn (rt (fT (Z86 c) r0 ?_)))))))))))
  have e4:(decide ((c.toNat:Int)=45))=letC c:=by simp only[letC]; (simp; omega)
  exact⟨(congrArg (Value.bool) e4),hs0⟩
 refine gf5 r0 (gf5 r0 (qt r0 (pf (v:=.bool false) r0 r0) (tm Z6 r0 (qh r0 (mv (v:=.int .u8 (c.toNat:Int)) r0) (qh r0 (geq r0 r0) (qh r0 (mv (v:=.bool (decide ((48:Int)≤(c.toNat:Int)))) r0) (spd 12 r0 (fun h5=>?_) (fun h5=>?_))))))))
 ·refine qh r0 (mv (v:=.int .u8 (c.toNat:Int)) r0) (qh r0 (leq r0 r0) (qh r0 (pt (v:=.bool (decide ((c.toNat:Int)≤57))) r0 r0) (qt r0 (pf (v:=.bool (decide ((c.toNat:Int)≤57))) r0 r0) (tm (Z137 c) r0 (spd 17 r0 (fun h6=>?_) (fun h6=>?_))))))
  ·refine gt5 r0 (gt5 r0 (qt r0 (pt (v:=.bool true) r0 r0) (tA Z35 r0 (nn (rt (fT Z35 r0 ?_))))))
   have e5:true=letC c:=by simp only[letC]; (simp; omega)
   exact⟨(congrArg (Value.bool) e5),hs0⟩
  refine qh r0 (mv (v:=.int .u8 (c.toNat:Int)) r0) (qh r0 (eqi r0 r0) (qt r0 (pf (v:=.bool (decide ((c.toNat:Int)=45))) r0 r0) (tA (Z86 c) r0 (nn (rt (fT (Z86 c) r0 ?_))))))
  have e6:(decide ((c.toNat:Int)=45))=letC c:=by simp only[letC]; simp[h1,h5,h6]
  exact⟨(congrArg (Value.bool) e6),hs0⟩
 refine gf5 r0 (gf5 r0 (qh r0 (pf (v:=.bool false) r0 r0) (qt r0 (pf (v:=.bool false) r0 r0) (tm Z6 r0 (qh r0 (mv (v:=.int .u8 (c.toNat:Int)) r0) (qh r0 (eqi r0 r0) (qt r0 (pf (v:=.bool (decide ((c.toNat:Int)=45))) r0 r0) (tA (Z86 c) r0 (nn (rt (fT (Z86 c) r0 ?_)))))))))))
 have e7:(decide ((c.toNat:Int)=45))=letC c:=by simp only[letC]; simp[h1,h5]
 exact⟨(congrArg (Value.bool) e7),hs0⟩
theorem isPort (x:Int) (w:World):Does Tryz.prog 160 [I x] w (fun v w'=>v=.bool (decide (0≤x∧x≤65535))∧SH w w' [] []):=by
 refine fE (N:=5) Tryz.func160 r0 (by kernel_rfl) r0 ?_
 have hs0:=SH.refl w []
 refine sr (tA Z6 r0 (nx (tm (I x) r0 (cS hs0 r0 (iWithin _ 0 65535 _) (fun w1 hs1=>?_)))))
 refine tA (.bool (decide (0≤x∧x≤65535))) r0 (nn (rt (fT (.bool (decide (0≤x∧x≤65535))) r0 ?_)))
 exact⟨rfl,hs1⟩
theorem iConsists (l:List UInt8) (m:List UInt8) (w:World) (hl_n:l.length≤9223372036854775807):Does Tryz.prog 156 [Str l,Str m] w (fun v w'=>v=.bool (l.all (okC m))∧SH w w' [] []):=by
 refine fE (N:=32) Tryz.func156 r0 (by kernel_rfl) r0 ?_
 have hs0:=SH.refl w []
 refine sr (tA Z6 r0 (nn (sq (sr (tm (Str l) r0 (qt r0 (lnS st9 r0) (tm (I 0) r0 (nn (bl (lp (σ:=Nat) (fun(k:Nat) f w'=>Hz f [(0,Str l),(1,Str m),(7,I (l.length:Int)),(8,I (k:Int))]∧(k≤l.length)∧((l.take k).all (okC m)=true)∧SH w w' [] []) (fun k=>l.length-k) 0 ⟨(zR r0),(by simp),(by simp),hs0⟩ ?_))))))))))
 rintro k f w1 ⟨⟨g1,rfl⟩,hk,ha,hs1⟩
 refine sr (qt r0 (lss r0 r0) (nn (sq (cdd r0 (fun h1=>?_) (fun h1=>?_)))))
 ·refine sk (nN (sq (bl (sr (tm (I (k:Int)) r0 (tA (I (k:Int)) r0 (nx (tm (Str l) r0 (tm (I (k:Int)) r0 (qt r0 (ixs k st9 r0 r0 (by omega)) (cS hs1 r0 (iLetter _ _) (fun w2 hs2=>?_))))))))))))
  refine qt r0 (nd r0) (tm (.bool (decide (¬ (97≤(((l.getD k 0).toNat:Nat):Int)∧(((l.getD k 0).toNat:Nat):Int)≤122)))) r0 (spd 16 r0 (fun h2=>?_) (fun h2=>?_)))
  ·refine qh r0 (mv (v:=Str l) r0) (qh r0 (mv (v:=I (k:Int)) r0) (qh r0 (ixs k st9 r0 r0 (by omega)) (cl ⟨_,rfl,rfl⟩ r0 (iDigit _ _) ?_)))
   rintro _ w3 ⟨rfl,hs3⟩
   replace hs3:=hs2.call0 hs3
   refine qh r0 (nd r0) (qt r0 (pt (v:=.bool (decide (¬ (48≤(((l.getD k 0).toNat:Nat):Int)∧(((l.getD k 0).toNat:Nat):Int)≤57)))) r0 r0) (tm (.bool (decide (¬ (48≤(((l.getD k 0).toNat:Nat):Int)∧(((l.getD k 0).toNat:Nat):Int)≤57)))) r0 (spd 23 r0 (fun h3=>?_) (fun h3=>?_))))
   ·refine qh r0 (mv (v:=Str m) r0) (qh r0 (mv (v:=Str l) r0) (qh r0 (mv (v:=I (k:Int)) r0) (qh r0 (ixs k st9 r0 r0 (by omega)) (cl ⟨_,rfl,rfl⟩ r0 (stIndexByte _ _ _) ?_))))
    rintro _ w4 ⟨rfl,hs4⟩
    replace hs4:=hs3.call0 hs4
    refine qh r0 (lss r0 r0) (qt r0 (pt (v:=.bool (decide ((idxB m (l.getD k 0))<0))) r0 r0) (nn (cdd r0 (fun h4=>?_) (fun h4=>?_))))
    ·exact sr (tA Z6 r0 (nn (rt (bR (tR (tR (bR (tR (fB r0 (by exact(all_no (d:=0) (k:=k) (by omega) (by simp only[okC,decide_eq_false_iff_not]; omega)).symm) hs4)))))))))
    refine sk (bN (nN (rg (qt r0 (add r0 r0 (by exact⟨by omega,by omega⟩)) (tm (I ((k:Int)+1)) r0 (nn ?_))))))
    refine⟨(k+1),⟨(zR r0),(by omega),(all_step (d:=0) (by omega) ha (by simp only[okC,decide_eq_true_eq]; omega)),hs4⟩,?_⟩
    omega
   refine gf5 r0 (gf5 r0 (gf5 r0 (gf5 r0 (gf5 r0 (gf5 r0 (qt r0 (pf (v:=.bool false) r0 r0) (nl (nN (cdf r0 (sk (bN (nN (rg (qt r0 (add r0 r0 (by exact⟨by omega,by omega⟩)) (tm (I ((k:Int)+1)) r0 (nn ?_))))))))))))))))
   refine⟨(k+1),⟨(zR r0),(by omega),(all_step (d:=0) (by omega) ha (by simp only[okC,decide_eq_true_eq]; omega)),hs3⟩,?_⟩
   omega
  refine gf5 r0 (gf5 r0 (gf5 r0 (gf5 r0 (gf5 r0 (qt r0 (pf (v:=.bool false) r0 r0) (tm Z6 r0 (gf5 r0 (gf5 r0 (gf5 r0 (gf5 r0 (gf5 r0 (gf5 r0 (qt r0 (pf (v:=.bool false) r0 r0) (nn (cdf r0 (sk (bN (nN (rg (qt r0 (add r0 r0 (by exact⟨by omega,by omega⟩)) (tm (I ((k:Int)+1)) r0 (nl (nN ?_)))))))))))))))))))))))
  refine⟨(k+1),⟨(zR r0),(by omega),(all_step (d:=0) (by omega) ha (by simp only[okC,decide_eq_true_eq]; omega)),hs2⟩,?_⟩
  omega
 refine ex (tE (tE (bE (nN (sr (tA Z35 r0 (nn (rt (fT Z35 r0 ?_)))))))))
 have e2:true=l.all (okC m):=by exact(all_yes (by omega) ha).symm
 exact⟨(congrArg (Value.bool) e2),hs1⟩
theorem slClone {Axs:Option Addr} {cxs:Nat} (xs:List Int) (w:World) (hxs:Sl w [] 1 Axs xs.length cxs (xs.map I)) (hxs_n:xs.length≤1099511627776):Does Tryz.prog 55 [.slice Axs xs.length cxs] w (fun v w'=>∃ Ar:Option Addr,∃ cr:Nat,v=.slice Ar xs.length cr∧SH w w' [] [.own Ar xs.length cr 3 1 (xs.map I)]):=by
 refine fE (N:=8) Tryz.func55 r0 (by kernel_rfl) r0 ?_
 have hs0:=SH.refl w []
 have hxs_m:xs.length≤9223372036854775807:=Nat.le_trans hxs.cap hxs.capMax
 refine sr (tA ns r0 (nn (sq (sr (tm (Z14 Axs xs cxs) r0 (qt r0 (slnil (A:=Axs) sl24 r0 r0) (nn (cdd r0 (fun h1=>?_) (fun h1=>?_)))))))))
 ·refine sr (tA ns r0 (nn (rt (tR (fT ns r0 ?_)))))
  have hs1:=hs0.nl [Z0] r0
  have e1:([]:List Int)=xs:=by exact(sl_none hxs ‹_›).symm
  have e2:=congrArg List.length e1
  exact⟨none,0,(slv r0 e2 r0),(hs1.cast (lc (own_eq (g:=I) r0 e2 r0 e1) r0))⟩
 refine sk (nN (sr (bsk hs0 sl24 [] [] trivial r0 (fun b1 w1 hs2=>?_))))
 refine tm (Z14 Axs xs cxs) r0 (apm (g:=I) (ys:=([]:List Int)) (zs:=xs) hs2 0 r0 sl24 r0 r0 r0 (hxs.up0 hs2) (fun _=>rfl) (by unfold maxLen; (simp; omega)) (by(simp; omega)) trivial r0 (fun A1 c1 w2 hs3=>?_))
 refine tA (.slice A1 xs.length c1) r0 (nn (rt (fT (.slice A1 xs.length c1) r0 ?_)))
 exact⟨A1,c1,rfl,hs3⟩
theorem slGrow (n:Int) (w:World) (hn:0≤n∧n≤1099511627776):Does Tryz.prog 167 [ns,I n] w (fun v w'=>∃ Ar:Option Addr,∃ cr:Nat,v=.slice Ar ([]:List Int).length cr∧SH w w' [] [.own Ar (([]:List Int).length) cr 3 1 (([]:List Int).map I)]):=by
 refine fE (N:=27) Tryz.func167 r0 (by kernel_rfl) r0 ?_
 have hs0:=SH.refl w []
 refine sr (tA ns r0 (nn (sq (sr (tm (I n) r0 (qt r0 (lss r0 r0) (nn (cdd r0 (fun h1=>absurd h1 (by omega)) (fun h1=>?_)))))))))
 refine sk (nN (sq (sr (tm (I n) r0 (tm ns r0 (qt r0 (lnC (c:=0) sl24 r0) (tm ns r0 (qt r0 (lnA sl24 r0) (qt r0 (sub r0 r0 (by exact⟨by omega,by omega⟩)) (qt r0 (sub r0 r0 (by exact⟨by omega,by omega⟩)) (tA (I (n-((0:Int)-0))) r0 (nn (sq (rg (tm (I (n-((0:Int)-0))) r0 (qt r0 (gtr r0 r0) (nn (cdd r0 (fun h2=>?_) (fun h2=>?_)))))))))))))))))))
 ·refine rg (tm ns r0 (tm ns r0 (qt r0 (lnC (c:=0) sl24 r0) (qt r0 (cun sl24 r0 r0) (tm (I (n-((0:Int)-0))) r0 (apz (g:=I) (zz:=0) (m:=(n-((0:Int)-0)).toNat) hs0 sl24 r0 ti3 r0 (ieq (x:=n-((0:Int)-0)) (by omega)) (by omega) (by unfold maxLen; omega) (by omega) trivial r0 (fun A1 c1 w1 hs1=>?_)))))))
  refine tm ns r0 (qt r0 (lnA sl24 r0) ?_)
  have e1:((List.replicate ((n-((0:Int)-0)).toNat) (0:Int)).map I).take (0*1)=(Z59 n).map I:=by rfl
  have hs2:SH w w1 [] [.own A1 0 c1 3 1 ((Z59 n).map I)]:=e1 ▸ SH.trunc hs1 0 (0) r0 (by omega)
  refine qt r0 (cuh 0 sl24 r0 r0 (Nat.le_trans (by omega) (own_cap hs1 0 r0).1)) (tA (.slice A1 0 c1) r0 ?_)
  have e2:0=(Z59 n).length:=by rfl
  have hs3:SH w w1 [] [.own A1 ((Z59 n).length) c1 3 1 ((Z59 n).map I)]:=(hs2.cast (lc (own_eq (g:=I) r0 e2 r0 r0) r0))
  refine re 0 (v:=.slice A1 ((Z59 n).length) c1) (show (.slice A1 0 c1:Value)=.slice A1 ((Z59 n).length) c1 from slv r0 e2 r0) (nx (tm (.slice A1 ((Z59 n).length) c1) r0 (tA (.slice A1 ((Z59 n).length) c1) r0 (nl (nN (rt (fT (.slice A1 ((Z59 n).length) c1) r0 ?_)))))))
  have e3:(List.replicate ((n-((0:Int)-0)).toNat) (0:Int)).take 0=([]:List Int):=by rfl
  have e4:=congrArg List.length e3
  exact⟨A1,c1,(slv r0 e4 r0),(hs3.cast (lc (own_eq (g:=I) r0 e4 r0 e3) r0))⟩
 refine sk (nN (sr (tm ns r0 (tA ns r0 (nn (rt (fT ns r0 ?_)))))))
 have hs4:=hs0.nl [Z0] r0
 exact⟨none,0,rfl,hs4⟩
theorem slConcat {Ahs:Option Addr} {chs:Nat} (hs:List Hd) (w:World) (hhs:Sl w [] 1 Ahs hs.length chs (hs.map hv)) (hhs_in: ∀ u∈hs,HdOk w [] u) (hct:(catH hs).length≤1099511627776):Does Tryz.prog 121 [.slice Ahs hs.length chs] w (fun v w'=>∃ Ar:Option Addr,∃ cr:Nat,v=.slice Ar (catH hs).length cr∧SH w w' [] [.own Ar ((catH hs).length) cr 3 1 ((catH hs).map I)]):=by
 refine fE (N:=36) Tryz.func121 r0 (by kernel_rfl) r0 ?_
 have hs0:=SH.refl w []
 have hhs_m:hs.length≤9223372036854775807:=Nat.le_trans hhs.cap hhs.capMax
 refine sr (tA ns r0 (nx (tA (I 0) r0 (nn (sq (sr (tm (.slice Ahs hs.length chs) r0 (qt r0 (lnA sl134 r0) (tm (I 0) r0 (nn (bl (lp (σ:=Nat) (fun(k:Nat) f w'=>Hz f [(0,.slice Ahs hs.length chs),(3,I ((catH (hs.take k)).length:Int)),(9,.slice Ahs hs.length chs),(10,I (hs.length:Int)),(11,I (k:Int))]∧(k≤hs.length)∧SH w w' [] []) (fun k=>hs.length-k) 0 ⟨(zH ⟨rfl,(show (I 0:Value)=I ((catH (hs.take 0)).length:Int) from congrArg (Value.int .i64) (by simp[catH])),rfl,rfl,rfl,trivial⟩),(by simp),hs0⟩ ?_))))))))))))
 rintro k f w1 ⟨⟨g1,rfl⟩,hk,hs1⟩
 refine sr (qt r0 (lss r0 r0) (nn (sq (cdd r0 (fun h1=>?_) (fun h1=>?_)))))
 ·refine sk (nN (sq (bl (sr (ixw1 k sl134 r0 r0 hhs (by omega) (getm hv hd0 (by omega)) trivial r0 (fun a1 ha1=>?_))))))
  refine qt r0 (lda hs1 ha1 (fun _ h=>h) r0 r0 one24) (tA (Z89 hs k) r0 (nx (tm (I ((catH (hs.take k)).length:Int)) r0 (tm (Z89 hs k) r0 (qt r0 (lnA sl24 r0) (qt r0 (add r0 r0 (by have hq:=catH_len (l:=hs) (k:=k+1); rw[← catH_succ (by omega),List.length_append]at hq; exact⟨by omega,by omega⟩)) (tA (I (((catH (hs.take k)).length:Int)+((((hs.getD k hd0).xs).length:Nat):Int))) r0 (nx (tm (I (((catH (hs.take k)).length:Int)+((((hs.getD k hd0).xs).length:Nat):Int))) r0 (qt r0 (lss r0 r0) (nn (cdd r0 (fun h2=>absurd h2 (by omega)) (fun h2=>?_)))))))))))))
  refine sk (bN (nN (rg (qt r0 (add r0 r0 (by exact⟨by omega,by omega⟩)) (tm (I ((k:Int)+1)) r0 (nn ?_))))))
  refine⟨(k+1),⟨(zH ⟨rfl,(show (I (((catH (hs.take k)).length:Int)+((((hs.getD k hd0).xs).length:Nat):Int)):Value)=I ((catH (hs.take (k+1))).length:Int) from congrArg (Value.int .i64) (by rw[← catH_succ (by omega)]; simp)),rfl,rfl,rfl,trivial⟩),(by omega),hs1⟩,?_⟩
  omega
 refine ex (tE (tE (bE (nN (sr (tm (I ((catH (hs.take k)).length:Int)) r0 (cS2 hs1 r0 (slGrow _ _ (by have hq:=catH_len (l:=hs) (k:=k); omega)) (fun A1 c1 w2 hs2=>?_))))))))
 refine tA (.slice A1 (([]:List Int).length) c1) r0 (nn (sq (sr (tm (.slice Ahs hs.length chs) r0 (qt r0 (lnA sl134 r0) (tm (I 0) r0 (nn (bl ?_))))))))
 have e1:([]:List Int)=catH (hs.take 0):=by simp[catH]
 have e2:([]:List Int).length=(catH (hs.take 0)).length:=by rw[e1]
 refine lp (σ:=(Option Addr)×Nat×Nat) (fun⟨Ag6,cg6,j⟩ f w'=>Hz f [(6,.slice Ag6 ((catH (hs.take j)).length) cg6),(25,.slice Ahs hs.length chs),(26,I (hs.length:Int)),(27,I (j:Int))]∧(j≤hs.length)∧SH w w' [] [.own Ag6 ((catH (hs.take j)).length) cg6 3 1 ((catH (hs.take j)).map I)]) (fun⟨Ag6,cg6,j⟩=>hs.length-j) (A1,c1,0) ⟨(zH ⟨(show (.slice A1 (([]:List Int).length) c1:Value)=.slice A1 ((catH (hs.take 0)).length) c1 from slv r0 e2 r0),rfl,rfl,rfl,trivial⟩),(by simp),(hs2.cast (lc (own_eq (g:=I) r0 e2 r0 e1) r0))⟩ ?_
 rintro ⟨Ag6,cg6,j⟩ f w3 ⟨⟨g2,rfl⟩,hj,hs3⟩
 refine sr (qt r0 (lss r0 r0) (nn (sq (cdd r0 (fun h3=>?_) (fun h3=>?_)))))
 ·refine sk (nN (sq (bl (sr (ixw1 j sl134 r0 r0 hhs (by omega) (getm hv hd0 (by omega)) trivial r0 (fun a2 ha2=>?_))))))
  refine qt r0 (lda hs3 ha2 (fun _ h=>h) r0 r0 one24) (tA (Z89 hs j) r0 (nn (rg (tm (.slice Ag6 ((catH (hs.take j)).length) cg6) r0 (tm (Z89 hs j) r0 (apm (g:=I) (ys:=catH (hs.take j)) (zs:=(hs.getD j hd0).xs) hs3 0 r0 sl24 r0 r0 r0 (Sl.up0 (hhs_in _ (getD_mem' (by omega))) hs3) (fun _=>rfl) (by unfold maxLen; have hq:=catH_len (l:=hs) (k:=j+1); rw[← catH_succ (by omega),List.length_append]at hq; omega) (by have hq:=catH_len (l:=hs) (k:=j+1); rw[← catH_succ (by omega),List.length_append]at hq; omega) trivial r0 (fun A2 c2 w4 hs4=>?_)))))))
  refine tA (.slice A2 (((catH (hs.take j))++((hs.getD j hd0).xs)).length) c2) r0 (nl (bN (nN (rg (qt r0 (add r0 r0 (by exact⟨by omega,by omega⟩)) (tm (I ((j:Int)+1)) r0 (nl (nN ?_))))))))
  have e3:(catH (hs.take j))++((hs.getD j hd0).xs)=catH (hs.take (j+1)):=by exact catH_succ (by omega)
  have e4:((catH (hs.take j))++((hs.getD j hd0).xs)).length=(catH (hs.take (j+1))).length:=by rw[e3]
  refine⟨(A2,c2,j+1),⟨(zH ⟨(show (.slice A2 (((catH (hs.take j))++((hs.getD j hd0).xs)).length) c2:Value)=.slice A2 ((catH (hs.take (j+1))).length) c2 from slv r0 e4 r0),rfl,rfl,rfl,trivial⟩),(by omega),(hs4.cast (lc (own_eq (g:=I) r0 e4 r0 e3) r0))⟩,?_⟩
  show hs.length-(j+1)<hs.length-j
  omega
 refine ex (tE (tE (bE (nN (sr (tm (.slice Ag6 ((catH (hs.take j)).length) cg6) r0 (tA (.slice Ag6 ((catH (hs.take j)).length) cg6) r0 (nn (rt (fT (.slice Ag6 ((catH (hs.take j)).length) cg6) r0 ?_))))))))))
 have e5:catH (hs.take j)=catH hs:=by have:j=hs.length:=(by omega); subst this; simp
 have e6:=congrArg List.length e5
 exact⟨Ag6,cg6,(slv r0 e6 r0),(hs3.cast (lc (own_eq (g:=I) r0 e6 r0 e5) r0))⟩
theorem slIndexS (l:List UInt8) (c:UInt8) (w:World):Does Tryz.prog 165 [Str l,Str [c]] w (fun v w'=>v=.int .i64 (idxB l c)∧SH w w' [] []):=by
 refine fE (N:=143) Tryz.func165 r0 (by kernel_rfl) r0 ?_
 have hs0:=SH.refl w []
 refine sr (tA (I 0) r0 (nx (tm (Str [c]) r0 (qt r0 (lnS st9 r0) (tA (I (([c].length:Nat):Int)) r0 (nn (sq (bl (sr (tm (I (([c].length:Nat):Int)) r0 (qt r0 (eqi r0 r0) (tm (.bool (decide ((([c].length:Nat):Int)=0))) r0 (spd 19 r0 (fun h1=>absurd h1 (by simp)) (fun h1=>?_))))))))))))))
 refine qh r0 (mv (v:=Str [c]) r0) (qh r0 (mv (v:=Str l) r0) (qh r0 (eqs r0 r0) (qt r0 (pf (v:=.bool (decide ([c]=l))) r0 r0) (tA (.bool (decide ([c]=l))) r0 (nn (cdd r0 (fun h2=>?_) (fun h2=>?_)))))))
 ·exact sr (tA (I 0) r0 (nn (rt (bR (tR (fI r0 (by subst h2; exact(idxB_self c).symm) hs0))))))
 refine sr (tm (I (([c].length:Nat):Int)) r0 (qt r0 (eqi r0 r0) (tA (.bool (decide ((([c].length:Nat):Int)=1))) r0 (nn (cdd r0 (fun h3=>?_) (fun h3=>absurd (by rfl) h3))))))
 refine sr (tm (Str l) r0 (tm (Str [c]) r0 (qt r0 (ixs 0 st9 r0 r0 (by omega)) (cS hs0 r0 (slIndexByte _ ([c].getD 0 0) _) (fun w1 hs1=>?_)))))
 exact tA (I (idxB l ([c].getD 0 0))) r0 (nn (rt (bR (tR (fI r0 (by rfl) hs1)))))
theorem stIndex (l:List UInt8) (c:UInt8) (w:World):Does Tryz.prog 115 [Str l,Str [c]] w (fun v w'=>v=.int .i64 (idxB l c)∧SH w w' [] []):=by
 refine fE (N:=8) Tryz.func115 r0 (by kernel_rfl) r0 ?_
 have hs0:=SH.refl w []
 refine sr (tA (I 0) r0 (nx (tm (Str l) r0 (tm (Str [c]) r0 (cS hs0 r0 (slIndexS _ _ _) (fun w1 hs1=>?_))))))
 refine tA (I (idxB l c)) r0 (nn (rt (fT (I (idxB l c)) r0 ?_)))
 exact⟨rfl,hs1⟩
theorem stCount (l:List UInt8) (c:UInt8) (w:World):Does Tryz.prog 114 [Str l,Str [c]] w (fun v w'=>v=.int .i64 ((l.count c:Nat):Int)∧SH w w' [] []):=by
 refine fE (N:=34) Tryz.func114 r0 (by kernel_rfl) r0 ?_
 have hs0:=SH.refl w []
 refine sr (tA (I 0) r0 (nn (sq (sr (tm (Str [c]) r0 (qt r0 (lnS st9 r0) (qt r0 (eqi r0 r0) (nn (cdd r0 (fun h1=>absurd h1 (by simp)) (fun h1=>?_))))))))))
 refine sk (nN (sq (sr (tm (Str [c]) r0 (qt r0 (lnS st9 r0) (qt r0 (eqi r0 r0) (nn (cdd r0 (fun h2=>?_) (fun h2=>absurd (by rfl) h2)))))))))
 exact sr (tm (Str l) r0 (tm (Str [c]) r0 (qt r0 (ixs 0 st9 r0 r0 (by omega)) (qt r0 (csc (l:=l) (c:=([c].getD 0 0)) Tryz.func164 (by kernel_rfl) r0 (by kernel_rfl) (by kernel_rfl) r0 r0) (tA (I ((l.count ([c].getD 0 0):Nat):Int)) r0 (nl (nN (rt (tR (fI r0 (by rfl) hs0))))))))))
theorem genSplit (l:List UInt8) (c:UInt8) (w:World) (hl_n:l.length≤1099511627776):Does Tryz.prog 69 [Str l,Str [c],I 0,I (-1)] w (fun v w'=>∃ Ar:Option Addr,∃ cr:Nat,v=.slice Ar (splitB c l).length cr∧SH w w' [] [.own Ar ((splitB c l).length) cr 9 1 ((splitB c l).map Str)]):=by
 refine fE (N:=66) Tryz.func69 r0 (by kernel_rfl) r0 ?_
 have hs0:=SH.refl w []
 refine sr (tA ns r0 (nn (sq (sr (tm (I (-1)) r0 (qt r0 (eqi r0 r0) (nn (cdd r0 (fun h1=>absurd h1 (by decide)) (fun h1=>?_)))))))))
 refine sk (nN (sq (sr (tm (Str [c]) r0 (qt r0 (eqs r0 r0) (nl (nN (cdd r0 (fun h2=>absurd h2 (by simp)) (fun h2=>?_)))))))))
 refine sk (nN (sq (sr (tm (I (-1)) r0 (qt r0 (lss r0 r0) (nl (nN (cdd r0 (fun h3=>?_) (fun h3=>absurd (by decide) h3)))))))))
 refine rg (tm (Str l) r0 (tm (Str [c]) r0 (cS hs0 r0 (stCount _ _ _) (fun w1 hs1=>?_))))
 have hsl:=splitB_len c l
 have hcl:=List.count_le_length (a:=c) (l:=l)
 refine qt r0 (add r0 r0 (by(exact⟨by omega,by omega⟩))) (tA (I (((l.count c:Nat):Int)+1)) r0 (nx (tm (I (((l.count c:Nat):Int)+1)) r0 (tm (Str l) r0 (qt r0 (lnS st9 r0) (qt r0 (add r0 r0 (by(exact⟨by omega,by omega⟩))) (qt r0 (mnI (a:=((l.count c:Nat):Int)+1) (b:=(l.length:Int)+1) r0 r0) (tA (I (min (((l.count c:Nat):Int)+1) ((l.length:Int)+1))) r0 (nx (tm (I (min (((l.count c:Nat):Int)+1) ((l.length:Int)+1))) r0 (mkm (g:=Str) (z:=[]) (n:=(min (((l.count c:Nat):Int)+1) ((l.length:Int)+1)).toNat) hs1 sl51 r0 (ieq (x:=min (((l.count c:Nat):Int)+1) ((l.length:Int)+1)) (by omega)) (ieq (x:=min (((l.count c:Nat):Int)+1) ((l.length:Int)+1)) (by omega)) (by omega) (by unfold maxLen; (omega)) trivial r0 (fun b1 w2 hs2=>?_))))))))))))
 refine tA (sb b1 ((List.replicate ((min (((l.count c:Nat):Int)+1) ((l.length:Int)+1)).toNat) ([]:List UInt8)).length) ((min (((l.count c:Nat):Int)+1) ((l.length:Int)+1)).toNat)) r0 (nx (tm (I (min (((l.count c:Nat):Int)+1) ((l.length:Int)+1))) r0 (qt r0 (sub r0 r0 (by(exact⟨by omega,by omega⟩))) (tA (I ((min (((l.count c:Nat):Int)+1) ((l.length:Int)+1))-1)) r0 (nx (tA (I 0) r0 (nn (sq (bl ?_)))))))))
 have e1:List.replicate ((min (((l.count c:Nat):Int)+1) ((l.length:Int)+1)).toNat) ([]:List UInt8)=(splitB c l).take 0++List.replicate ((splitB c l).length-0) ([]:List UInt8):=by have hsl:=splitB_len c l; have hcl:=List.count_le_length (a:=c) (l:=l); rw[show (min (((l.count c:Nat):Int)+1) ((l.length:Int)+1)).toNat=(splitB c l).length by omega]; simp
 have e2:(List.replicate ((min (((l.count c:Nat):Int)+1) ((l.length:Int)+1)).toNat) ([]:List UInt8)).length=(splitB c l).length:=by(have hsl:=splitB_len c l; have hcl:=List.count_le_length (a:=c) (l:=l); (simp; omega))
 refine lp (σ:=(Option Addr)×Nat×Nat×(List UInt8)) (fun⟨Ag9,cg9,k,s⟩ f w'=>Hz f [(0,Str s),(1,Str [c]),(2,I 0),(3,I ((l.count c:Nat):Int)),(9,.slice Ag9 ((splitB c l).length) cg9),(10,I (k:Int))]∧(k<(splitB c l).length)∧(splitB c s=(splitB c l).drop k)∧(s.length≤l.length)∧SH w w' [] [.own Ag9 ((splitB c l).length) cg9 9 1 (((splitB c l).take k++List.replicate ((splitB c l).length-k) ([]:List UInt8)).map Str)]) (fun⟨Ag9,cg9,k,s⟩=>l.length+1-k) ((Z8 b1),(min (((l.count c:Nat):Int)+1) ((l.length:Int)+1)).toNat,0,l) ⟨(zH ⟨rfl,rfl,rfl,(show (I ((min (((l.count c:Nat):Int)+1) ((l.length:Int)+1))-1):Value)=I ((l.count c:Nat):Int) from congrArg (Value.int .i64) (by omega)),(show (.slice (Z8 b1) ((List.replicate ((min (((l.count c:Nat):Int)+1) ((l.length:Int)+1)).toNat) ([]:List UInt8)).length) ((min (((l.count c:Nat):Int)+1) ((l.length:Int)+1)).toNat):Value)=.slice (Z8 b1) ((splitB c l).length) ((min (((l.count c:Nat):Int)+1) ((l.length:Int)+1)).toNat) from slv r0 e2 r0),rfl,trivial⟩),(by omega),(by simp),(Nat.le_refl _),(hs2.cast (lc (own_eq (g:=Str) r0 e2 r0 e1) r0))⟩ ?_
 rintro ⟨Ag9,cg9,k,s⟩ f w3 ⟨⟨g1,rfl⟩,hk,hs_,hsn,hs3⟩
 refine sq (sr (tm (I (k:Int)) r0 (tm (I ((l.count c:Nat):Int)) r0 (qt r0 (lss r0 r0) (nn (cdd r0 (fun h4=>?_) (fun h4=>?_)))))))
 ·refine sk (nN (bl (sr (tm (Str s) r0 (tm (Str [c]) r0 (cS hs3 r0 (stIndex _ _ _) (fun w4 hs4=>?_)))))))
  refine tA (I (idxB s c)) r0 (nn (sq (sr (tm (I (idxB s c)) r0 (qt r0 (lss r0 r0) (nn (cdd r0 (fun h5=>?_) (fun h5=>?_))))))))
  ·refine ex (tE (bX r0 (tE (bE (nN (sr (tm (.slice Ag9 ((splitB c l).length) cg9) r0 (tm (I (k:Int)) r0 (tm (Str s) r0 ?_)))))))))
   obtain ⟨b2,rfl⟩:=own_form hs4 0 r0 (by omega)
   refine qt r0 (ixo k sl51 r0 r0 (by omega)) (stomn (g:=Str) (ys:=(splitB c l).take k++List.replicate ((splitB c l).length-k) ([]:List UInt8)) (o:=k) (u:=s) hs4 0 r0 r0 r0 r0 (by omega) r0 one9 trivial (fun w5 hs5=>?_))
   refine nx (tm (sb b2 ((splitB c l).length) cg9) r0 (tm (I (k:Int)) r0 (qt r0 (add r0 r0 (by(exact⟨by omega,by omega⟩))) ?_)))
   have e3:((((splitB c l).take k++List.replicate ((splitB c l).length-k) ([]:List UInt8)).set k s).map Str).take ((k+1)*1)=((((splitB c l).take k++List.replicate ((splitB c l).length-k) ([]:List UInt8)).set k s).take (k+1)).map Str:=by simp[List.map_take]
   have hs6:SH w w5 [] [.own (Z8 b2) (k+1) cg9 9 1 (((((splitB c l).take k++List.replicate ((splitB c l).length-k) ([]:List UInt8)).set k s).take (k+1)).map Str)]:=e3 ▸ SH.trunc hs5 0 (k+1) r0 (by omega)
   refine qt r0 (cuh (k+1) sl51 r0 r0 (Nat.le_trans (by omega) (own_cap hs5 0 r0).1)) (tA (sb b2 (k+1) cg9) r0 ?_)
   have e4:k+1=((((splitB c l).take k++List.replicate ((splitB c l).length-k) ([]:List UInt8)).set k s).take (k+1)).length:=by((simp; omega))
   have hs7:SH w w5 [] [.own (Z8 b2) (((((splitB c l).take k++List.replicate ((splitB c l).length-k) ([]:List UInt8)).set k s).take (k+1)).length) cg9 9 1 (((((splitB c l).take k++List.replicate ((splitB c l).length-k) ([]:List UInt8)).set k s).take (k+1)).map Str)]:=(hs6.cast (lc (own_eq (g:=Str) r0 e4 r0 r0) r0))
   refine re 8 (v:=sb b2 (((((splitB c l).take k++List.replicate ((splitB c l).length-k) ([]:List UInt8)).set k s).take (k+1)).length) cg9) (show (sb b2 (k+1) cg9:Value)=sb b2 (((((splitB c l).take k++List.replicate ((splitB c l).length-k) ([]:List UInt8)).set k s).take (k+1)).length) cg9 from slv r0 e4 r0) (nn (rt (fT (sb b2 (((((splitB c l).take k++List.replicate ((splitB c l).length-k) ([]:List UInt8)).set k s).take (k+1)).length) cg9) r0 ?_)))
   have e5:(((splitB c l).take k++List.replicate ((splitB c l).length-k) ([]:List UInt8)).set k s).take (k+1)=splitB c l:=by exact split_end (split_stop hs_ (by omega))
   have e6:=congrArg List.length e5
   exact⟨(Z8 b2),cg9,(slv r0 e6 r0),(hs7.cast (lc (own_eq (g:=Str) r0 e6 r0 e5) r0))⟩
  refine sk (nN (sr (tm (.slice Ag9 ((splitB c l).length) cg9) r0 (tm (I (k:Int)) r0 (tm (Str s) r0 (tm (I (idxB s c)) r0 ?_))))))
  have hsl:=splitB_len c l
  have hcl:=List.count_le_length (a:=c) (l:=l)
  have hib:=idxB_lt s c
  refine tm (I 0) r0 (qt r0 (add r0 r0 (by((try have e1:[c].length=1:=rfl); exact⟨by omega,by omega⟩))) (qt r0 (cuhs (l:=s) (((idxB s c)+0).toNat) st9 r0 (ieq (x:=(idxB s c)+0) (by omega)) (by((try have e1:[c].length=1:=rfl); omega))) ?_))
  obtain ⟨b3,rfl⟩:=own_form hs4 0 r0 (by omega)
  refine qt r0 (ixo k sl51 r0 r0 (by omega)) (stomn (g:=Str) (ys:=(splitB c l).take k++List.replicate ((splitB c l).length-k) ([]:List UInt8)) (o:=k) (u:=s.take (((idxB s c)+0).toNat)) hs4 0 r0 r0 r0 r0 (by omega) r0 one9 trivial (fun w6 hs8=>?_))
  refine nx (tm (Str s) r0 (tm (I (idxB s c)) r0 (tm (Str [c]) r0 (qt r0 (lnS st9 r0) (qt r0 (add r0 r0 (by((try have e1:[c].length=1:=rfl); exact⟨by omega,by omega⟩))) (qt r0 (culs (l:=s) (((idxB s c)+(([c].length:Nat):Int)).toNat) st9 r0 (ieq (x:=(idxB s c)+(([c].length:Nat):Int)) (by omega)) (by((try have e1:[c].length=1:=rfl); omega))) (tA (Str (Z151 s c)) r0 (nn (rg (tm (I (k:Int)) r0 (qt r0 (add r0 r0 (by(exact⟨by omega,by omega⟩))) (tA (I ((k:Int)+1)) r0 (nl (bN (nN ?_)))))))))))))))
  have e7:((splitB c l).take k++List.replicate ((splitB c l).length-k) ([]:List UInt8)).set k (s.take (((idxB s c)+0).toNat))=(splitB c l).take (k+1)++List.replicate ((splitB c l).length-(k+1)) ([]:List UInt8):=by exact split_set (split_take hs_ (by omega) (by omega))
  refine⟨((Z8 b3),cg9,k+1,(Z151 s c)),⟨(zR r0),(by have h_:=splitB_len c l; omega),(split_next hs_ (by omega) (by simp; omega)),(by simp; omega),(hs8.cast (lc (own_eq (g:=Str) r0 r0 r0 e7) r0))⟩,?_⟩
  show l.length+1-(k+1)<l.length+1-k
  (have hcl:=List.count_le_length (a:=c) (l:=l); omega)
 refine ex (tE (tE (bE (nN (sr (tm (.slice Ag9 ((splitB c l).length) cg9) r0 (tm (I (k:Int)) r0 (tm (Str s) r0 ?_))))))))
 obtain ⟨b4,rfl⟩:=own_form hs3 0 r0 (by omega)
 refine qt r0 (ixo k sl51 r0 r0 (by omega)) (stomn (g:=Str) (ys:=(splitB c l).take k++List.replicate ((splitB c l).length-k) ([]:List UInt8)) (o:=k) (u:=s) hs3 0 r0 r0 r0 r0 (by omega) r0 one9 trivial (fun w7 hs9=>?_))
 refine nx (tm (sb b4 ((splitB c l).length) cg9) r0 (tm (I (k:Int)) r0 (qt r0 (add r0 r0 (by(exact⟨by omega,by omega⟩))) ?_)))
 have e8:((((splitB c l).take k++List.replicate ((splitB c l).length-k) ([]:List UInt8)).set k s).map Str).take ((k+1)*1)=((((splitB c l).take k++List.replicate ((splitB c l).length-k) ([]:List UInt8)).set k s).take (k+1)).map Str:=by simp[List.map_take]
 have hs10:SH w w7 [] [.own (Z8 b4) (k+1) cg9 9 1 (((((splitB c l).take k++List.replicate ((splitB c l).length-k) ([]:List UInt8)).set k s).take (k+1)).map Str)]:=e8 ▸ SH.trunc hs9 0 (k+1) r0 (by omega)
 refine qt r0 (cuh (k+1) sl51 r0 r0 (Nat.le_trans (by omega) (own_cap hs9 0 r0).1)) (tA (sb b4 (k+1) cg9) r0 ?_)
 have e9:k+1=((((splitB c l).take k++List.replicate ((splitB c l).length-k) ([]:List UInt8)).set k s).take (k+1)).length:=by((simp; omega))
 have hs11:SH w w7 [] [.own (Z8 b4) (((((splitB c l).take k++List.replicate ((splitB c l).length-k) ([]:List UInt8)).set k s).take (k+1)).length) cg9 9 1 (((((splitB c l).take k++List.replicate ((splitB c l).length-k) ([]:List UInt8)).set k s).take (k+1)).map Str)]:=(hs10.cast (lc (own_eq (g:=Str) r0 e9 r0 r0) r0))
 refine re 8 (v:=sb b4 (((((splitB c l).take k++List.replicate ((splitB c l).length-k) ([]:List UInt8)).set k s).take (k+1)).length) cg9) (show (sb b4 (k+1) cg9:Value)=sb b4 (((((splitB c l).take k++List.replicate ((splitB c l).length-k) ([]:List UInt8)).set k s).take (k+1)).length) cg9 from slv r0 e9 r0) (nn (rt (fT (sb b4 (((((splitB c l).take k++List.replicate ((splitB c l).length-k) ([]:List UInt8)).set k s).take (k+1)).length) cg9) r0 ?_)))
 have e10:(((splitB c l).take k++List.replicate ((splitB c l).length-k) ([]:List UInt8)).set k s).take (k+1)=splitB c l:=by exact split_end (split_last hs_ hk (by omega))
 have e11:=congrArg List.length e10
 exact⟨(Z8 b4),cg9,(slv r0 e11 r0),(hs11.cast (lc (own_eq (g:=Str) r0 e11 r0 e10) r0))⟩
theorem stSplit (l:List UInt8) (c:UInt8) (w:World) (hl_n:l.length≤1099511627776):Does Tryz.prog 31 [Str l,Str [c]] w (fun v w'=>∃ Ar:Option Addr,∃ cr:Nat,v=.slice Ar (splitB c l).length cr∧SH w w' [] [.own Ar ((splitB c l).length) cr 9 1 ((splitB c l).map Str)]):=by
 refine fE (N:=8) Tryz.func31 r0 (by kernel_rfl) r0 ?_
 have hs0:=SH.refl w []
 refine sr (tA ns r0 (nx (tm (Str l) r0 (tm (Str [c]) r0 (cS2 hs0 r0 (genSplit _ _ _ (by omega)) (fun A1 c1 w1 hs1=>?_))))))
 refine tA (.slice A1 ((splitB c l).length) c1) r0 (nn (rt (fT (.slice A1 ((splitB c l).length) c1) r0 ?_)))
 exact⟨A1,c1,rfl,hs1⟩
theorem l2Cut (l:List UInt8) (c:UInt8) (w:World) (hl_n:l.length≤1099511627776):Does Tryz.prog 16 [Str l,.int .u8 (c.toNat:Int)] w (fun v w'=>∃ Ar:Option Addr,∃ cr:Nat,v=.slice Ar (splitB c l).length cr∧SH w w' [] [.own Ar ((splitB c l).length) cr 9 1 ((splitB c l).map Str)]):=by
 refine fE (N:=35) Tryz.func16 r0 (by kernel_rfl) r0 ?_
 have hs0:=SH.refl w []
 refine sr (tA ns r0 (nx (bsk hs0 sl51 [] [] trivial r0 (fun b1 w1 hs1=>?_))))
 refine tA (sb b1 (([]:List (List UInt8)).length) 0) r0 (nx (tA (I 0) r0 (nn (sq (sr (tA (I 0) r0 (nn (bl (lp (σ:=(Option Addr)×Nat×Nat×Nat×(List (List UInt8))) (fun⟨Ag5,cg5,i,a,zs⟩ f w'=>Hz f [(0,Str l),(1,.int .u8 (c.toNat:Int)),(5,.slice Ag5 zs.length cg5),(6,I (a:Int)),(7,I (i:Int))]∧(i≤l.length)∧(a≤i)∧(zs++splitB c (l.drop a)=splitB c l)∧(∀ j,a≤j→j<i→l.getD j 0≠c)∧SH w w' [] [.own Ag5 zs.length cg5 9 1 (zs.map Str)]) (fun⟨Ag5,cg5,i,a,zs⟩=>l.length-i) ((Z8 b1),0,0,0,([]:List (List UInt8))) ⟨(zR r0),(by omega),(by omega),(by simp),(by intro j _ hj; omega),hs1⟩ ?_)))))))))
 rintro ⟨Ag5,cg5,i,a,zs⟩ f w2 ⟨⟨g1,rfl⟩,hi,ha,hz,hn,hs2⟩
 refine sq (sr (tm (I (i:Int)) r0 (tm (Str l) r0 (qt r0 (lnS st9 r0) (qt r0 (lss r0 r0) (nl (nN (cdd r0 (fun h1=>?_) (fun h1=>?_)))))))))
 ·refine sk (nN (sq (bl (sr (tm (Str l) r0 (tm (I (i:Int)) r0 (qt r0 (ixs i st9 r0 r0 (by omega)) (tm (Z119 c) r0 (qt r0 (eqi r0 r0) (nn (cdd r0 (fun h2=>?_) (fun h2=>?_))))))))))))
  ·refine sr (tm (.slice Ag5 zs.length cg5) r0 (tm (Str l) r0 (tm (I (a:Int)) r0 (tm (I (i:Int)) r0 (qt r0 (cus (l:=l) a i st9 r0 r0 r0 (by omega) (by omega)) (bsk hs2 sl51 [Str ((l.take i).drop a)] [Str ((l.take i).drop a)] trivial r0 (fun b2 w3 hs3=>?_)))))))
   refine apm (g:=Str) (ys:=zs) (zs:=([(l.take i).drop a]:List (List UInt8))) hs3 0 r0 sl51 r0 r0 r0 (hs3.sl0 1 r0) (fun _=>rfl) (by unfold maxLen; (have hzl:=cut_len hz; (simp; omega))) (by(have hzl:=cut_len hz; (simp; omega))) trivial r0 (fun A1 c1 w4 hs4=>?_)
   refine tA (.slice A1 ((zs++([(l.take i).drop a]:List (List UInt8))).length) c1) r0 (nn (rg (tm (I (i:Int)) r0 (qt r0 (add r0 r0 (by(exact⟨by omega,by omega⟩))) (tA (I ((i:Int)+1)) r0 (nl (bN (nN (rg (tm (I (i:Int)) r0 (qt r0 (add r0 r0 (by(exact⟨by omega,by omega⟩))) (tA (I ((i:Int)+1)) r0 (nn ?_)))))))))))))
   refine⟨(A1,c1,i+1,i+1,(zs++([(l.take i).drop a]:List (List UInt8)))),⟨(zR r0),(by omega),(by omega),(cut_step hz ha (by omega) hn (u8_eq (by omega))),(by intro j h_ hj; omega),(hs4.pk [1] r0)⟩,?_⟩
   show l.length-(i+1)<l.length-i
   omega
  refine sk (bN (nN (rg (tm (I (i:Int)) r0 (qt r0 (add r0 r0 (by(exact⟨by omega,by omega⟩))) (tA (I ((i:Int)+1)) r0 (nl (nN ?_))))))))
  refine⟨(Ag5,cg5,i+1,a,zs),⟨(zR r0),(by omega),(by omega),(hz),(by intro j h_ hj; rcases Nat.lt_succ_iff_lt_or_eq.1 hj with h | h; exact hn j h_ h; subst h; intro he; exact absurd (congrArg (fun z=>((UInt8.toNat z:Nat):Int)) he) ‹_›),hs2⟩,?_⟩
  show l.length-(i+1)<l.length-i
  omega
 refine ex (tE (tE (bE (nN (sr (tm (.slice Ag5 zs.length cg5) r0 (tm (Str l) r0 (tm (I (a:Int)) r0 (qt r0 (culs (l:=l) a st9 r0 r0 (by omega)) (bsk hs2 sl51 [Str (l.drop a)] [Str (l.drop a)] trivial r0 (fun b3 w5 hs5=>?_)))))))))))
 refine apm (g:=Str) (ys:=zs) (zs:=([l.drop a]:List (List UInt8))) hs5 0 r0 sl51 r0 r0 r0 (hs5.sl0 1 r0) (fun _=>rfl) (by unfold maxLen; (have hzl:=cut_len hz; (simp; omega))) (by(have hzl:=cut_len hz; (simp; omega))) trivial r0 (fun A2 c2 w6 hs6=>?_)
 refine tA (.slice A2 ((zs++([l.drop a]:List (List UInt8))).length) c2) r0 (nn (rt (fT (.slice A2 ((zs++([l.drop a]:List (List UInt8))).length) c2) r0 ?_)))
 have e1:zs++([l.drop a]:List (List UInt8))=splitB c l:=by exact cut_end hz (by omega) hn
 have e2:=congrArg List.length e1
 exact⟨A2,c2,(slv r0 e2 r0),((hs6.pq [1] r0).cast (lc (own_eq (g:=Str) r0 e2 r0 e1) r0))⟩
theorem iNameValid (l:List UInt8) (w:World) (hl_n:l.length≤1099511627776):Does Tryz.prog 161 [Str l] w (fun v w'=>v=.bool (nameOk l)∧SH w w' [] []):=by
 refine fE (N:=35) Tryz.func161 r0 (by kernel_rfl) r0 ?_
 have hs0:=SH.refl w []
 refine sr (tA Z6 r0 (nx (tm (Str l) r0 (cS2 hs0 r0 (stSplit (l:=l) (c:=46) (w:=_) (hl_n:=(by(omega)))) (fun A1 c1 w1 hs1=>?_)))))
 refine tA (.slice A1 ((splitB 46 l).length) c1) r0 (nn (sq (sr (tm (.slice A1 ((splitB 46 l).length) c1) r0 (qt r0 (lnA (n:=(splitB 46 l).length) sl51 r0) (tm (I 0) r0 (nn (bl (lp (σ:=Nat) (fun(k:Nat) f w'=>Hz f [(0,Str l),(3,.slice A1 ((splitB 46 l).length) c1),(8,.slice A1 ((splitB 46 l).length) c1),(9,I (((splitB 46 l).length:Nat):Int)),(10,I (k:Int))]∧(k≤(splitB 46 l).length)∧(((splitB 46 l).take k).all partOk=true)∧SH w w' [] [.own A1 ((splitB 46 l).length) c1 9 1 ((splitB 46 l).map Str)]) (fun k=>(splitB 46 l).length-k) 0 ⟨(zR r0),(by simp),(by simp),hs1⟩ ?_)))))))))
 rintro k f w2 ⟨⟨g1,rfl⟩,hk,ha,hs2⟩
 refine sr (qt r0 (lss (k:=.i64) (a:=(k:Int)) (b:=(((splitB 46 l).length:Nat):Int)) r0 r0) (nn (sq (cdd r0 (fun h1=>?_) (fun h1=>?_)))))
 ·refine sk (nN (sq (bl (sr (ixw1 k sl51 r0 r0 (hs2.sl0 0 r0) (by(omega)) (getm Str [] (by(omega))) trivial r0 (fun a1 ha1=>?_))))))
  refine qt r0 (lda (v:=Str ((splitB 46 l).getD k [])) (SH.refl w2 []) ha1 (fun _ h=>h) r0 r0 one9) (tA (Str ((splitB 46 l).getD k [])) r0 (nx (tm (Str ((splitB 46 l).getD k [])) r0 (qt r0 (eqs (l:=(splitB 46 l).getD k []) (m:=[]) r0 r0) (tm (.bool (decide ((splitB 46 l).getD k []=[]))) r0 (spd (p:=(splitB 46 l).getD k []=[]) 16 r0 (fun h2=>?_) (fun h2=>?_)))))))
  ·exact gt5 r0 (gt5 r0 (gt5 r0 (qt r0 (pt (v:=.bool true) r0 r0) (nn (cdt r0 (sq (rg (tA Z6 r0 (nn (rt (bR (tR (tR (bR (tR (fB r0 (by(exact(name_bad (k:=k) (by omega) (part_nil (by assumption))).symm)) (hs2.pk [] r0)))))))))))))))))
  refine qh r0 (mv (v:=Str ((splitB 46 l).getD k [])) r0) (cl ⟨_,rfl,rfl⟩ r0 (iConsists (l:=(splitB 46 l).getD k []) (m:=[45]) (w:=_) (hl_n:=(by(have hsb:=splitB_getD 46 l k; have hsl:=splitB_len 46 l; have hcl:=List.count_le_length (a:=(46:UInt8)) (l:=l); omega)))) ?_)
  rintro _ w3 ⟨rfl,hs3⟩
  replace hs3:=hs2.call0 hs3
  refine qh r0 (nt r0) (qt r0 (pf (v:=.bool (!(((splitB 46 l).getD k []).all (okC [45])))) r0 r0) (nn (cd r0 (fun h3=>?_) (fun h3=>?_))))
  ·have h4:=nbF h3
   exact sr (tA Z6 r0 (nn (rt (bR (tR (tR (bR (tR (fB r0 (by(exact(name_bad (k:=k) (by omega) (part_bad (by assumption))).symm)) (hs3.pk [] r0))))))))))
  have h5:=nbT h3
  refine sk (bN (nN (rg (qt r0 (add (a:=(k:Int)) (b:=1) r0 r0 (by(have hsb:=splitB_getD 46 l k; have hsl:=splitB_len 46 l; have hcl:=List.count_le_length (a:=(46:UInt8)) (l:=l); exact⟨by omega,by omega⟩))) (tm (I ((k:Int)+1)) r0 (nn ?_))))))
  refine⟨(k+1),⟨(zR r0),(by omega),(all_step (d:=[]) (by omega) ha (part_mk (by assumption) (by assumption))),hs3⟩,?_⟩
  omega
 refine ex (tE (tE (bE (nN (sr (tm (Str l) r0 (qt r0 (lnS (l:=l) st9 r0) (qt r0 (leq (k:=.i64) (a:=(l.length:Int)) (b:=20) r0 r0) (tm (.bool (decide ((l.length:Int)≤20))) r0 (spd (p:=(l.length:Int)≤20) 25 r0 (fun h6=>?_) (fun h6=>?_)))))))))))
 ·refine qh r0 (mv (v:=.slice A1 ((splitB 46 l).length) c1) r0) (qh r0 (mv (v:=.slice A1 ((splitB 46 l).length) c1) r0) (qh r0 (lnA (n:=(splitB 46 l).length) sl51 r0) (qh r0 (subN (a:=(splitB 46 l).length) (b:=1) r0 r0 (by have hsb:=splitB_getD 46 l k; have hsl:=splitB_len 46 l; have hcl:=List.count_le_length (a:=(46:UInt8)) (l:=l); have:=splitB_pos 46 l; omega) (by have hsb:=splitB_getD 46 l k; have hsl:=splitB_len 46 l; have hcl:=List.count_le_length (a:=(46:UInt8)) (l:=l); have:=splitB_pos 46 l; omega)) (ixw1 (((splitB 46 l).length)-1) sl51 r0 r0 (hs2.sl0 0 r0) (by(have hsb:=splitB_getD 46 l k; have hsl:=splitB_len 46 l; have hcl:=List.count_le_length (a:=(46:UInt8)) (l:=l); omega)) (getm Str [] (by(have hsb:=splitB_getD 46 l k; have hsl:=splitB_len 46 l; have hcl:=List.count_le_length (a:=(46:UInt8)) (l:=l); omega))) ⟨_,rfl,rfl⟩ r0 (fun a2 ha2=>?_)))))
  refine qh r0 (lda (v:=Str ((splitB 46 l).getD (((splitB 46 l).length)-1) [])) (SH.refl w2 []) ha2 (fun _ h=>h) r0 r0 one9) (qh r0 (ixs (l:=(splitB 46 l).getD (((splitB 46 l).length)-1) []) 0 st9 r0 r0 (by exact name_last (by omega) ha (by have:=splitB_pos 46 l; omega))) (cl ⟨_,rfl,rfl⟩ r0 (iLetter (c:=(Z62 l)) (w:=_)) ?_))
  rintro _ w4 ⟨rfl,hs4⟩
  replace hs4:=hs2.call0 hs4
  refine qt r0 (pt (v:=.bool (decide (97≤(((Z62 l).toNat:Nat):Int)∧(((Z62 l).toNat:Nat):Int)≤122))) r0 r0) (tA (.bool (decide (97≤(((Z62 l).toNat:Nat):Int)∧(((Z62 l).toNat:Nat):Int)≤122))) r0 (nn (rt (fT (.bool (decide (97≤(((Z62 l).toNat:Nat):Int)∧(((Z62 l).toNat:Nat):Int)≤122))) r0 ?_))))
  have e3:(decide (97≤(((Z62 l).toNat:Nat):Int)∧(((Z62 l).toNat:Nat):Int)≤122))=nameOk l:=by(exact(name_end2 (by omega) ha (by omega)).symm)
  exact⟨(congrArg (Value.bool) e3),(hs4.pk [] r0)⟩
 refine gf5 r0 (gf5 r0 (gf5 r0 (gf5 r0 (gf5 r0 (gf5 r0 (gf5 r0 (gf5 r0 (qt r0 (pf (v:=.bool false) r0 r0) (tA Z6 r0 (nn (rt (fT Z6 r0 ?_))))))))))))
 have e4:false=nameOk l:=by(exact(name_end1 (by omega) ha (by omega)).symm)
 exact⟨(congrArg (Value.bool) e4),(hs2.pk [] r0)⟩
theorem sNameValid (l:List UInt8) (w:World) (hl_n:l.length≤1099511627776):Does Tryz.prog 84 [Str l] w (fun v w'=>v=.bool (nameOk l)∧SH w w' [] []):=by
 refine fE (N:=53) Tryz.func84 r0 (by kernel_rfl) r0 ?_
 have hs0:=SH.refl w []
 refine sr (tA Z6 r0 (nx (tm (Str l) r0 (cS2 hs0 r0 (l2Cut (l:=l) (c:=(46:UInt8)) (w:=_) (hl_n:=(by(omega)))) (fun A1 c1 w1 hs1=>?_)))))
 refine tA (.slice A1 ((splitB (46:UInt8) l).length) c1) r0 (nn (sq (sr (tA (I 0) r0 (nl (nN (bl (lp (σ:=Nat) (fun(k:Nat) f w'=>Hz f [(0,Str l),(3,.slice A1 ((splitB (46:UInt8) l).length) c1),(4,I (k:Int))]∧(k≤(splitB 46 l).length)∧(((splitB 46 l).take k).all partOk=true)∧SH w w' [] [.own A1 ((splitB (46:UInt8) l).length) c1 9 1 ((splitB (46:UInt8) l).map Str)]) (fun k=>(splitB 46 l).length-k) 0 ⟨(zR r0),(by simp),(by simp),hs1⟩ ?_))))))))
 rintro k f w2 ⟨⟨g1,rfl⟩,hk,ha,hs2⟩
 refine sq (sr (tm (I (k:Int)) r0 (tm (.slice A1 ((splitB (46:UInt8) l).length) c1) r0 (qt r0 (lnA (n:=(splitB (46:UInt8) l).length) sl51 r0) (qt r0 (lss (k:=.i64) (a:=(k:Int)) (b:=(((splitB (46:UInt8) l).length:Nat):Int)) r0 r0) (nl (nN (cdd r0 (fun h1=>?_) (fun h1=>?_)))))))))
 ·refine sk (nN (sq (bl (sr (tm (.slice A1 ((splitB (46:UInt8) l).length) c1) r0 (tm (I (k:Int)) r0 (ixw1 k sl51 r0 r0 (hs2.sl0 0 r0) (by(omega)) (getm Str [] (by(omega))) trivial r0 (fun a1 ha1=>?_))))))))
  refine qt r0 (lda (v:=Str ((splitB (46:UInt8) l).getD k [])) (SH.refl w2 []) ha1 (fun _ h=>h) r0 r0 one9) (tA (Str ((splitB (46:UInt8) l).getD k [])) r0 (nn (sq (sr (tm (Str ((splitB (46:UInt8) l).getD k [])) r0 (qt r0 (lnS (l:=(splitB (46:UInt8) l).getD k []) st9 r0) (qt r0 (eqi (k:=.i64) (a:=((((splitB (46:UInt8) l).getD k []).length:Nat):Int)) (b:=0) r0 r0) (nn (cdd r0 (fun h2=>?_) (fun h2=>?_))))))))))
  ·exact sr (tA Z6 r0 (nn (rt (tR (bR (tR (tR (bR (tR (fB r0 (by(exact(name_bad (k:=k) (by omega) (part_len0 (by omega))).symm)) (hs2.pk [] r0)))))))))))
  refine sk (nN (sr (tA (I 0) r0 (nn (bl ?_)))))
  refine lp (σ:=Nat) (fun(j:Nat) f w'=>Hz f [(0,Str l),(3,.slice A1 ((splitB (46:UInt8) l).length) c1),(4,I (k:Int)),(5,Str ((splitB (46:UInt8) l).getD k [])),(6,I (j:Int))]∧(j≤((splitB 46 l).getD k []).length)∧((((splitB 46 l).getD k []).take j).all letC=true)∧SH w w' [] [.own A1 ((splitB (46:UInt8) l).length) c1 9 1 ((splitB (46:UInt8) l).map Str)]) (fun j=>((splitB 46 l).getD k []).length-j) 0 ⟨(zR r0),(by simp),(by simp),hs2⟩ ?_
  rintro j f w3 ⟨⟨g2,rfl⟩,hj,hb,hs3⟩
  refine sq (sr (tm (I (j:Int)) r0 (tm (Str ((splitB (46:UInt8) l).getD k [])) r0 (qt r0 (lnS (l:=(splitB (46:UInt8) l).getD k []) st9 r0) (qt r0 (lss (k:=.i64) (a:=(j:Int)) (b:=((((splitB (46:UInt8) l).getD k []).length:Nat):Int)) r0 r0) (nl (nN (cdd r0 (fun h3=>?_) (fun h3=>?_)))))))))
  ·refine sk (nN (sq (bl (sr (tm (Str ((splitB (46:UInt8) l).getD k [])) r0 (tm (I (j:Int)) r0 (qt r0 (ixs (l:=(splitB (46:UInt8) l).getD k []) j st9 r0 r0 (by omega)) (cS hs3 r0 (sLetter (c:=(((splitB (46:UInt8) l).getD k []).getD j 0)) (w:=_)) (fun w4 hs4=>?_)))))))))
   refine qt r0 (nt r0) (nn (cd r0 (fun h4=>?_) (fun h4=>?_)))
   ·have h5:=nbF h4
    exact sr (tA Z6 r0 (nn (rt (bR (tR (tR (bR (bR (tR (tR (bR (tR (fB r0 (by(exact(name_bad (k:=k) (by omega) (part_bad1 (j:=j) (by omega) (by assumption))).symm)) (hs4.pk [] r0))))))))))))))
   have h6:=nbT h4
   refine sk (bN (nN (rg (tm (I (j:Int)) r0 (qt r0 (add (a:=(j:Int)) (b:=1) r0 r0 (by(have hsb:=splitB_getD 46 l k; have hsl:=splitB_len 46 l; have hcl:=List.count_le_length (a:=(46:UInt8)) (l:=l); exact⟨by omega,by omega⟩))) (tA (I ((j:Int)+1)) r0 (nl (nN ?_))))))))
   refine⟨(j+1),⟨(zR r0),(by omega),(all_step (d:=0) (by omega) hb (by assumption)),hs4⟩,?_⟩
   omega
  refine ex (tE (tE (bE (bN (nN (rg (tm (I (k:Int)) r0 (qt r0 (add (a:=(k:Int)) (b:=1) r0 r0 (by(have hsb:=splitB_getD 46 l k; have hsl:=splitB_len 46 l; have hcl:=List.count_le_length (a:=(46:UInt8)) (l:=l); exact⟨by omega,by omega⟩))) (tA (I ((k:Int)+1)) r0 (nn ?_))))))))))
  refine⟨(k+1),⟨(zR r0),(by omega),(all_step (d:=[]) (by omega) ha (part_mk1 (j:=j) (by omega) (by omega) hb)),hs3⟩,?_⟩
  omega
 refine ex (tE (tE (bE (nN (sr (tm (.slice A1 ((splitB (46:UInt8) l).length) c1) r0 (tm (.slice A1 ((splitB (46:UInt8) l).length) c1) r0 (qt r0 (lnA (n:=(splitB (46:UInt8) l).length) sl51 r0) (qt r0 (subN (a:=(splitB (46:UInt8) l).length) (b:=1) r0 r0 (by have hsb:=splitB_getD 46 l k; have hsl:=splitB_len 46 l; have hcl:=List.count_le_length (a:=(46:UInt8)) (l:=l); have:=splitB_pos 46 l; omega) (by have hsb:=splitB_getD 46 l k; have hsl:=splitB_len 46 l; have hcl:=List.count_le_length (a:=(46:UInt8)) (l:=l); have:=splitB_pos 46 l; omega)) (ixw1 (((splitB (46:UInt8) l).length)-1) sl51 r0 r0 (hs2.sl0 0 r0) (by(have hsb:=splitB_getD 46 l k; have hsl:=splitB_len 46 l; have hcl:=List.count_le_length (a:=(46:UInt8)) (l:=l); omega)) (getm Str [] (by(have hsb:=splitB_getD 46 l k; have hsl:=splitB_len 46 l; have hcl:=List.count_le_length (a:=(46:UInt8)) (l:=l); omega))) trivial r0 (fun a2 ha2=>?_)))))))))))
 refine qt r0 (lda (v:=Str ((splitB (46:UInt8) l).getD (((splitB (46:UInt8) l).length)-1) [])) (SH.refl w2 []) ha2 (fun _ h=>h) r0 r0 one9) (tA (Str ((splitB (46:UInt8) l).getD (((splitB (46:UInt8) l).length)-1) [])) r0 (nx (tm (Str l) r0 (qt r0 (lnS (l:=l) st9 r0) (qt r0 (leq (k:=.i64) (a:=(l.length:Int)) (b:=20) r0 r0) (tm (.bool (decide ((l.length:Int)≤20))) r0 (spd (p:=(l.length:Int)≤20) 43 r0 (fun h7=>?_) (fun h7=>?_))))))))
 ·refine qh r0 (mv (v:=Str ((splitB (46:UInt8) l).getD (((splitB (46:UInt8) l).length)-1) [])) r0) (qh r0 (ixs (l:=(splitB (46:UInt8) l).getD (((splitB (46:UInt8) l).length)-1) []) 0 st9 r0 r0 (by exact name_last (by omega) ha (by have:=splitB_pos 46 l; omega))) (qh r0 (geq (k:=.u8) (a:=(((((splitB (46:UInt8) l).getD (((splitB (46:UInt8) l).length)-1) []).getD 0 0).toNat:Nat):Int)) (b:=97) r0 r0) (qt r0 (pt (v:=.bool (decide ((97:Int)≤(((((splitB (46:UInt8) l).getD (((splitB (46:UInt8) l).length)-1) []).getD 0 0).toNat:Nat):Int)))) r0 r0) (tm (.bool (decide ((97:Int)≤(((((splitB (46:UInt8) l).getD (((splitB (46:UInt8) l).length)-1) []).getD 0 0).toNat:Nat):Int)))) r0 (spd (p:=(97:Int)≤(((((splitB (46:UInt8) l).getD (((splitB (46:UInt8) l).length)-1) []).getD 0 0).toNat:Nat):Int)) 48 r0 (fun h8=>?_) (fun h8=>?_))))))
  ·exact qh r0 (mv (v:=Str ((splitB (46:UInt8) l).getD (((splitB (46:UInt8) l).length)-1) [])) r0) (qh r0 (ixs (l:=(splitB (46:UInt8) l).getD (((splitB (46:UInt8) l).length)-1) []) 0 st9 r0 r0 (by exact name_last (by omega) ha (by have:=splitB_pos 46 l; omega))) (qh r0 (leq (k:=.u8) (a:=(((((splitB (46:UInt8) l).getD (((splitB (46:UInt8) l).length)-1) []).getD 0 0).toNat:Nat):Int)) (b:=122) r0 r0) (qt r0 (pt (v:=.bool (decide ((((((splitB (46:UInt8) l).getD (((splitB (46:UInt8) l).length)-1) []).getD 0 0).toNat:Nat):Int)≤122))) r0 r0) (tA (.bool (decide ((((((splitB (46:UInt8) l).getD (((splitB (46:UInt8) l).length)-1) []).getD 0 0).toNat:Nat):Int)≤122))) r0 (nn (rt (fB r0 (name_end3 (by omega) ha (by omega) (by assumption)) (hs2.pk [] r0))))))))
  exact gf5 r0 (gf5 r0 (gf5 r0 (qt r0 (pf (v:=.bool false) r0 r0) (tA Z6 r0 (nn (rt (fB r0 (name_end4 (by omega) ha (by omega) (by assumption)) (hs2.pk [] r0))))))))
 refine gf5 r0 (gf5 r0 (gf5 r0 (qt r0 (pf (v:=.bool false) r0 r0) (tm Z6 r0 (gf5 r0 (gf5 r0 (gf5 r0 (qt r0 (pf (v:=.bool false) r0 r0) (tA Z6 r0 (nn (rt (fT Z6 r0 ?_))))))))))))
 have e5:false=nameOk l:=by(exact(name_end1 (by omega) ha (by omega)).symm)
 exact⟨(congrArg (Value.bool) e5),(hs2.pk [] r0)⟩
theorem iQuadValid {Aqs:Option Addr} {cqs:Nat} (qs:List Int) (w:World) (hqs:Sl w [] 1 Aqs qs.length cqs (qs.map I)):Does Tryz.prog 159 [.slice Aqs qs.length cqs] w (fun v w'=>v=.bool (quadOk qs)∧SH w w' [] []):=by
 refine fE (N:=10) Tryz.func159 r0 (by kernel_rfl) r0 ?_
 have hs0:=SH.refl w []
 have hqs_m:qs.length≤9223372036854775807:=Nat.le_trans hqs.cap hqs.capMax
 refine sr (tA Z6 r0 (nx (tm (Z14 Aqs qs cqs) r0 (qt r0 (lnA sl24 r0) (qt r0 (eqi r0 r0) (tm (.bool (decide ((qs.length:Int)=4))) r0 (spd 6 r0 (fun h1=>?_) (fun h1=>?_))))))))
 ·refine qh r0 (mv (v:=.slice Aqs qs.length cqs) r0) (cl ⟨_,rfl,rfl⟩ r0 (iBytesValid _ _ (hqs.up0 hs0)) ?_)
  rintro _ w1 ⟨rfl,hs1⟩
  replace hs1:=hs0.call0 hs1
  refine qt r0 (pt (v:=.bool (isBytes qs)) r0 r0) (tA (.bool (isBytes qs)) r0 (nn (rt (fT (.bool (isBytes qs)) r0 ?_))))
  have e1:(isBytes qs)=quadOk qs:=by simp[quadOk,h1] <;> omega
  exact⟨(congrArg (Value.bool) e1),hs1⟩
 refine gf5 r0 (gf5 r0 (qt r0 (pf (v:=.bool false) r0 r0) (tA Z6 r0 (nn (rt (fT Z6 r0 ?_))))))
 have e2:false=quadOk qs:=by simp[quadOk,h1] <;> omega
 exact⟨(congrArg (Value.bool) e2),hs0⟩
theorem sQuadValid {Aqs:Option Addr} {cqs:Nat} (qs:List Int) (w:World) (hqs:Sl w [] 1 Aqs qs.length cqs (qs.map I)):Does Tryz.prog 83 [.slice Aqs qs.length cqs] w (fun v w'=>v=.bool (quadOk qs)∧SH w w' [] []):=by
 refine fE (N:=10) Tryz.func83 r0 (by kernel_rfl) r0 ?_
 have hs0:=SH.refl w []
 have hqs_m:qs.length≤9223372036854775807:=Nat.le_trans hqs.cap hqs.capMax
 refine sr (tA Z6 r0 (nx (tm (Z14 Aqs qs cqs) r0 (cS hs0 r0 (sBytesValid _ _ (hqs.up0 hs0)) (fun w1 hs1=>?_)))))
 refine tm (.bool (isBytes qs)) r0 (spl 5 r0 (fun h1=>?_) (fun h1=>?_))
 ·exact qh r0 (mv (v:=.slice Aqs qs.length cqs) r0) (qh r0 (lnA sl24 r0) (qh r0 (eqi r0 r0) (qt r0 (pt (v:=.bool (decide ((qs.length:Int)=4))) r0 r0) (tA (.bool (decide ((qs.length:Int)=4))) r0 (nn (rt (fB r0 (by simp[quadOk,h1] <;> omega) hs1)))))))
 exact gf5 r0 (gf5 r0 (gf5 r0 (qt r0 (pf (v:=.bool false) r0 r0) (tA Z6 r0 (nn (rt (fB r0 (by simp[quadOk,h1] <;> omega) hs1)))))))
theorem iUserValid (s:List UInt8) (w:World) (hs_n:s.length≤9223372036854775807):Does Tryz.prog 106 [Str s] w (fun v w'=>v=.bool (userOk s)∧SH w w' [] []):=by
 refine fE (N:=10) Tryz.func106 r0 (by kernel_rfl) r0 ?_
 have hs0:=SH.refl w []
 refine sr (tA Z6 r0 (nx (tm (Str s) r0 (qt r0 (lnS st9 r0) (qt r0 (leq r0 r0) (tm (.bool (decide ((s.length:Int)≤8))) r0 (spd 6 r0 (fun h1=>?_) (fun h1=>?_))))))))
 ·refine qh r0 (mv (v:=Str s) r0) (cl ⟨_,rfl,rfl⟩ r0 (iConsists _ [] _ (by omega)) ?_)
  rintro _ w1 ⟨rfl,hs1⟩
  replace hs1:=hs0.call0 hs1
  refine qt r0 (pt (v:=.bool (s.all (okC []))) r0 r0) (tA (.bool (s.all (okC []))) r0 (nn (rt (fT (.bool (s.all (okC []))) r0 ?_))))
  have e1:(s.all (okC []))=userOk s:=by simp[userOk,h1] <;> omega
  exact⟨(congrArg (Value.bool) e1),hs1⟩
 refine gf5 r0 (gf5 r0 (qt r0 (pf (v:=.bool false) r0 r0) (tA Z6 r0 (nn (rt (fT Z6 r0 ?_))))))
 have e2:false=userOk s:=by simp[userOk,h1] <;> omega
 exact⟨(congrArg (Value.bool) e2),hs0⟩
theorem sUserValid (s:List UInt8) (w:World) (hs_n:s.length≤9223372036854775807):Does Tryz.prog 80 [Str s] w (fun v w'=>v=.bool (userOk s)∧SH w w' [] []):=by
 refine fE (N:=24) Tryz.func80 r0 (by kernel_rfl) r0 ?_
 have hs0:=SH.refl w []
 refine sr (tA Z6 r0 (nn (sq (sr (tA (I 0) r0 (nn (bl (lp (σ:=Nat) (fun(k:Nat) f w'=>Hz f [(0,Str s),(3,I (k:Int))]∧(k≤s.length)∧((s.take k).all (okC [])=true)∧SH w w' [] []) (fun k=>s.length-k) 0 ⟨(zR r0),(by simp),(by simp),hs0⟩ ?_))))))))
 rintro k f w1 ⟨⟨g1,rfl⟩,hk,ha,hs1⟩
 refine sq (sr (tm (I (k:Int)) r0 (tm (Str s) r0 (qt r0 (lnS st9 r0) (qt r0 (lss r0 r0) (nl (nN (cdd r0 (fun h1=>?_) (fun h1=>?_)))))))))
 ·refine sk (nN (sq (bl (sr (tm (Str s) r0 (tm (I (k:Int)) r0 (qt r0 (ixs k st9 r0 r0 (by omega)) (cS hs1 r0 (sLetter _ _) (fun w2 hs2=>?_)))))))))
  refine qt r0 (nt r0) (tm (.bool (!(letC (s.getD k 0)))) r0 (spl 15 r0 (fun h2=>?_) (fun h2=>?_)))
  ·have h3:=nbF h2
   exact gt5 r0 (gt5 r0 (gt5 r0 (gt5 r0 (qt r0 (pt (v:=.bool true) r0 r0) (nn (cdt r0 (sr (tA Z6 r0 (nn (rt (bR (tR (tR (bR (tR (fB r0 (by exact(user_bad (k:=k) (by omega) (.inl ‹_›)).symm) hs2))))))))))))))))
  have h4:=nbT h2
  refine qh r0 (mv (v:=Str s) r0) (qh r0 (mv (v:=I (k:Int)) r0) (qh r0 (ixs k st9 r0 r0 (by omega)) (qh r0 (eqi r0 r0) (qt r0 (pf (v:=.bool (decide ((((s.getD k 0).toNat:Nat):Int)=45))) r0 r0) (nn (cdd r0 (fun h5=>?_) (fun h5=>?_)))))))
  ·exact sr (tA Z6 r0 (nn (rt (bR (tR (tR (bR (tR (fB r0 (by exact(user_bad (k:=k) (by omega) (.inr ‹_›)).symm) hs2)))))))))
  refine sk (bN (nN (rg (tm (I (k:Int)) r0 (qt r0 (add r0 r0 (by exact⟨by omega,by omega⟩)) (tA (I ((k:Int)+1)) r0 (nl (nN ?_))))))))
  refine⟨(k+1),⟨(zR r0),(by omega),(all_step (d:=0) (by omega) ha (user_mk ‹_› ‹_›)),hs2⟩,?_⟩
  omega
 refine ex (tE (tE (bE (nN (sr (tm (Str s) r0 (qt r0 (lnS st9 r0) (qt r0 (leq r0 r0) (tA (.bool (decide ((s.length:Int)≤8))) r0 (nl (nN (rt (fT (.bool (decide ((s.length:Int)≤8))) r0 ?_)))))))))))))
 have e3:(decide ((s.length:Int)≤8))=userOk s:=by exact user_end (by omega) ha
 exact⟨(congrArg (Value.bool) e3),hs1⟩
theorem slIndex {Azs:Option Addr} {czs:Nat} (zs:List Int) (n:Int) (w:World) (hzs:Sl w [] 1 Azs zs.length czs (zs.map I)):Does Tryz.prog 107 [.slice Azs zs.length czs,I n] w (fun v w'=>v=.int .i64 (idxP (fun x=>decide (n=x)) zs)∧SH w w' [] []):=by
 refine fE (N:=19) Tryz.func107 r0 (by kernel_rfl) r0 ?_
 have hs0:=SH.refl w []
 have hzs_m:zs.length≤9223372036854775807:=Nat.le_trans hzs.cap hzs.capMax
 refine sr (tA (I 0) r0 (nn (sq (sr (tm (Z14 Azs zs czs) r0 (qt r0 (lnA sl24 r0) (tm (I 0) r0 (nn (bl (lp (σ:=Nat) (fun(k:Nat) f w'=>Hz f [(0,.slice Azs zs.length czs),(1,I n),(7,I (zs.length:Int)),(8,I (k:Int))]∧(k≤zs.length)∧(∀ j,j<k→decide (n=zs.getD j 0)=false)∧SH w w' [] []) (fun k=>zs.length-k) 0 ⟨(zR r0),(by simp),(by intro j hj; omega),hs0⟩ ?_))))))))))
 rintro k f w1 ⟨⟨g1,rfl⟩,hk,hn,hs1⟩
 refine sr (qt r0 (lss r0 r0) (nn (sq (cdd r0 (fun h1=>?_) (fun h1=>?_)))))
 ·refine sk (nN (sq (bl (sr (tm (I (k:Int)) r0 (tA (I (k:Int)) r0 (nx (tm (I n) r0 (tm (Z14 Azs zs czs) r0 (tm (I (k:Int)) r0 (ixw1 k sl24 r0 r0 hzs (by omega) (getm I 0 (by omega)) trivial r0 (fun a1 ha1=>?_))))))))))))
  refine qt r0 (lda hs1 ha1 (fun _ h=>h) r0 r0 one3) (qt r0 (eqi r0 r0) (nn (cdd r0 (fun h2=>?_) (fun h2=>?_))))
  ·exact sr (tm (I (k:Int)) r0 (tA (I (k:Int)) r0 (nn (rt (bR (tR (tR (bR (tR (fI r0 (idxP_eq (d:=0) (by omega) hn (decide_eq_true ‹_›)) hs1))))))))))
  refine sk (bN (nN (rg (qt r0 (add r0 r0 (by exact⟨by omega,by omega⟩)) (tm (I ((k:Int)+1)) r0 (nn ?_))))))
  refine⟨(k+1),⟨(zR r0),(by omega),(by intro j hj; rcases Nat.lt_succ_iff_lt_or_eq.1 hj with h | h; exact hn j h; subst h; exact decide_eq_false ‹_›),hs1⟩,?_⟩
  omega
 refine ex (tE (tE (bE (nN (sr (tA (I (-1)) r0 (nn (rt (fT (I (-1)) r0 ?_)))))))))
 have e2:(-1)=idxP (fun x=>decide (n=x)) zs:=by exact idxP_none (d:=0) (fun j hj=>hn j (by omega))
 exact⟨(congrArg (Value.int .i64) e2),hs1⟩
theorem slContains {Azs:Option Addr} {czs:Nat} (zs:List Int) (n:Int) (w:World) (hzs:Sl w [] 1 Azs zs.length czs (zs.map I)):Does Tryz.prog 64 [.slice Azs zs.length czs,I n] w (fun v w'=>v=.bool (decide (n∈zs))∧SH w w' [] []):=by
 refine fE (N:=9) Tryz.func64 r0 (by kernel_rfl) r0 ?_
 have hs0:=SH.refl w []
 have hzs_m:zs.length≤9223372036854775807:=Nat.le_trans hzs.cap hzs.capMax
 refine sr (tA Z6 r0 (nx (tm (Z14 Azs zs czs) r0 (tm (I n) r0 (cS hs0 r0 (slIndex _ _ _ (hzs.up0 hs0)) (fun w1 hs1=>?_))))))
 refine qt r0 (geq r0 r0) (tA (.bool (decide ((0:Int)≤(idxP (fun x=>decide (n=x)) zs)))) r0 (nn (rt (fT (.bool (decide ((0:Int)≤(idxP (fun x=>decide (n=x)) zs)))) r0 ?_))))
 have e1:(decide ((0:Int)≤(idxP (fun x=>decide (n=x)) zs)))=(decide (n∈zs)):=by exact idxP_int n zs
 exact⟨(congrArg (Value.bool) e1),hs1⟩
theorem l5Has {Azs:Option Addr} {czs:Nat} (zs:List Int) (n:Int) (w:World) (hzs:Sl w [] 1 Azs zs.length czs (zs.map I)):Does Tryz.prog 81 [.slice Azs zs.length czs,I n] w (fun v w'=>v=.bool (decide (n∈zs))∧SH w w' [] []):=by
 refine fE (N:=18) Tryz.func81 r0 (by kernel_rfl) r0 ?_
 have hs0:=SH.refl w []
 have hzs_m:zs.length≤9223372036854775807:=Nat.le_trans hzs.cap hzs.capMax
 refine sr (tA Z6 r0 (nn (sq (sr (tA (I 0) r0 (nn (bl (lp (σ:=Nat) (fun(k:Nat) f w'=>Hz f [(0,.slice Azs zs.length czs),(1,I n),(5,I (k:Int))]∧(k≤zs.length)∧(n ∉ zs.take k)∧SH w w' [] []) (fun k=>zs.length-k) 0 ⟨(zR r0),(by simp),(by simp),hs0⟩ ?_))))))))
 rintro k f w1 ⟨⟨g1,rfl⟩,hk,hn,hs1⟩
 refine sq (sr (tm (I (k:Int)) r0 (tm (Z14 Azs zs czs) r0 (qt r0 (lnA sl24 r0) (qt r0 (lss r0 r0) (nl (nN (cdd r0 (fun h1=>?_) (fun h1=>?_)))))))))
 ·refine sk (nN (sq (bl (sr (tm (Z14 Azs zs czs) r0 (tm (I (k:Int)) r0 (ixw1 k sl24 r0 r0 hzs (by omega) (getm I 0 (by omega)) trivial r0 (fun a1 ha1=>?_))))))))
  refine qt r0 (lda hs1 ha1 (fun _ h=>h) r0 r0 one3) (tm (I n) r0 (qt r0 (eqi r0 r0) (nn (cdd r0 (fun h2=>?_) (fun h2=>?_)))))
  ·exact sr (tA Z35 r0 (nn (rt (bR (tR (tR (bR (tR (fB r0 (by exact(decide_eq_true (has_yes (k:=k) (by omega) (by omega))).symm) hs1)))))))))
  refine sk (bN (nN (rg (tm (I (k:Int)) r0 (qt r0 (add r0 r0 (by exact⟨by omega,by omega⟩)) (tA (I ((k:Int)+1)) r0 (nl (nN ?_))))))))
  refine⟨(k+1),⟨(zR r0),(by omega),(has_step (by omega) hn (by omega)),hs1⟩,?_⟩
  omega
 refine ex (tE (tE (bE (nN (sr (tA Z6 r0 (nn (rt (fT Z6 r0 ?_)))))))))
 have e2:false=(decide (n∈zs)):=by exact(decide_eq_false (has_no (k:=k) (by omega) hn)).symm
 exact⟨(congrArg (Value.bool) e2),hs1⟩
theorem iAreMethods {Ams:Option Addr} {cms:Nat} (ms:List Int) (w:World) (hms:Sl w [] 1 Ams ms.length cms (ms.map I)):Does Tryz.prog 58 [.slice Ams ms.length cms] w (fun v w'=>v=.bool (methOk ms)∧SH w w' [] []):=by
 refine fE (N:=26) Tryz.func58 r0 (by kernel_rfl) r0 ?_
 have hs0:=SH.refl w []
 have hms_m:ms.length≤9223372036854775807:=Nat.le_trans hms.cap hms.capMax
 refine sr (tA Z6 r0 (nn (sq (sr (tm (Z14 Ams ms cms) r0 (qt r0 (lnA sl24 r0) (tm (I 0) r0 (nn (bl (lp (σ:=Nat) (fun(k:Nat) f w'=>Hz f [(0,.slice Ams ms.length cms),(5,.slice Ams ms.length cms),(6,I (ms.length:Int)),(7,I (k:Int))]∧(k≤ms.length)∧(methT ms k)∧SH w w' [] []) (fun k=>ms.length-k) 0 ⟨(zR r0),(by simp),(methT0 ms),hs0⟩ ?_))))))))))
 rintro k f w1 ⟨⟨g1,rfl⟩,hk,ha,hs1⟩
 refine sr (qt r0 (lss r0 r0) (nn (sq (cdd r0 (fun h1=>?_) (fun h1=>?_)))))
 ·refine sk (nN (sq (bl (sr (tm (I (k:Int)) r0 (ixw1 k sl24 r0 r0 hms (by omega) (getm I 0 (by omega)) trivial r0 (fun a1 ha1=>?_)))))))
  refine qt r0 (lda hs1 ha1 (fun _ h=>h) r0 r0 one3) (tA (I (k:Int)) r0 (tA (I (ms.getD k 0)) r0 (nx (tm (I (ms.getD k 0)) r0 (cS hs1 r0 (iWithin _ 0 254 _) (fun w2 hs2=>?_))))))
  refine qt r0 (nd r0) (tm (.bool (decide (¬ (0≤(ms.getD k 0)∧(ms.getD k 0)≤254)))) r0 (spd 15 r0 (fun h2=>?_) (fun h2=>?_)))
  ·exact gt5 r0 (gt5 r0 (gt5 r0 (gt5 r0 (gt5 r0 (qt r0 (pt (v:=.bool true) r0 r0) (nn (cdt r0 (sr (tA Z6 r0 (nn (rt (bR (tR (tR (bR (tR (fB r0 (by exact(meth_bad1 (k:=k) (by omega) ‹_›).symm) hs2)))))))))))))))))
  refine qh r0 (mv (v:=.slice Ams ms.length cms) r0) (qh r0 (mv (v:=I (k:Int)) r0) (qh r0 (cuhm_ (zs:=ms) k sl24 r0 r0 (by omega) hms.cap) (qh r0 (mv (v:=I (ms.getD k 0)) r0) (cl ⟨_,rfl,rfl⟩ r0 (slContains _ _ _ (Sl.cuthm (hms.up0 hs2) (by omega))) ?_))))
  rintro _ w3 ⟨rfl,hs3⟩
  replace hs3:=hs2.call0 hs3
  refine qt r0 (pf (v:=.bool (decide ((ms.getD k 0)∈(ms.take k)))) r0 r0) (nn (cdd r0 (fun h3=>?_) (fun h3=>?_)))
  ·exact sr (tA Z6 r0 (nn (rt (bR (tR (tR (bR (tR (fB r0 (by exact(meth_bad2 (k:=k) (by omega) ‹_›).symm) hs3)))))))))
  refine sk (bN (nN (rg (qt r0 (add r0 r0 (by exact⟨by omega,by omega⟩)) (tm (I ((k:Int)+1)) r0 (nn ?_))))))
  refine⟨(k+1),⟨(zR r0),(by omega),(methT_step (by omega) ha (Decidable.not_not.1 ‹_›) ‹_›),hs3⟩,?_⟩
  omega
 refine ex (tE (tE (bE (nN (sr (tm (Z14 Ams ms cms) r0 (qt r0 (lnA sl24 r0) (cS hs1 r0 (iWithin _ 1 8 _) (fun w4 hs4=>?_)))))))))
 refine tA (.bool (decide (1≤(ms.length:Int)∧(ms.length:Int)≤8))) r0 (nn (rt (fT (.bool (decide (1≤(ms.length:Int)∧(ms.length:Int)≤8))) r0 ?_)))
 have e3:(decide (1≤(ms.length:Int)∧(ms.length:Int)≤8))=methOk ms:=by exact meth_end (by omega) ha
 exact⟨(congrArg (Value.bool) e3),hs4⟩
theorem sL5Ok {Ams:Option Addr} {cms:Nat} (ms:List Int) (w:World) (hms:Sl w [] 1 Ams ms.length cms (ms.map I)):Does Tryz.prog 38 [.slice Ams ms.length cms] w (fun v w'=>v=.bool (methOk ms)∧SH w w' [] []):=by
 refine fE (N:=29) Tryz.func38 r0 (by kernel_rfl) r0 ?_
 have hs0:=SH.refl w []
 have hms_m:ms.length≤9223372036854775807:=Nat.le_trans hms.cap hms.capMax
 refine sr (tA Z6 r0 (nn (sq (sr (tA (I 0) r0 (nn (bl (lp (σ:=Nat) (fun(k:Nat) f w'=>Hz f [(0,.slice Ams ms.length cms),(3,I (k:Int))]∧(k≤ms.length)∧(methT ms k)∧SH w w' [] []) (fun k=>ms.length-k) 0 ⟨(zR r0),(by simp),(methT0 ms),hs0⟩ ?_))))))))
 rintro k f w1 ⟨⟨g1,rfl⟩,hk,ha,hs1⟩
 refine sq (sr (tm (I (k:Int)) r0 (tm (Z14 Ams ms cms) r0 (qt r0 (lnA sl24 r0) (qt r0 (lss r0 r0) (nl (nN (cdd r0 (fun h1=>?_) (fun h1=>?_)))))))))
 ·refine sk (nN (sq (bl (sq (rq (fun w'=>SH w w' [] []) mixed (by kernel_rfl) hs1.drew (qA r0 (mv (v:=.slice Ams ms.length cms) r0) (qA r0 (mv (v:=I (k:Int)) r0) (ixq1 k sl24 r0 r0 hms (by omega) (getm I 0 (by omega)) trivial r0 (fun a1 ha1=>?_)))))))))
  refine qB r0 (fun hsq=>lda hsq ha1 (fun _ h=>h) r0 r0 one3) (qc (.bool (decide (0≤(ms.getD k 0)∧(ms.getD k 0)≤254))) trivial r0 (fun wq hsq=>(sIn _ 0 254 _).mono (fun v w' h=>⟨h.1,by simpa using hsq.call0 h.2⟩)) (qA r0 (nd r0) (qA r0 (mv (v:=.bool (decide (¬ (0≤(ms.getD k 0)∧(ms.getD k 0)≤254)))) r0) (qspd 16 r0 (fun h2=>?_) (fun h2=>?_)))))
  ·refine kt5 r0 (kt5 r0 (kt5 r0 (kt5 r0 (kt5 r0 (kt5 r0 (kt5 r0 (kt5 r0 (qA r0 (pt (v:=.bool true) r0 r0) (qn (fun w2 hs2=>?_))))))))))
   exact nN (cdt r0 (sr (tA Z6 r0 (nn (rt (bR (tR (tR (bR (tR (fB r0 (by exact(meth_bad1 (k:=k) (by omega) ‹_›).symm) hs2)))))))))))
  refine qq ⟨_,rfl,rfl⟩ r0 r0 (fun wq hsq=>mv (v:=.slice Ams ms.length cms) r0) (qq ⟨_,rfl,rfl⟩ r0 r0 (fun wq hsq=>mv (v:=I (k:Int)) r0) (qq ⟨_,rfl,rfl⟩ r0 r0 (fun wq hsq=>cuhm_ (zs:=ms) k sl24 r0 r0 (by omega) hms.cap) (qq ⟨_,rfl,rfl⟩ r0 r0 (fun wq hsq=>mv (v:=.slice Ams ms.length cms) r0) (qq ⟨_,rfl,rfl⟩ r0 r0 (fun wq hsq=>mv (v:=I (k:Int)) r0) (ixq1 k sl24 r0 r0 hms (by omega) (getm I 0 (by omega)) ⟨_,rfl,rfl⟩ r0 (fun a2 ha2=>?_))))))
  refine qq ⟨_,rfl,rfl⟩ r0 r0 (fun wq hsq=>lda hsq ha2 (fun _ h=>h) r0 r0 one3) (qc (.bool (decide ((ms.getD k 0)∈(ms.take k)))) ⟨_,rfl,rfl⟩ r0 (fun wq hsq=>(l5Has _ _ _ (Sl.cuthm (hms.up0 hsq) (by omega))).mono (fun v w' h=>⟨h.1,by simpa using hsq.call0 h.2⟩)) (qA r0 (pf (v:=.bool (decide ((ms.getD k 0)∈(ms.take k)))) r0 r0) (qn (fun w3 hs3=>?_))))
  refine nN (cdd r0 (fun h3=>?_) (fun h3=>?_))
  ·exact sr (tA Z6 r0 (nn (rt (bR (tR (tR (bR (tR (fB r0 (by exact(meth_bad2 (k:=k) (by omega) ‹_›).symm) hs3)))))))))
  refine sk (bN (nN (rg (tm (I (k:Int)) r0 (qt r0 (add r0 r0 (by exact⟨by omega,by omega⟩)) (tA (I ((k:Int)+1)) r0 (nl (nN ?_))))))))
  refine⟨(k+1),⟨(zR r0),(by omega),(methT_step (by omega) ha (Decidable.not_not.1 ‹_›) ‹_›),hs3⟩,?_⟩
  omega
 refine ex (tE (tE (bE (nN (sr (tm (Z14 Ams ms cms) r0 (qt r0 (lnA sl24 r0) (cS hs1 r0 (sIn _ 1 8 _) (fun w4 hs4=>?_)))))))))
 refine tA (.bool (decide (1≤(ms.length:Int)∧(ms.length:Int)≤8))) r0 (nn (rt (fT (.bool (decide (1≤(ms.length:Int)∧(ms.length:Int)≤8))) r0 ?_)))
 have e3:(decide (1≤(ms.length:Int)∧(ms.length:Int)≤8))=methOk ms:=by exact meth_end (by omega) ha
 exact⟨(congrArg (Value.bool) e3),hs4⟩
theorem iAddressValid (ak:Int) {Aaq:Option Addr} {caq:Nat} (aq:List Int) (an:List UInt8) (apt:Int) (w:World) (haq:Sl w [] 1 Aaq aq.length caq (aq.map I)) (han_n:an.length≤1099511627776):Does Tryz.prog 111 [.agg #[I ak,.slice Aaq aq.length caq,Str an,I apt]] w (fun v w'=>v=.bool (addrOk ak aq an apt)∧SH w w' [] []):=by
 refine fE (N:=36) Tryz.func111 r0 (by kernel_rfl) r0 ?_
 have hs0:=SH.refl w []
 have haq_m:aq.length≤9223372036854775807:=Nat.le_trans haq.cap haq.capMax
 refine sr (bx (v:=.agg #[I ak,(Z4 Aaq aq caq),Str an,I apt]) (cs:=[I ak,(Z4 Aaq aq caq),Str an,I apt]) hs0 r0 r0 trivial r0 (fun b1 w1 hs1=>?_))
 refine tA Z6 r0 (nn (sq (sr (qt r0 (fa 0 fo54_0 r0) (qt r0 (lD (I ak) hs1 0 r0 one3) (nn (bl (sr (qt r0 (eqi r0 r0) (tA (Z88 ak) r0 (nl (nN (cdd r0 (fun h1=>?_) (fun h1=>?_))))))))))))))
 ·refine sr (qt r0 (fa 1 fo54_1 r0) (qt r0 (lD (Z14 Aaq aq caq) hs1 0 r0 one24) (cS hs1 r0 (iQuadValid _ _ (haq.up0 hs1)) (fun w2 hs2=>?_))))
  refine tm (.bool (quadOk aq)) r0 (spl 10 r0 (fun h2=>?_) (fun h2=>?_))
  ·refine qh r0 (fa 2 fo54_2 r0) (qh r0 (lD (Str an) hs2 0 r0 one9) (qh r0 (eqs r0 r0) (qt r0 (pt (v:=.bool (decide (an=[]))) r0 r0) (tm (Z107 an) r0 (spd 15 r0 (fun h3=>?_) (fun h3=>?_))))))
   ·refine qh r0 (fa 3 fo54_3 r0) (qh r0 (lD (I apt) hs2 0 r0 one3) (cl ⟨_,rfl,rfl⟩ r0 (isPort _ _) ?_))
    rintro _ w3 ⟨rfl,hs3⟩
    replace hs3:=hs2.call0 hs3
    exact qt r0 (pt (v:=.bool (decide (0≤apt∧apt≤65535))) r0 r0) (tA (.bool (decide (0≤apt∧apt≤65535))) r0 (nn (rt (bR (tR (fB r0 (by(rw[addr_is1 ‹_›]; simp[h1,h2,h3]; done)) (hs3.pk [] r0)))))))
   exact gf5 r0 (gf5 r0 (gf5 r0 (qt r0 (pf (v:=.bool false) r0 r0) (tA Z6 r0 (nn (rt (bR (tR (fB r0 (by(rw[addr_is1 ‹_›]; simp[h1,h2,h3]; done)) (hs2.pk [] r0))))))))))
  exact gf5 r0 (gf5 r0 (gf5 r0 (qt r0 (pf (v:=.bool false) r0 r0) (tm Z6 r0 (gf5 r0 (gf5 r0 (gf5 r0 (qt r0 (pf (v:=.bool false) r0 r0) (tA Z6 r0 (nn (rt (bR (tR (fB r0 (by(rw[addr_is1 ‹_›]; simp[h1,h2]; done)) (hs2.pk [] r0)))))))))))))))
 refine sr (qt r0 (eqi r0 r0) (tA (.bool (decide (ak=3))) r0 (nn (cdd r0 (fun h4=>?_) (fun h4=>?_)))))
 ·refine sr (qt r0 (fa 2 fo54_2 r0) (qt r0 (lD (Str an) hs1 0 r0 one9) (cS hs1 r0 (iNameValid _ _ (by omega)) (fun w4 hs4=>?_))))
  refine tm (.bool (nameOk an)) r0 (spl 25 r0 (fun h5=>?_) (fun h5=>?_))
  ·refine qh r0 (fa 1 fo54_1 r0) (qh r0 (lD (Z14 Aaq aq caq) hs4 0 r0 one24) (qh r0 (lnA sl24 r0) (qh r0 (eqi r0 r0) (qt r0 (pt (v:=.bool (decide ((aq.length:Int)=0))) r0 r0) (tm (Z145 aq) r0 (spd 31 r0 (fun h6=>?_) (fun h6=>?_)))))))
   ·refine qh r0 (fa 3 fo54_3 r0) (qh r0 (lD (I apt) hs4 0 r0 one3) (cl ⟨_,rfl,rfl⟩ r0 (isPort _ _) ?_))
    rintro _ w5 ⟨rfl,hs5⟩
    replace hs5:=hs4.call0 hs5
    exact qt r0 (pt (v:=.bool (decide (0≤apt∧apt≤65535))) r0 r0) (tA (.bool (decide (0≤apt∧apt≤65535))) r0 (nn (rt (bR (tR (fB r0 (by(rw[addr_is3 ‹_›]; have hq0:aq=[]:=List.eq_nil_of_length_eq_zero (by omega); simp[hq0,h1,h4,h5,h6]; done)) (hs5.pk [] r0)))))))
   exact gf5 r0 (gf5 r0 (gf5 r0 (qt r0 (pf (v:=.bool false) r0 r0) (tA Z6 r0 (nn (rt (bR (tR (fB r0 (by(rw[addr_is3 ‹_›]; have hq0: ¬ aq=[]:=fun he=>absurd (by rw[he]; rfl:(aq.length:Int)=0) ‹_›; simp[hq0,h1,h4,h5,h6]; done)) (hs4.pk [] r0))))))))))
  exact gf5 r0 (gf5 r0 (gf5 r0 (gf5 r0 (qt r0 (pf (v:=.bool false) r0 r0) (tm Z6 r0 (gf5 r0 (gf5 r0 (gf5 r0 (qt r0 (pf (v:=.bool false) r0 r0) (tA Z6 r0 (nn (rt (bR (tR (fB r0 (by(rw[addr_is3 ‹_›]; simp[h1,h4,h5]; done)) (hs4.pk [] r0))))))))))))))))
 refine sk (bN (nN (sr (tA Z6 r0 (nn (rt (fT Z6 r0 ?_)))))))
 have e7:false=addrOk ak aq an apt:=by exact(addr_no _ _ _ ‹_› ‹_›).symm
 exact⟨(congrArg (Value.bool) e7),(hs1.pk [] r0)⟩
theorem sAddressValid (ak:Int) {Aaq:Option Addr} {caq:Nat} (aq:List Int) (an:List UInt8) (apt:Int) (w:World) (haq:Sl w [] 1 Aaq aq.length caq (aq.map I)) (han_n:an.length≤1099511627776):Does Tryz.prog 41 [.agg #[I ak,.slice Aaq aq.length caq,Str an,I apt]] w (fun v w'=>v=.bool (addrOk ak aq an apt)∧SH w w' [] []):=by
 refine fE (N:=30) Tryz.func41 r0 (by kernel_rfl) r0 ?_
 have hs0:=SH.refl w []
 have haq_m:aq.length≤9223372036854775807:=Nat.le_trans haq.cap haq.capMax
 refine sr (bx (v:=.agg #[I ak,(Z4 Aaq aq caq),Str an,I apt]) (cs:=[I ak,(Z4 Aaq aq caq),Str an,I apt]) hs0 r0 r0 trivial r0 (fun b1 w1 hs1=>?_))
 refine tA Z6 r0 (nn (sq (sr (qt r0 (fa 3 fo54_3 r0) (qt r0 (lD (I apt) hs1 0 r0 one3) (cS hs1 r0 (sIn _ 0 65535 _) (fun w2 hs2=>?_)))))))
 refine qt r0 (nd r0) (nn (cdd r0 (fun h1=>?_) (fun h1=>?_)))
 ·exact sr (tA Z6 r0 (nn (rt (tR (fB r0 (by exact(addr_port _ _ ‹_›).symm) (hs2.pk [] r0))))))
 refine sk (nN (sq (sr (qt r0 (fa 0 fo54_0 r0) (qt r0 (lD (I ak) hs2 0 r0 one3) (nl (nN (bl (sr (qt r0 (eqi r0 r0) (tA (Z88 ak) r0 (nn (cdd r0 (fun h2=>?_) (fun h2=>?_))))))))))))))
 ·refine sr (qt r0 (fa 1 fo54_1 r0) (qt r0 (lD (Z14 Aaq aq caq) hs2 0 r0 one24) (cS hs2 r0 (sQuadValid _ _ (haq.up0 hs2)) (fun w3 hs3=>?_))))
  refine tm (.bool (quadOk aq)) r0 (spl 14 r0 (fun h3=>?_) (fun h3=>?_))
  ·exact qh r0 (fa 2 fo54_2 r0) (qh r0 (lD (Str an) hs3 0 r0 one9) (qh r0 (eqs r0 r0) (qt r0 (pt (v:=.bool (decide (an=[]))) r0 r0) (tA (Z107 an) r0 (nn (rt (bR (tR (fB r0 (by(rw[addr_is1 ‹_›]; have hp0:0≤apt∧apt≤65535:=Decidable.not_not.1 ‹_›; simp[hp0.1,hp0.2,h1,h2,h3]; done)) (hs3.pk [] r0))))))))))
  exact gf5 r0 (gf5 r0 (gf5 r0 (qt r0 (pf (v:=.bool false) r0 r0) (tA Z6 r0 (nn (rt (bR (tR (fB r0 (by(rw[addr_is1 ‹_›]; simp[h1,h2,h3]; done)) (hs3.pk [] r0))))))))))
 refine sr (qt r0 (eqi r0 r0) (tA (.bool (decide (ak=3))) r0 (nn (cdd r0 (fun h4=>?_) (fun h4=>?_)))))
 ·refine sr (qt r0 (fa 2 fo54_2 r0) (qt r0 (lD (Str an) hs2 0 r0 one9) (cS hs2 r0 (sNameValid _ _ (by omega)) (fun w4 hs4=>?_))))
  refine tm (.bool (nameOk an)) r0 (spl 24 r0 (fun h5=>?_) (fun h5=>?_))
  ·exact qh r0 (fa 1 fo54_1 r0) (qh r0 (lD (Z14 Aaq aq caq) hs4 0 r0 one24) (qh r0 (lnA sl24 r0) (qh r0 (eqi r0 r0) (qt r0 (pt (v:=.bool (decide ((aq.length:Int)=0))) r0 r0) (tA (Z145 aq) r0 (nn (rt (bR (tR (fB r0 (by(rw[addr_is3 ‹_›]; have hp0:0≤apt∧apt≤65535:=Decidable.not_not.1 ‹_›; simp[hp0.1,hp0.2,h1,h2,h4,h5]; done)) (hs4.pk [] r0)))))))))))
  exact gf5 r0 (gf5 r0 (gf5 r0 (gf5 r0 (qt r0 (pf (v:=.bool false) r0 r0) (tA Z6 r0 (nn (rt (bR (tR (fB r0 (by(rw[addr_is3 ‹_›]; simp[h1,h2,h4,h5]; done)) (hs4.pk [] r0)))))))))))
 refine sk (bN (nN (sr (tA Z6 r0 (nn (rt (fT Z6 r0 ?_)))))))
 have e6:false=addrOk ak aq an apt:=by exact(addr_no _ _ _ ‹_› ‹_›).symm
 exact⟨(congrArg (Value.bool) e6),(hs2.pk [] r0)⟩
theorem iIsLogin (lu:List UInt8) (lw:List UInt8) (w:World) (hlu_n:lu.length≤9223372036854775807) (hlw_n:lw.length≤9223372036854775807):Does Tryz.prog 63 [.agg #[Str lu,Str lw]] w (fun v w'=>v=.bool (loginOk lu lw)∧SH w w' [] []):=by
 refine fE (N:=21) Tryz.func63 r0 (by kernel_rfl) r0 ?_
 have hs0:=SH.refl w []
 refine sr (bx (v:=.agg #[Str lu,Str lw]) (cs:=[Str lu,Str lw]) hs0 r0 r0 trivial r0 (fun b1 w1 hs1=>?_))
 refine tA Z6 r0 (nx (qt r0 (fa 0 fo31_0 r0) (qt r0 (lD (Str lu) hs1 0 r0 one9) (qt r0 (nes r0 r0) (tm (.bool (decide (lu≠[]))) r0 (spd 6 r0 (fun h1=>?_) (fun h1=>?_)))))))
 ·refine qh r0 (fa 1 fo31_1 r0) (qh r0 (lD (Str lw) hs1 0 r0 one9) (qh r0 (nes r0 r0) (qt r0 (pt (v:=.bool (decide (lw≠[]))) r0 r0) (tm (.bool (decide (lw≠[]))) r0 (spd 11 r0 (fun h2=>?_) (fun h2=>?_))))))
  ·refine qh r0 (fa 0 fo31_0 r0) (qh r0 (lD (Str lu) hs1 0 r0 one9) (cl ⟨_,rfl,rfl⟩ r0 (iUserValid _ _ (by omega)) ?_))
   rintro _ w2 ⟨rfl,hs2⟩
   replace hs2:=hs1.call0 hs2
   refine qt r0 (pt (v:=.bool (userOk lu)) r0 r0) (tm (.bool (userOk lu)) r0 (spl 16 r0 (fun h3=>?_) (fun h3=>?_)))
   ·refine qh r0 (fa 1 fo31_1 r0) (qh r0 (lD (Str lw) hs2 0 r0 one9) (cl ⟨_,rfl,rfl⟩ r0 (iUserValid _ _ (by omega)) ?_))
    rintro _ w3 ⟨rfl,hs3⟩
    replace hs3:=hs2.call0 hs3
    refine qt r0 (pt (v:=.bool (userOk lw)) r0 r0) (tA (.bool (userOk lw)) r0 (nn (rt (fT (.bool (userOk lw)) r0 ?_))))
    have e1:(userOk lw)=loginOk lu lw:=by simp[loginOk,h1,h2,h3]
    exact⟨(congrArg (Value.bool) e1),(hs3.pk [] r0)⟩
   exact gf5 r0 (gf5 r0 (gf5 r0 (qt r0 (pf (v:=.bool false) r0 r0) (tA Z6 r0 (nn (rt (fB r0 (by simp[loginOk,h1,h2,h3]) (hs2.pk [] r0))))))))
  refine gf5 r0 (gf5 r0 (gf5 r0 (qt r0 (pf (v:=.bool false) r0 r0) (tm Z6 r0 (gf5 r0 (gf5 r0 (gf5 r0 (qt r0 (pf (v:=.bool false) r0 r0) (tA Z6 r0 (nn (rt (fT Z6 r0 ?_))))))))))))
  have e3:false=loginOk lu lw:=by simp[loginOk,h1,h2]
  exact⟨(congrArg (Value.bool) e3),(hs1.pk [] r0)⟩
 refine gf5 r0 (gf5 r0 (gf5 r0 (qt r0 (pf (v:=.bool false) r0 r0) (tm Z6 r0 (gf5 r0 (gf5 r0 (gf5 r0 (qt r0 (pf (v:=.bool false) r0 r0) (tm Z6 r0 (gf5 r0 (gf5 r0 (gf5 r0 (qt r0 (pf (v:=.bool false) r0 r0) (tA Z6 r0 (nl (nN (rt (fT Z6 r0 ?_))))))))))))))))))
 have e4:false=loginOk lu lw:=by simp[loginOk,h1]
 exact⟨(congrArg (Value.bool) e4),(hs1.pk [] r0)⟩
theorem sL11Ok (lu:List UInt8) (lw:List UInt8) (w:World) (hlu_n:lu.length≤9223372036854775807) (hlw_n:lw.length≤9223372036854775807):Does Tryz.prog 37 [.agg #[Str lu,Str lw]] w (fun v w'=>v=.bool (loginOk lu lw)∧SH w w' [] []):=by
 refine fE (N:=23) Tryz.func37 r0 (by kernel_rfl) r0 ?_
 have hs0:=SH.refl w []
 refine sr (bx (v:=.agg #[Str lu,Str lw]) (cs:=[Str lu,Str lw]) hs0 r0 r0 trivial r0 (fun b1 w1 hs1=>?_))
 refine tA Z6 r0 (nx (qt r0 (fa 0 fo31_0 r0) (qt r0 (lD (Str lu) hs1 0 r0 one9) (cS hs1 r0 (sUserValid _ _ (by omega)) (fun w2 hs2=>?_)))))
 refine tm (.bool (userOk lu)) r0 (spl 6 r0 (fun h1=>?_) (fun h1=>?_))
 ·refine qh r0 (fa 1 fo31_1 r0) (qh r0 (lD (Str lw) hs2 0 r0 one9) (cl ⟨_,rfl,rfl⟩ r0 (sUserValid _ _ (by omega)) ?_))
  rintro _ w3 ⟨rfl,hs3⟩
  replace hs3:=hs2.call0 hs3
  refine qt r0 (pt (v:=.bool (userOk lw)) r0 r0) (tm (.bool (userOk lw)) r0 (spl 11 r0 (fun h2=>?_) (fun h2=>?_)))
  ·refine qh r0 (fa 0 fo31_0 r0) (qh r0 (lD (Str lu) hs3 0 r0 one9) (qh r0 (lnS st9 r0) (qh r0 (gtr r0 r0) (qt r0 (pt (v:=.bool (decide ((0:Int)<(lu.length:Int)))) r0 r0) (tm (.bool (decide ((0:Int)<(lu.length:Int)))) r0 (spd 17 r0 (fun h3=>?_) (fun h3=>?_)))))))
   ·refine qh r0 (fa 1 fo31_1 r0) (qh r0 (lD (Str lw) hs3 0 r0 one9) (qh r0 (lnS st9 r0) (qh r0 (gtr r0 r0) (qt r0 (pt (v:=.bool (decide ((0:Int)<(lw.length:Int)))) r0 r0) (tA (.bool (decide ((0:Int)<(lw.length:Int)))) r0 (nn (rt (fT (.bool (decide ((0:Int)<(lw.length:Int)))) r0 ?_))))))))
    have e1:(decide ((0:Int)<(lw.length:Int)))=loginOk lu lw:=by simp only[loginOk_len]; simp only[h1,h2,h3,decide_true,decide_false,Bool.and_true,Bool.true_and,Bool.and_false,Bool.false_and]
    exact⟨(congrArg (Value.bool) e1),(hs3.pk [] r0)⟩
   refine gf5 r0 (gf5 r0 (gf5 r0 (gf5 r0 (qt r0 (pf (v:=.bool false) r0 r0) (tA Z6 r0 (nn (rt (fT Z6 r0 ?_))))))))
   have e2:false=loginOk lu lw:=by simp only[loginOk_len]; simp only[h1,h2,h3,decide_true,decide_false,Bool.and_true,Bool.true_and,Bool.and_false,Bool.false_and]
   exact⟨(congrArg (Value.bool) e2),(hs3.pk [] r0)⟩
  refine gf5 r0 (gf5 r0 (gf5 r0 (gf5 r0 (qt r0 (pf (v:=.bool false) r0 r0) (tm Z6 r0 (gf5 r0 (gf5 r0 (gf5 r0 (gf5 r0 (qt r0 (pf (v:=.bool false) r0 r0) (tA Z6 r0 (nn (rt (fT Z6 r0 ?_))))))))))))))
  have e3:false=loginOk lu lw:=by simp only[loginOk_len]; simp only[h1,h2,decide_true,decide_false,Bool.and_true,Bool.true_and,Bool.and_false,Bool.false_and]
  exact⟨(congrArg (Value.bool) e3),(hs3.pk [] r0)⟩
 refine gf5 r0 (gf5 r0 (gf5 r0 (qt r0 (pf (v:=.bool false) r0 r0) (tm Z6 r0 (gf5 r0 (gf5 r0 (gf5 r0 (gf5 r0 (qt r0 (pf (v:=.bool false) r0 r0) (tm Z6 r0 (gf5 r0 (gf5 r0 (gf5 r0 (gf5 r0 (qt r0 (pf (v:=.bool false) r0 r0) (tA Z6 r0 (nn (rt (fT Z6 r0 ?_)))))))))))))))))))
 have e4:false=loginOk lu lw:=by simp only[loginOk_len]; simp only[h1,decide_true,decide_false,Bool.and_true,Bool.true_and,Bool.and_false,Bool.false_and]
 exact⟨(congrArg (Value.bool) e4),(hs2.pk [] r0)⟩
theorem iTextBytes (s:List UInt8) (w:World) (hs_n:s.length≤2147483648):Does Tryz.prog 118 [Str s] w (fun v w'=>∃ Ar:Option Addr,∃ cr:Nat,v=.slice Ar (textI s).length cr∧SH w w' [] [.own Ar ((textI s).length) cr 3 1 ((textI s).map I)]):=by
 refine fE (N:=22) Tryz.func118 r0 (by kernel_rfl) r0 ?_
 have hs0:=SH.refl w []
 refine sr (tA ns r0 (nx (tm (Str s) r0 (qt r0 (lnS st9 r0) (mkm (g:=I) (z:=0) (n:=s.length) hs0 sl24 r0 r0 r0 (by omega) (by unfold maxLen; omega) trivial r0 (fun b1 w1 hs1=>?_))))))
 refine tA (sb b1 ((List.replicate s.length (0:Int)).length) s.length) r0 (nn (sq (sr (tm (sb b1 ((List.replicate s.length (0:Int)).length) s.length) r0 (qt r0 (lnA sl24 r0) (tm (I 0) r0 (nn (bl ?_))))))))
 have e1:List.replicate s.length (0:Int)=(textI s).take 0++List.replicate (s.length-0) (0:Int):=by simp
 have e2:(List.replicate s.length (0:Int)).length=s.length:=by(simp; done)
 refine lp (σ:=(Option Addr)×Nat×Nat) (fun⟨Ag3,cg3,k⟩ f w'=>Hz f [(0,Str s),(3,.slice Ag3 s.length cg3),(9,I (((List.replicate s.length (0:Int)).length:Nat):Int)),(10,I (k:Int))]∧(k≤s.length)∧SH w w' [] [.own Ag3 s.length cg3 3 1 (((textI s).take k++List.replicate (s.length-k) (0:Int)).map I)]) (fun⟨Ag3,cg3,k⟩=>s.length-k) ((Z8 b1),s.length,0) ⟨(zH ⟨rfl,(show (.slice (Z8 b1) ((List.replicate s.length (0:Int)).length) s.length:Value)=.slice (Z8 b1) s.length s.length from slv r0 e2 r0),rfl,rfl,trivial⟩),(by simp),(hs1.cast (lc (own_eq (g:=I) r0 e2 r0 e1) r0))⟩ ?_
 rintro ⟨Ag3,cg3,k⟩ f w2 ⟨⟨g1,rfl⟩,hk,hs2⟩
 refine sr (qt r0 (lss r0 r0) (nn (sq (cdd r0 (fun h1=>?_) (fun h1=>?_)))))
 ·refine sk (nN (sq (bl (sr (tm (I (k:Int)) r0 (tA (I (k:Int)) r0 (nn (rg (tm (.slice Ag3 s.length cg3) r0 (tm (I (k:Int)) r0 (tm (Str s) r0 (tm (I (k:Int)) r0 (qt r0 (ixs k st9 r0 r0 (by omega)) (qt r0 (cvI (a:=(((s.getD k 0).toNat:Nat):Int)) (s:=.u8) ti5 ti3 r0 (by have:=u8_bd ((s.getD k 0)); exact⟨by omega,by omega⟩)) ?_))))))))))))))
  obtain ⟨b2,rfl⟩:=own_form hs2 0 r0 (by omega)
  refine qt r0 (ixo k sl24 r0 r0 (by omega)) (stomn (g:=I) (ys:=(textI s).take k++List.replicate (s.length-k) (0:Int)) (o:=k) (u:=(((s.getD k 0).toNat:Nat):Int)) hs2 0 r0 r0 r0 r0 (by omega) r0 one3 trivial (fun w3 hs3=>?_))
  refine nl (bN (nN (rg (qt r0 (add r0 r0 (by exact⟨by omega,by omega⟩)) (tm (I ((k:Int)+1)) r0 (nn ?_))))))
  have e3:((textI s).take k++List.replicate (s.length-k) (0:Int)).set k (((s.getD k 0).toNat:Nat):Int)=(textI s).take (k+1)++List.replicate (s.length-(k+1)) (0:Int):=by exact textI_set (by omega)
  refine⟨((Z8 b2),cg3,k+1),⟨(zR r0),(by omega),(hs3.cast (lc (own_eq (g:=I) r0 r0 r0 e3) r0))⟩,?_⟩
  show s.length-(k+1)<s.length-k
  omega
 refine ex (tE (tE (bE (nN (sr (tm (.slice Ag3 s.length cg3) r0 (tA (.slice Ag3 s.length cg3) r0 (nn (rt (fT (.slice Ag3 s.length cg3) r0 ?_))))))))))
 have e4:(textI s).take k++List.replicate (s.length-k) (0:Int)=textI s:=by have:k=s.length:=(by omega); subst this; rw[textI_all (Nat.le_refl _)]; simp
 have e5:s.length=(textI s).length:=by exact(show s.length=((textI s).take k++List.replicate (s.length-k) (0:Int)).length by(simp[textI_len]; omega)).trans (congrArg List.length e4)
 exact⟨Ag3,cg3,(slv r0 e5 r0),(hs2.cast (lc (own_eq (g:=I) r0 e5 r0 e4) r0))⟩
theorem sL1Text (s:List UInt8) (w:World) (hs_n:s.length≤2147483648):Does Tryz.prog 48 [Str s] w (fun v w'=>∃ Ar:Option Addr,∃ cr:Nat,v=.slice Ar (textI s).length cr∧SH w w' [] [.own Ar ((textI s).length) cr 3 1 ((textI s).map I)]):=by
 refine fE (N:=20) Tryz.func48 r0 (by kernel_rfl) r0 ?_
 have hs0:=SH.refl w []
 refine sr (tA ns r0 (nx (bsk hs0 sl24 [] [] trivial r0 (fun b1 w1 hs1=>?_))))
 refine tA (sb b1 (([]:List Int).length) 0) r0 (nn (sq (sr (tA (I 0) r0 (nl (nN (bl ?_)))))))
 have e1:([]:List Int)=(textI s).take 0:=by simp
 have e2:([]:List Int).length=((textI s).take 0).length:=by rw[e1]
 refine lp (σ:=(Option Addr)×Nat×Nat) (fun⟨Ag3,cg3,k⟩ f w'=>Hz f [(0,Str s),(3,.slice Ag3 (((textI s).take k).length) cg3),(4,I (k:Int))]∧(k≤s.length)∧SH w w' [] [.own Ag3 (((textI s).take k).length) cg3 3 1 (((textI s).take k).map I)]) (fun⟨Ag3,cg3,k⟩=>s.length-k) ((Z8 b1),0,0) ⟨(zH ⟨rfl,(show (.slice (Z8 b1) (([]:List Int).length) 0:Value)=.slice (Z8 b1) (((textI s).take 0).length) 0 from slv r0 e2 r0),rfl,trivial⟩),(by simp),(hs1.cast (lc (own_eq (g:=I) r0 e2 r0 e1) r0))⟩ ?_
 rintro ⟨Ag3,cg3,k⟩ f w2 ⟨⟨g1,rfl⟩,hk,hs2⟩
 refine sq (sr (tm (I (k:Int)) r0 (tm (Str s) r0 (qt r0 (lnS st9 r0) (qt r0 (lss r0 r0) (nl (nN (cdd r0 (fun h1=>?_) (fun h1=>?_)))))))))
 ·refine sk (nN (sq (bl (rg (tm (.slice Ag3 (((textI s).take k).length) cg3) r0 (tm (Str s) r0 (tm (I (k:Int)) r0 (qt r0 (ixs k st9 r0 r0 (by omega)) (qt r0 (cvI (a:=(((s.getD k 0).toNat:Nat):Int)) (s:=.u8) ti5 ti3 r0 (by have:=u8_bd ((s.getD k 0)); exact⟨by omega,by omega⟩)) (bsk hs2 sl24 [I (((s.getD k 0).toNat:Nat):Int)] [I (((s.getD k 0).toNat:Nat):Int)] trivial r0 (fun b2 w3 hs3=>?_)))))))))))
  refine apm (g:=I) (ys:=(textI s).take k) (zs:=([(((s.getD k 0).toNat:Nat):Int)]:List Int)) hs3 0 r0 sl24 r0 r0 r0 (hs3.sl0 1 r0) (fun _=>rfl) (by unfold maxLen; have htl:=textI_len s; simp only[List.length_take,List.length_cons,List.length_nil]; omega) (by have htl:=textI_len s; simp only[List.length_take,List.length_cons,List.length_nil]; omega) trivial r0 (fun A1 c1 w4 hs4=>?_)
  refine tA (.slice A1 ((((textI s).take k)++([(((s.getD k 0).toNat:Nat):Int)]:List Int)).length) c1) r0 (nl (bN (nN (rg (tm (I (k:Int)) r0 (qt r0 (add r0 r0 (by(exact⟨by omega,by omega⟩))) (tA (I ((k:Int)+1)) r0 (nn ?_))))))))
  have e3:((textI s).take k)++([(((s.getD k 0).toNat:Nat):Int)]:List Int)=(textI s).take (k+1):=by exact textI_app (by omega)
  have e4:(((textI s).take k)++([(((s.getD k 0).toNat:Nat):Int)]:List Int)).length=((textI s).take (k+1)).length:=by rw[e3]
  refine⟨(A1,c1,k+1),⟨(zH ⟨rfl,(show (.slice A1 ((((textI s).take k)++([(((s.getD k 0).toNat:Nat):Int)]:List Int)).length) c1:Value)=.slice A1 (((textI s).take (k+1)).length) c1 from slv r0 e4 r0),rfl,trivial⟩),(by omega),((hs4.pq [1] r0).cast (lc (own_eq (g:=I) r0 e4 r0 e3) r0))⟩,?_⟩
  show s.length-(k+1)<s.length-k
  omega
 refine ex (tE (tE (bE (nN (sr (tm (.slice Ag3 (((textI s).take k).length) cg3) r0 (tA (.slice Ag3 (((textI s).take k).length) cg3) r0 (nn (rt (fT (.slice Ag3 (((textI s).take k).length) cg3) r0 ?_))))))))))
 have e5:(textI s).take k=textI s:=by exact textI_all (by omega)
 have e6:=congrArg List.length e5
 exact⟨Ag3,cg3,(slv r0 e6 r0),(hs2.cast (lc (own_eq (g:=I) r0 e6 r0 e5) r0))⟩
theorem iNumberBytes (n:Int) (w:World) (hn:0≤n∧n≤65535):Does Tryz.prog 117 [I n,I 2] w (fun v w'=>∃ Ar:Option Addr,∃ cr:Nat,v=.slice Ar (numB n).length cr∧SH w w' [] [.own Ar ((numB n).length) cr 3 1 ((numB n).map I)]):=by
 refine fE (N:=27) Tryz.func117 r0 (by kernel_rfl) r0 ?_
 have hs0:=SH.refl w []
 refine sr (tA ns r0 (nx (tm (I 2) r0 (mkm (g:=I) (z:=0) (n:=2) hs0 sl24 r0 r0 r0 (by omega) (by unfold maxLen; omega) trivial r0 (fun b1 w1 hs1=>?_)))))
 refine tA (sb b1 ((List.replicate 2 (0:Int)).length) 2) r0 (nn (sq (sr (tm (sb b1 ((List.replicate 2 (0:Int)).length) 2) r0 (qt r0 (lnA sl24 r0) (tm (I 0) r0 (nn (bl ?_))))))))
 have e1:List.replicate 2 (0:Int)=(numB n).take 0++List.replicate (2-0) (0:Int):=by simp
 have e2:(List.replicate 2 (0:Int)).length=2:=by rfl
 refine lp (σ:=(Option Addr)×Nat×Nat) (fun⟨Ag5,cg5,k⟩ f w'=>Hz f [(0,I n),(1,I 2),(5,.slice Ag5 2 cg5),(10,I (((List.replicate 2 (0:Int)).length:Nat):Int)),(11,I (k:Int))]∧(k≤2)∧SH w w' [] [.own Ag5 2 cg5 3 1 (((numB n).take k++List.replicate (2-k) (0:Int)).map I)]) (fun⟨Ag5,cg5,k⟩=>2-k) ((Z8 b1),2,0) ⟨(zH ⟨rfl,rfl,(show (.slice (Z8 b1) ((List.replicate 2 (0:Int)).length) 2:Value)=.slice (Z8 b1) 2 2 from slv r0 e2 r0),rfl,rfl,trivial⟩),(by simp),(hs1.cast (lc (own_eq (g:=I) r0 e2 r0 e1) r0))⟩ ?_
 rintro ⟨Ag5,cg5,k⟩ f w2 ⟨⟨g1,rfl⟩,hk,hs2⟩
 refine sr (qt r0 (lss r0 r0) (nn (sq (cdd r0 (fun h1=>?_) (fun h1=>?_)))))
 ·refine sk (nN (sq (bl (sr (tm (I (k:Int)) r0 (tA (I (k:Int)) r0 (nn (rg (tm (.slice Ag5 2 cg5) r0 (tm (I (k:Int)) r0 (tm (I n) r0 (tm (I 2) r0 (qt r0 (sub r0 r0 (by exact⟨by omega,by omega⟩)) (tm (I (k:Int)) r0 (qt r0 (sub r0 r0 (by exact⟨by omega,by omega⟩)) (qt r0 (mul r0 r0 (by exact⟨by omega,by omega⟩)) (qt r0 (shr (a:=n) (b:=8*(((2:Int)-1)-(k:Int))) r0 r0 (by omega) (by omega)) (qt r0 (and255 (a:=n / 2 ^ (8*(((2:Int)-1)-(k:Int))).toNat) r0 r0 (by exact num_and hn) (by exact num_and2 hn)) ?_))))))))))))))))))
  obtain ⟨b2,rfl⟩:=own_form hs2 0 r0 (by omega)
  refine qt r0 (ixo k sl24 r0 r0 (by omega)) (stomn (g:=I) (ys:=(numB n).take k++List.replicate (2-k) (0:Int)) (o:=k) (u:=(n / 2 ^ (8*(((2:Int)-1)-(k:Int))).toNat) % 256) hs2 0 r0 r0 r0 r0 (by omega) r0 one3 trivial (fun w3 hs3=>?_))
  refine nl (bN (nN (rg (qt r0 (add r0 r0 (by exact⟨by omega,by omega⟩)) (tm (I ((k:Int)+1)) r0 (nn ?_))))))
  have e3:((numB n).take k++List.replicate (2-k) (0:Int)).set k ((n / 2 ^ (8*(((2:Int)-1)-(k:Int))).toNat) % 256)=(numB n).take (k+1)++List.replicate (2-(k+1)) (0:Int):=by exact numB_set (by omega)
  refine⟨((Z8 b2),cg5,k+1),⟨(zR r0),(by omega),(hs3.cast (lc (own_eq (g:=I) r0 r0 r0 e3) r0))⟩,?_⟩
  show 2-(k+1)<2-k
  omega
 refine ex (tE (tE (bE (nN (sr (tm (.slice Ag5 2 cg5) r0 (tA (.slice Ag5 2 cg5) r0 (nn (rt (fT (.slice Ag5 2 cg5) r0 ?_))))))))))
 have e4:(numB n).take k++List.replicate (2-k) (0:Int)=numB n:=by have:k=2:=(by omega); subst this; simp[numB]
 have e5:2=(numB n).length:=by exact(show 2=((numB n).take k++List.replicate (2-k) (0:Int)).length by(simp[numB]; omega)).trans (congrArg List.length e4)
 exact⟨Ag5,cg5,(slv r0 e5 r0),(hs2.cast (lc (own_eq (g:=I) r0 e5 r0 e4) r0))⟩
theorem sL1Number (n:Int) (w:World) (hn:0≤n∧n≤65535):Does Tryz.prog 86 [I n,I 2] w (fun v w'=>∃ Ar:Option Addr,∃ cr:Nat,v=.slice Ar (numB n).length cr∧SH w w' [] [.own Ar ((numB n).length) cr 3 1 ((numB n).map I)]):=by
 refine fE (N:=23) Tryz.func86 r0 (by kernel_rfl) r0 ?_
 have hs0:=SH.refl w []
 refine sr (tA ns r0 (nx (tm (I 2) r0 (mkm (g:=I) (z:=0) (n:=2) hs0 sl24 r0 r0 r0 (by omega) (by unfold maxLen; omega) trivial r0 (fun b1 w1 hs1=>?_)))))
 refine tA (sb b1 ((List.replicate 2 (0:Int)).length) 2) r0 (nn (sq (sr (tm (I 2) r0 (qt r0 (sub r0 r0 (by exact⟨by omega,by omega⟩)) (tA (I ((2:Int)-1)) r0 (nn (bl ?_))))))))
 have e1:List.replicate 2 (0:Int)=numR n 0:=by simp[numR]
 have e2:(List.replicate 2 (0:Int)).length=2:=by rfl
 refine lp (σ:=(Option Addr)×Nat×Nat×Int) (fun⟨Ag5,cg5,k,m⟩ f w'=>Hz f [(0,I m),(5,.slice Ag5 2 cg5),(6,I (1-(k:Int)))]∧(k≤2)∧(m=numM n k)∧(0≤m∧m≤65535)∧SH w w' [] [.own Ag5 2 cg5 3 1 ((numR n k).map I)]) (fun⟨Ag5,cg5,k,m⟩=>2-k) ((Z8 b1),2,0,n) ⟨(zH ⟨rfl,(show (.slice (Z8 b1) ((List.replicate 2 (0:Int)).length) 2:Value)=.slice (Z8 b1) 2 2 from slv r0 e2 r0),(show (I ((2:Int)-1):Value)=I (1-((0:Nat):Int)) from congrArg (Value.int .i64) (by simp)),trivial⟩),(by simp),(by simp[numM]),(hn),(hs1.cast (lc (own_eq (g:=I) r0 e2 r0 e1) r0))⟩ ?_
 rintro ⟨Ag5,cg5,k,m⟩ f w2 ⟨⟨g1,rfl⟩,hk,hm,hm2,hs2⟩
 refine sq (sr (tm (I (1-(k:Int))) r0 (qt r0 (geq r0 r0) (nn (cdd r0 (fun h1=>?_) (fun h1=>?_))))))
 ·refine sk (nN (sq (bl (sr (tm (.slice Ag5 2 cg5) r0 (tm (I (1-(k:Int))) r0 (tm (I m) r0 (qt r0 (rem r0 r0 (by omega) (by omega)) ?_))))))))
  obtain ⟨b2,rfl⟩:=own_form hs2 0 r0 (by omega)
  refine qt r0 (ixo ((1-(k:Int)).toNat) sl24 r0 (ieq (x:=1-(k:Int)) (by omega)) (by omega)) (stomn (g:=I) (ys:=numR n k) (o:=(1-(k:Int)).toNat) (u:=m % 256) hs2 0 r0 r0 r0 r0 (by omega) r0 one3 trivial (fun w3 hs3=>?_))
  refine nn (rg (tm (I m) r0 (qt r0 (quo (a:=m) (b:=256) r0 r0 (by omega) (by omega) (by omega)) (tA (I (m / 256)) r0 (nl (bN (nN (rg (tm (I (1-(k:Int))) r0 (qt r0 (sub r0 r0 (by exact⟨by omega,by omega⟩)) (tA (I ((1-(k:Int))-1)) r0 (nn ?_))))))))))))
  have e3:(numR n k).set ((1-(k:Int)).toNat) (m % 256)=numR n (k+1):=by rw[hm]; exact numR_step (by omega) (by omega)
  refine⟨((Z8 b2),cg5,k+1,m / 256),⟨(zH ⟨rfl,rfl,(show (I ((1-(k:Int))-1):Value)=I (1-(((k+1):Nat):Int)) from congrArg (Value.int .i64) (by omega)),trivial⟩),(by omega),(by rw[hm]; exact numM_step (by omega)),(by omega),(hs3.cast (lc (own_eq (g:=I) r0 r0 r0 e3) r0))⟩,?_⟩
  show 2-(k+1)<2-k
  omega
 refine ex (tE (tE (bE (nN (sr (tm (.slice Ag5 2 cg5) r0 (tA (.slice Ag5 2 cg5) r0 (nn (rt (fT (.slice Ag5 2 cg5) r0 ?_))))))))))
 have e4:numR n k=numB n:=by have:k=2:=(by omega); subst this; rfl
 have e5:2=(numB n).length:=by exact(show 2=(numR n k).length by(have:k=2:=(by omega); subst this; rfl)).trans (congrArg List.length e4)
 exact⟨Ag5,cg5,(slv r0 e5 r0),(hs2.cast (lc (own_eq (g:=I) r0 e5 r0 e4) r0))⟩
set_option maxHeartbeats 8000000 in
theorem iAddressBytes (ak:Int) {Aaq:Option Addr} {caq:Nat} (aq:List Int) (an:List UInt8) (apt:Int) (w:World) (haq:Sl w [] 1 Aaq aq.length caq (aq.map I)) (han_n:an.length≤1099511627776) (hok:addrOk ak aq an apt=true):Does Tryz.prog 120 [.agg #[I ak,.slice Aaq aq.length caq,Str an,I apt]] w (fun v w'=>∃ Ar:Option Addr,∃ cr:Nat,v=.slice Ar (addrB ak aq an apt).length cr∧SH w w' [] [.own Ar ((addrB ak aq an apt).length) cr 3 1 ((addrB ak aq an apt).map I)]):=by
 refine fE (N:=29) Tryz.func120 r0 (by kernel_rfl) r0 ?_
 have hs0:=SH.refl w []
 have haq_m:aq.length≤9223372036854775807:=Nat.le_trans haq.cap haq.capMax
 refine sr (bx (v:=.agg #[I ak,(Z4 Aaq aq caq),Str an,I apt]) (cs:=[I ak,(Z4 Aaq aq caq),Str an,I apt]) hs0 r0 r0 trivial r0 (fun b1 w1 hs1=>?_))
 refine tA ns r0 (nx (qt r0 (fa 0 fo54_0 r0) (qt r0 (lD (I ak) hs1 0 r0 one3) (bsk hs1 sl24 [I ak] [I ak] trivial r0 (fun b2 w2 hs2=>?_)))))
 refine tA (sb b2 (([ak]:List Int).length) 1) r0 (nn (sq (sr (qt r0 (fa 0 fo54_0 r0) (qt r0 (lD (I ak) hs2 0 r0 one3) (qt r0 (eqi r0 r0) (nn (cdd r0 (fun h1=>?_) (fun h1=>?_)))))))))
 ·have haf:=addrOk_fit hok
  have htl:=textI_len an
  refine rg (tm (sb b2 (([ak]:List Int).length) 1) r0 (qt r0 (fa 1 fo54_1 r0) (qt r0 (lD (Z14 Aaq aq caq) hs2 0 r0 one24) (apm (g:=I) (ys:=([ak]:List Int)) (zs:=aq) hs2 1 r0 sl24 r0 r0 r0 (haq.up0 hs2) (fun _=>rfl) (by unfold maxLen; have hnb:(numB apt).length=2:=rfl; simp only[List.length_append,List.length_cons,List.length_nil]; omega) (by have hnb:(numB apt).length=2:=rfl; simp only[List.length_append,List.length_cons,List.length_nil]; omega) trivial r0 (fun A1 c1 w3 hs3=>?_)))))
  refine tA (.slice A1 ((([ak]:List Int)++aq).length) c1) r0 (nx (tm (.slice A1 ((([ak]:List Int)++aq).length) c1) r0 (qt r0 (fa 3 fo54_3 r0) (qt r0 (lD (I apt) hs3 0 r0 one3) (cS2 hs3 r0 (iNumberBytes _ _ (by(have hnb:(numB apt).length=2:=rfl; omega))) (fun A2 c2 w4 hs4=>?_))))))
  refine apm (g:=I) (ys:=([ak]:List Int)++aq) (zs:=numB apt) hs4 1 r0 sl24 r0 r0 r0 (hs4.sl0 2 r0) (fun _=>rfl) (by unfold maxLen; have hnb:(numB apt).length=2:=rfl; simp only[List.length_append,List.length_cons,List.length_nil]; omega) (by have hnb:(numB apt).length=2:=rfl; simp only[List.length_append,List.length_cons,List.length_nil]; omega) trivial r0 (fun A3 c3 w5 hs5=>?_)
  refine tA (.slice A3 (((([ak]:List Int)++aq)++(numB apt)).length) c3) r0 (nn (rt (fT (.slice A3 (((([ak]:List Int)++aq)++(numB apt)).length) c3) r0 ?_)))
  have e1:(([ak]:List Int)++aq)++(numB apt)=addrB ak aq an apt:=by simp[addrB,h1]
  have e2:=congrArg List.length e1
  exact⟨A3,c3,(slv r0 e2 r0),((hs5.pq [2] r0).cast (lc (own_eq (g:=I) r0 e2 r0 e1) r0))⟩
 refine raJ (fun w'=>∃ L,SH w w' [] L∧(.blk b1 54 [I ak,(Z4 Aaq aq caq),Str an,I apt])∈L∧True) (fun f w'=>∃ (b4':Nat) (A8':Option Addr) (c8':Nat) (A9':Option Addr) (c9':Nat),Hz f [(1,pB b1),(3,.slice A9' (((([ak]:List Int)++(Z24 an))++(textI an)).length) c9')]∧SH w w' [] [.blk b1 54 [I ak,(Z4 Aaq aq caq),Str an,I apt],.own A9' (((([ak]:List Int)++(Z24 an))++(textI an)).length) c9' 3 1 (((([ak]:List Int)++(Z24 an))++(textI an)).map I),oI b4' (Z24 an) 1 3,(Z29 A8' an c8')]) mixed ?_ ?_
 ·refine dG 2 11 511 (fun f w'=>∃ (b4':Nat) (A5':Option Addr) (c5':Nat) (A8':Option Addr) (c8':Nat),Hz f [(1,pB b1),(3,sb b2 (([ak]:List Int).length) 1),(19,.slice A5' ((([ak]:List Int)++(Z24 an)).length) c5'),(22,.slice A8' ((textI an).length) c8')]∧SH w w' [] [.blk b1 54 [I ak,(Z4 Aaq aq caq),Str an,I apt],.own A5' ((([ak]:List Int)++(Z24 an)).length) c5' 3 1 ((([ak]:List Int)++(Z24 an)).map I),oI b4' (Z24 an) 1 3,(Z29 A8' an c8')]) ?_ (fun D_4_0=>?_)
  ·rintro f w6 ⟨b4',A5',c5',A8',c8',⟨g1,rfl⟩,hs6⟩
   have haf:=addrOk_fit hok
   have htl:=textI_len an
   refine aO 9 r0 (apm (g:=I) (ys:=([ak]:List Int)++(Z24 an)) (zs:=textI an) hs6 1 r0 sl24 r0 r0 r0 (hs6.sl0 3 r0) (fun _=>rfl) (by unfold maxLen; have hnb:(numB apt).length=2:=rfl; simp only[List.length_append,List.length_cons,List.length_nil]; omega) (by have hnb:(numB apt).length=2:=rfl; simp only[List.length_append,List.length_cons,List.length_nil]; omega) trivial r0 (fun A9' c9' w7 hs7=>?_))
   refine nk (m1 hs7 0 r0) (tk (fuel:=0) (is:=[10]) (.cons r0 (.nil)) (by kernel_rfl) (by kernel_rfl) (m1 hs7 0 r0) (yA r0 (asg (v:=.slice A9' (((([ak]:List Int)++(Z24 an))++(textI an)).length) c9') r0) (.nil (ad (by kernel_rfl) ?_))))
   exact⟨b4',A8',c8',A9',c9',(zR r0),(hs7.pk [0,3,1,2] r0)⟩
  refine dG 3 11 255 (fun f w'=>∃ (b4':Nat) (A5':Option Addr) (c5':Nat),Hz f [(1,pB b1),(3,sb b2 (([ak]:List Int).length) 1),(19,.slice A5' ((([ak]:List Int)++(Z24 an)).length) c5'),(21,Str an)]∧SH w w' [] [.blk b1 54 [I ak,(Z4 Aaq aq caq),Str an,I apt],.own A5' ((([ak]:List Int)++(Z24 an)).length) c5' 3 1 ((([ak]:List Int)++(Z24 an)).map I),oI b4' (Z24 an) 1 3]) ?_ (fun D_4_1=>?_)
  ·rintro f w8 ⟨b4',A5',c5',⟨g2,rfl⟩,hs8⟩
   refine aO 8 r0 (cL r0 (iTextBytes _ _ (by(have haf:=addrOk_fit hok; have htl:=textI_len an; have hnb:(numB apt).length=2:=rfl; omega))) ?_)
   rintro _ w9 ⟨A8',c8',rfl,hs9⟩
   replace hs9:=hs8.call0 hs9
   exact nk (m1 hs9 0 r0) (alc D_4_0 ⟨b4',A5',c5',A8',c8',(zR r0),hs9⟩)
  refine dG 4 11 223 (fun f w'=>∃ (b4':Nat),Hz f [(1,pB b1),(3,sb b2 (([ak]:List Int).length) 1),(14,sb b2 (([ak]:List Int).length) 1),(18,sb b4' ((Z24 an).length) 1),(21,Str an)]∧SH w w' [] [.blk b1 54 [I ak,(Z4 Aaq aq caq),Str an,I apt],oI b2 ([ak]:List Int) 1 3,oI b4' (Z24 an) 1 3]) ?_ (fun D_4_2=>?_)
  ·rintro f w10 ⟨b4',⟨g3,rfl⟩,hs10⟩
   refine aO 5 r0 (apm (g:=I) (ys:=([ak]:List Int)) (zs:=(Z24 an)) hs10 1 r0 sl24 r0 r0 r0 (hs10.sl0 2 r0) (fun _=>rfl) (by unfold maxLen; have haf:=addrOk_fit hok; have htl:=textI_len an; have hnb:(numB apt).length=2:=rfl; simp only[List.length_append,List.length_cons,List.length_nil]; omega) (by have haf:=addrOk_fit hok; have htl:=textI_len an; have hnb:(numB apt).length=2:=rfl; simp only[List.length_append,List.length_cons,List.length_nil]; omega) trivial r0 (fun A5' c5' w11 hs11=>?_))
   exact nk (m1 hs11 0 r0) (alc D_4_1 ⟨b4',A5',c5',(zR r0),(hs11.pk [0,2,1] r0)⟩)
  refine dG 5 11 207 (fun f w'=>Hz f [(1,pB b1),(3,sb b2 (([ak]:List Int).length) 1),(14,sb b2 (([ak]:List Int).length) 1),(17,I (an.length:Int)),(21,Str an)]∧SH w w' [] [.blk b1 54 [I ak,(Z4 Aaq aq caq),Str an,I apt],oI b2 ([ak]:List Int) 1 3]) ?_ (fun D_4_3=>?_)
  ·rintro f w12 ⟨⟨g4,rfl⟩,hs12⟩
   refine aO 4 r0 (bsk hs12 sl24 (Z91 an) (Z91 an) trivial r0 (fun b4' w13 hs13=>?_))
   exact nk (m1 hs13 0 r0) (alc D_4_2 ⟨b4',(zR r0),hs13⟩)
  have hs14:=hs2.drew
  exact tk (fuel:=5) (is:=[0,1,2,3,6,7]) (.cons r0 (.cons r0 (.cons r0 (.cons r0 (.cons r0 (.cons r0 (.nil))))))) (by kernel_rfl) (by kernel_rfl) (m1 hs14 0 r0) (yA r0 (mv (v:=sb b2 (([ak]:List Int).length) 1) r0) (yA r0 (fa 2 fo54_2 r0) (yB r0 (fun ⟨Lq,hsq,mh0,_⟩=>lM (Str an) hsq mh0 r0 one9) (yA r0 (lnS st9 r0) (yA r0 (fa 2 fo54_2 r0) (yB r0 (fun ⟨Lq,hsq,mh0,_⟩=>lM (Str an) hsq mh0 r0 one9) (.nil (alc D_4_3 ⟨(zR r0),hs14⟩))))))))
 rintro f w14 ⟨b4',A8',c8',A9',c9',⟨g5,rfl⟩,hs15⟩
 refine nN ?_
 have hs16:=hs15.pq [0,1] r0
 refine sr (tm (.slice A9' (((([ak]:List Int)++(Z24 an))++(textI an)).length) c9') r0 (qt r0 (fa 3 fo54_3 r0) (qt r0 (lD (I apt) hs16 0 r0 one3) (cS2 hs16 r0 (iNumberBytes _ _ (by(have haf:=addrOk_fit hok; have htl:=textI_len an; have hnb:(numB apt).length=2:=rfl; omega))) (fun A4 c4 w15 hs17=>?_)))))
 refine apm (g:=I) (ys:=(([ak]:List Int)++(Z24 an))++(textI an)) (zs:=numB apt) hs17 1 r0 sl24 r0 r0 r0 (hs17.sl0 2 r0) (fun _=>rfl) (by unfold maxLen; have haf:=addrOk_fit hok; have htl:=textI_len an; have hnb:(numB apt).length=2:=rfl; simp only[List.length_append,List.length_cons,List.length_nil]; omega) (by have haf:=addrOk_fit hok; have htl:=textI_len an; have hnb:(numB apt).length=2:=rfl; simp only[List.length_append,List.length_cons,List.length_nil]; omega) trivial r0 (fun A5 c5 w16 hs18=>?_)
 refine tA (.slice A5 ((((([ak]:List Int)++(Z24 an))++(textI an))++(numB apt)).length) c5) r0 (nn (rt (fT (.slice A5 ((((([ak]:List Int)++(Z24 an))++(textI an))++(numB apt)).length) c5) r0 ?_)))
 have e3:((([ak]:List Int)++(Z24 an))++(textI an))++(numB apt)=addrB ak aq an apt:=by simp[addrB,h1]
 have e4:=congrArg List.length e3
 exact⟨A5,c5,(slv r0 e4 r0),((hs18.pq [2] r0).cast (lc (own_eq (g:=I) r0 e4 r0 e3) r0))⟩
set_option maxHeartbeats 8000000 in
theorem sL3Bytes (ak:Int) {Aaq:Option Addr} {caq:Nat} (aq:List Int) (an:List UInt8) (apt:Int) (w:World) (haq:Sl w [] 1 Aaq aq.length caq (aq.map I)) (han_n:an.length≤1099511627776) (hok:addrOk ak aq an apt=true):Does Tryz.prog 89 [.agg #[I ak,.slice Aaq aq.length caq,Str an,I apt]] w (fun v w'=>∃ Ar:Option Addr,∃ cr:Nat,v=.slice Ar (addrB ak aq an apt).length cr∧SH w w' [] [.own Ar ((addrB ak aq an apt).length) cr 3 1 ((addrB ak aq an apt).map I)]):=by
 refine fE (N:=30) Tryz.func89 r0 (by kernel_rfl) r0 ?_
 have hs0:=SH.refl w []
 have haq_m:aq.length≤9223372036854775807:=Nat.le_trans haq.cap haq.capMax
 refine sr (bx (v:=.agg #[I ak,(Z4 Aaq aq caq),Str an,I apt]) (cs:=[I ak,(Z4 Aaq aq caq),Str an,I apt]) hs0 r0 r0 trivial r0 (fun b1 w1 hs1=>?_))
 refine tA ns r0 (nx (qt r0 (fa 0 fo54_0 r0) (qt r0 (lD (I ak) hs1 0 r0 one3) (bsk hs1 sl24 [I ak] [I ak] trivial r0 (fun b2 w2 hs2=>?_)))))
 refine tA (sb b2 (([ak]:List Int).length) 1) r0 (nn (sq (sr (qt r0 (fa 0 fo54_0 r0) (qt r0 (lD (I ak) hs2 0 r0 one3) (qt r0 (eqi r0 r0) (nn (cdd r0 (fun h1=>?_) (fun h1=>?_)))))))))
 ·have haf:=addrOk_fit hok
  have htl:=textI_len an
  refine rg (tm (sb b2 (([ak]:List Int).length) 1) r0 (qt r0 (fa 1 fo54_1 r0) (qt r0 (lD (Z14 Aaq aq caq) hs2 0 r0 one24) (apm (g:=I) (ys:=([ak]:List Int)) (zs:=aq) hs2 1 r0 sl24 r0 r0 r0 (haq.up0 hs2) (fun _=>rfl) (by unfold maxLen; have hnb:(numB apt).length=2:=rfl; simp only[List.length_append,List.length_cons,List.length_nil]; omega) (by have hnb:(numB apt).length=2:=rfl; simp only[List.length_append,List.length_cons,List.length_nil]; omega) trivial r0 (fun A1 c1 w3 hs3=>?_)))))
  refine tA (.slice A1 ((([ak]:List Int)++aq).length) c1) r0 (nx (tm (.slice A1 ((([ak]:List Int)++aq).length) c1) r0 (qt r0 (fa 3 fo54_3 r0) (qt r0 (lD (I apt) hs3 0 r0 one3) (cS2 hs3 r0 (sL1Number _ _ (by(have hnb:(numB apt).length=2:=rfl; omega))) (fun A2 c2 w4 hs4=>?_))))))
  refine apm (g:=I) (ys:=([ak]:List Int)++aq) (zs:=numB apt) hs4 1 r0 sl24 r0 r0 r0 (hs4.sl0 2 r0) (fun _=>rfl) (by unfold maxLen; have hnb:(numB apt).length=2:=rfl; simp only[List.length_append,List.length_cons,List.length_nil]; omega) (by have hnb:(numB apt).length=2:=rfl; simp only[List.length_append,List.length_cons,List.length_nil]; omega) trivial r0 (fun A3 c3 w5 hs5=>?_)
  refine tA (.slice A3 (((([ak]:List Int)++aq)++(numB apt)).length) c3) r0 (nn (rt (fT (.slice A3 (((([ak]:List Int)++aq)++(numB apt)).length) c3) r0 ?_)))
  have e1:(([ak]:List Int)++aq)++(numB apt)=addrB ak aq an apt:=by simp[addrB,h1]
  have e2:=congrArg List.length e1
  exact⟨A3,c3,(slv r0 e2 r0),((hs5.pq [2] r0).cast (lc (own_eq (g:=I) r0 e2 r0 e1) r0))⟩
 refine sr (tm (sb b2 (([ak]:List Int).length) 1) r0 (qt r0 (fa 2 fo54_2 r0) (qt r0 (lD (Str an) hs2 0 r0 one9) (qt r0 (lnS st9 r0) (bsk hs2 sl24 (Z91 an) (Z91 an) trivial r0 (fun b3 w6 hs6=>?_))))))
 have haf:=addrOk_fit hok
 have htl:=textI_len an
 refine apm (g:=I) (ys:=([ak]:List Int)) (zs:=(Z24 an)) hs6 1 r0 sl24 r0 r0 r0 (hs6.sl0 2 r0) (fun _=>rfl) (by unfold maxLen; have hnb:(numB apt).length=2:=rfl; simp only[List.length_append,List.length_cons,List.length_nil]; omega) (by have hnb:(numB apt).length=2:=rfl; simp only[List.length_append,List.length_cons,List.length_nil]; omega) trivial r0 (fun A4 c4 w7 hs7=>?_)
 refine tA (.slice A4 ((([ak]:List Int)++(Z24 an)).length) c4) r0 (nn (rg (tm (.slice A4 ((([ak]:List Int)++(Z24 an)).length) c4) r0 (qt r0 (fa 2 fo54_2 r0) (qt r0 (lD (Str an) hs7 0 r0 one9) (cS2 hs7 r0 (sL1Text _ _ (by(have hnb:(numB apt).length=2:=rfl; omega))) (fun A5 c5 w8 hs8=>?_)))))))
 refine apm (g:=I) (ys:=([ak]:List Int)++(Z24 an)) (zs:=textI an) hs8 2 r0 sl24 r0 r0 r0 (hs8.sl0 3 r0) (fun _=>rfl) (by unfold maxLen; have hnb:(numB apt).length=2:=rfl; simp only[List.length_append,List.length_cons,List.length_nil]; omega) (by have hnb:(numB apt).length=2:=rfl; simp only[List.length_append,List.length_cons,List.length_nil]; omega) trivial r0 (fun A6 c6 w9 hs9=>?_)
 refine tA (.slice A6 (((([ak]:List Int)++(Z24 an))++(textI an)).length) c6) r0 (nn ?_)
 have hs10:=hs9.pq [0,3] r0
 refine sr (tm (.slice A6 (((([ak]:List Int)++(Z24 an))++(textI an)).length) c6) r0 (qt r0 (fa 3 fo54_3 r0) (qt r0 (lD (I apt) hs10 0 r0 one3) (cS2 hs10 r0 (sL1Number _ _ (by(have hnb:(numB apt).length=2:=rfl; omega))) (fun A7 c7 w10 hs11=>?_)))))
 refine apm (g:=I) (ys:=(([ak]:List Int)++(Z24 an))++(textI an)) (zs:=numB apt) hs11 1 r0 sl24 r0 r0 r0 (hs11.sl0 2 r0) (fun _=>rfl) (by unfold maxLen; have hnb:(numB apt).length=2:=rfl; simp only[List.length_append,List.length_cons,List.length_nil]; omega) (by have hnb:(numB apt).length=2:=rfl; simp only[List.length_append,List.length_cons,List.length_nil]; omega) trivial r0 (fun A8 c8 w11 hs12=>?_)
 refine tA (.slice A8 ((((([ak]:List Int)++(Z24 an))++(textI an))++(numB apt)).length) c8) r0 (nn (rt (fT (.slice A8 ((((([ak]:List Int)++(Z24 an))++(textI an))++(numB apt)).length) c8) r0 ?_)))
 have e3:((([ak]:List Int)++(Z24 an))++(textI an))++(numB apt)=addrB ak aq an apt:=by simp[addrB,h1]
 have e4:=congrArg List.length e3
 exact⟨A8,c8,(slv r0 e4 r0),((hs12.pq [2] r0).cast (lc (own_eq (g:=I) r0 e4 r0 e3) r0))⟩
set_option maxHeartbeats 8000000 in
theorem sL12Bytes (n:Int) (ak:Int) {Aaq:Option Addr} {caq:Nat} (aq:List Int) (an:List UInt8) (apt:Int) (w:World) (haq:Sl w [] 1 Aaq aq.length caq (aq.map I)) (han_n:an.length≤1099511627776) (hok:addrOk ak aq an apt=true):Does Tryz.prog 47 [I n,.agg #[I ak,.slice Aaq aq.length caq,Str an,I apt]] w (fun v w'=>∃ Ar:Option Addr,∃ cr:Nat,v=.slice Ar ([5,n,0]++addrB ak aq an apt).length cr∧SH w w' [] [.own Ar (([5,n,0]++addrB ak aq an apt).length) cr 3 1 (([5,n,0]++addrB ak aq an apt).map I)]):=by
 refine fE (N:=10) Tryz.func47 r0 (by kernel_rfl) r0 ?_
 have hs0:=SH.refl w []
 have haq_m:aq.length≤9223372036854775807:=Nat.le_trans haq.cap haq.capMax
 refine sr (bx (v:=.agg #[I ak,(Z4 Aaq aq caq),Str an,I apt]) (cs:=[I ak,(Z4 Aaq aq caq),Str an,I apt]) hs0 r0 r0 trivial r0 (fun b1 w1 hs1=>?_))
 refine tA ns r0 (nx (tm (I n) r0 (bsk hs1 sl24 [I 5,I n,I 0] [I 5,I n,I 0] trivial r0 (fun b2 w2 hs2=>?_))))
 refine qt r0 (lG [I ak,(Z4 Aaq aq caq),Str an,I apt] hs2 0 r0 ag54) (cS2 hs2 r0 (sL3Bytes _ _ _ _ _ (haq.up0 hs2) (by omega) (by omega)) (fun A1 c1 w3 hs3=>?_))
 refine apm (g:=I) (ys:=([5,n,0]:List Int)) (zs:=addrB ak aq an apt) hs3 1 r0 sl24 r0 r0 r0 (hs3.sl0 2 r0) (fun _=>rfl) (by unfold maxLen; have hbl:=addrB_len hok; simp only[List.length_append,List.length_cons,List.length_nil]; omega) (by have hbl:=addrB_len hok; simp only[List.length_append,List.length_cons,List.length_nil]; omega) trivial r0 (fun A2 c2 w4 hs4=>?_)
 refine tA (.slice A2 ((([5,n,0]:List Int)++(addrB ak aq an apt)).length) c2) r0 (nn (rt (fT (.slice A2 ((([5,n,0]:List Int)++(addrB ak aq an apt)).length) c2) r0 ?_)))
 have e1:([5,n,0]:List Int)++(addrB ak aq an apt)=[5,n,0]++addrB ak aq an apt:=by rfl
 have e2:=congrArg List.length e1
 exact⟨A2,c2,(slv r0 e2 r0),((hs4.pq [2] r0).cast (lc (own_eq (g:=I) r0 e2 r0 e1) r0))⟩
theorem iIsRequest (n:Int) (ak:Int) {Aaq:Option Addr} {caq:Nat} (aq:List Int) (an:List UInt8) (apt:Int) (w:World) (haq:Sl w [] 1 Aaq aq.length caq (aq.map I)) (han_n:an.length≤1099511627776):Does Tryz.prog 119 [.agg #[I n,I ak,.slice Aaq aq.length caq,Str an,I apt]] w (fun v w'=>v=.bool (reqOk n ak aq an apt)∧SH w w' [] []):=by
 refine fE (N:=11) Tryz.func119 r0 (by kernel_rfl) r0 ?_
 have hs0:=SH.refl w []
 have haq_m:aq.length≤9223372036854775807:=Nat.le_trans haq.cap haq.capMax
 refine sr (bx (v:=.agg #[I n,I ak,(Z4 Aaq aq caq),Str an,I apt]) (cs:=[I n,I ak,(Z4 Aaq aq caq),Str an,I apt]) hs0 r0 r0 trivial r0 (fun b1 w1 hs1=>?_))
 refine tA Z6 r0 (nx (qt r0 (fa 0 fo64_0 r0) (qt r0 (lD (I n) hs1 0 r0 one3) (cS hs1 r0 (iWithin _ 1 3 _) (fun w2 hs2=>?_)))))
 refine tm (.bool (decide (1≤n∧n≤3))) r0 (spd 6 r0 (fun h1=>?_) (fun h1=>?_))
 ·refine qh r0 (fa 1 fo64_1 r0) (qh r0 (lG [I ak,(Z4 Aaq aq caq),Str an,I apt] hs2 0 r0 ag54) (cl ⟨_,rfl,rfl⟩ r0 (iAddressValid _ _ _ _ _ (haq.up0 hs2) (by omega)) ?_))
  rintro _ w3 ⟨rfl,hs3⟩
  replace hs3:=hs2.call0 hs3
  refine qt r0 (pt (v:=.bool (addrOk ak aq an apt)) r0 r0) (tA (.bool (addrOk ak aq an apt)) r0 (nn (rt (fT (.bool (addrOk ak aq an apt)) r0 ?_))))
  have e1:(addrOk ak aq an apt)=reqOk n ak aq an apt:=by simp[reqOk,h1]
  exact⟨(congrArg (Value.bool) e1),(hs3.pk [] r0)⟩
 exact gf5 r0 (gf5 r0 (gf5 r0 (qt r0 (pf (v:=.bool false) r0 r0) (tA Z6 r0 (nn (rt (fB r0 (by simp[reqOk,h1]) (hs2.pk [] r0))))))))
set_option maxHeartbeats 8000000 in
theorem iRequestBytes (n:Int) (ak:Int) {Aaq:Option Addr} {caq:Nat} (aq:List Int) (an:List UInt8) (apt:Int) (w:World) (haq:Sl w [] 1 Aaq aq.length caq (aq.map I)) (han_n:an.length≤1099511627776):Does Tryz.prog 72 [.agg #[I n,I ak,.slice Aaq aq.length caq,Str an,I apt]] w (fun v w'=>∃ Ar:Option Addr,∃ cr:Nat,v=.tuple #[.slice Ar ((reqP n ak aq an apt).1).length cr,.bool ((reqP n ak aq an apt).2)]∧SH w w' [] [.own Ar (((reqP n ak aq an apt).1).length) cr 3 1 (((reqP n ak aq an apt).1).map I)]):=by
 refine fE (N:=14) Tryz.func72 r0 (by kernel_rfl) r0 ?_
 have hs0:=SH.refl w []
 have haq_m:aq.length≤9223372036854775807:=Nat.le_trans haq.cap haq.capMax
 refine sr (bx (v:=.agg #[I n,I ak,(Z4 Aaq aq caq),Str an,I apt]) (cs:=[I n,I ak,(Z4 Aaq aq caq),Str an,I apt]) hs0 r0 r0 trivial r0 (fun b1 w1 hs1=>?_))
 refine tA ns r0 (tA Z6 r0 (nn (sq (sr (qt r0 (lG [I n,I ak,(Z4 Aaq aq caq),Str an,I apt] hs1 0 r0 ag64) (cS hs1 r0 (iIsRequest _ _ _ _ _ _ (haq.up0 hs1) (by omega)) (fun w2 hs2=>?_)))))))
 refine qt r0 (nt r0) (nn (cd r0 (fun h1=>?_) (fun h1=>?_)))
 ·have h2:=nbF h1
  refine sr (tA ns r0 (tA Z6 r0 (nn (rt (tR (fret (.tmp (.tmp .nil)) r0 ?_))))))
  have hs3:=hs2.nl [Z0] r0
  have e1:reqP n ak aq an apt=(([]:List Int),false):=by(simp[reqP,h2]; done)
  rw[e1]
  exact⟨none,0,rfl,(hs3.pk [1] r0)⟩
 have h3:=nbT h1
 refine sk (nN (sq ?_))
 refine raJ (fun w'=>∃ L,SH w w' [] L∧(.blk b1 64 [I n,I ak,(Z4 Aaq aq caq),Str an,I apt])∈L∧True) (fun f w'=>∃ (A5':Option Addr) (c5':Nat) (A6':Option Addr) (c6':Nat),Hz f [(2,.slice A6' ((([5,n,0]:List Int)++(addrB ak aq an apt)).length) c6'),(3,.bool true)]∧SH w w' [] [.blk b1 64 [I n,I ak,(Z4 Aaq aq caq),Str an,I apt],.own A6' ((([5,n,0]:List Int)++(addrB ak aq an apt)).length) c6' 3 1 ((([5,n,0]:List Int)++(addrB ak aq an apt)).map I),.own A5' ((addrB ak aq an apt).length) c5' 3 1 ((addrB ak aq an apt).map I)]) mixed ?_ ?_
 ·refine dG 3 9 63 (fun f w'=>∃ (b2':Nat) (A5':Option Addr) (c5':Nat),Hz f [(2,ns),(3,.bool false),(9,sb b2' (([5,n,0]:List Int).length) 3),(12,.slice A5' ((addrB ak aq an apt).length) c5')]∧SH w w' [] [.blk b1 64 [I n,I ak,(Z4 Aaq aq caq),Str an,I apt],oI b2' ([5,n,0]:List Int) 3 3,.own A5' ((addrB ak aq an apt).length) c5' 3 1 ((addrB ak aq an apt).map I)]) ?_ (fun D_3_0=>?_)
  ·rintro f w3 ⟨b2',A5',c5',⟨g1,rfl⟩,hs4⟩
   refine aO 6 r0 (apm (g:=I) (ys:=([5,n,0]:List Int)) (zs:=addrB ak aq an apt) hs4 1 r0 sl24 r0 r0 r0 (hs4.sl0 2 r0) (fun _=>rfl) (by unfold maxLen; have hbl:=addrB_len (reqOk_addr ‹_›); simp only[List.length_append,List.length_cons,List.length_nil]; omega) (by have hbl:=addrB_len (reqOk_addr ‹_›); simp only[List.length_append,List.length_cons,List.length_nil]; omega) trivial r0 (fun A6' c6' w4 hs5=>?_))
   refine nk (m1 hs5 0 r0) (tk (fuel:=0) (is:=[7,8]) (.cons r0 (.cons r0 (.nil))) (by kernel_rfl) (by kernel_rfl) (m1 hs5 0 r0) (yA r0 (asg (v:=.slice A6' ((([5,n,0]:List Int)++(addrB ak aq an apt)).length) c6') r0) (yA r0 (asg (v:=.bool true) r0) (.nil (ad (by kernel_rfl) ?_)))))
   exact⟨A5',c5',A6',c6',(zR r0),(hs5.pk [0,2,1] r0)⟩
  refine dG 4 9 31 (fun f w'=>∃ (b2':Nat),Hz f [(2,ns),(3,.bool false),(9,sb b2' (([5,n,0]:List Int).length) 3),(11,.agg #[I ak,(Z4 Aaq aq caq),Str an,I apt])]∧SH w w' [] [.blk b1 64 [I n,I ak,(Z4 Aaq aq caq),Str an,I apt],oI b2' ([5,n,0]:List Int) 3 3]) ?_ (fun D_3_1=>?_)
  ·rintro f w5 ⟨b2',⟨g2,rfl⟩,hs6⟩
   refine aO 5 r0 (cL r0 (iAddressBytes _ _ _ _ _ (haq.up0 hs6) (by omega) (by exact reqOk_addr ‹_›)) ?_)
   rintro _ w6 ⟨A5',c5',rfl,hs7⟩
   replace hs7:=hs6.call0 hs7
   exact nk (m1 hs7 0 r0) (alc D_3_0 ⟨b2',A5',c5',(zR r0),hs7⟩)
  refine dG 4 9 59 (fun f w'=>∃ (A5':Option Addr) (c5':Nat),Hz f [(2,ns),(3,.bool false),(8,I n),(12,.slice A5' ((addrB ak aq an apt).length) c5')]∧SH w w' [] [.blk b1 64 [I n,I ak,(Z4 Aaq aq caq),Str an,I apt],.own A5' ((addrB ak aq an apt).length) c5' 3 1 ((addrB ak aq an apt).map I)]) ?_ (fun D_3_2=>?_)
  ·rintro f w7 ⟨A5',c5',⟨g3,rfl⟩,hs8⟩
   refine aO 2 r0 (bsk hs8 sl24 [I 5,I n,I 0] [I 5,I n,I 0] trivial r0 (fun b2' w8 hs9=>?_))
   exact nk (m1 hs9 0 r0) (alc D_3_0 ⟨b2',A5',c5',(zR r0),(hs9.pk [0,2,1] r0)⟩)
  refine dG 5 9 27 (fun f w'=>Hz f [(2,ns),(3,.bool false),(8,I n),(11,.agg #[I ak,(Z4 Aaq aq caq),Str an,I apt])]∧SH w w' [] [.blk b1 64 [I n,I ak,(Z4 Aaq aq caq),Str an,I apt]]) ?_ (fun D_3_3=>?_)
  ·rintro f w9 ⟨⟨g4,rfl⟩,hs10⟩
   refine aaL [2,5] (fa_cons ?_ (fa_one ?_))
   ·refine one_ r0 (bsk hs10 sl24 [I 5,I n,I 0] [I 5,I n,I 0] trivial r0 (fun b2' w10 hs11=>?_))
    exact nk (m1 hs11 0 r0) (alc D_3_1 ⟨b2',(zR r0),hs11⟩)
   refine one_ r0 (cL r0 (iAddressBytes _ _ _ _ _ (haq.up0 hs10) (by omega) (by exact reqOk_addr ‹_›)) ?_)
   rintro _ w11 ⟨A5',c5',rfl,hs12⟩
   replace hs12:=hs10.call0 hs12
   exact nk (m1 hs12 0 r0) (alc D_3_2 ⟨A5',c5',(zR r0),hs12⟩)
  have hs13:=hs2.drew
  exact tk (fuel:=5) (is:=[0,1,3,4]) (.cons r0 (.cons r0 (.cons r0 (.cons r0 (.nil))))) (by kernel_rfl) (by kernel_rfl) (m1 hs13 0 r0) (yA r0 (fa 0 fo64_0 r0) (yB r0 (fun ⟨Lq,hsq,mh0,_⟩=>lM (I n) hsq mh0 r0 one3) (yA r0 (fa 1 fo64_1 r0) (yB r0 (fun ⟨Lq,hsq,mh0,_⟩=>ldgm (vs:=[I ak,(Z4 Aaq aq caq),Str an,I apt]) hsq mh0 r0 r0 r0 ag54) (.nil (alc D_3_3 ⟨(zR r0),hs13⟩))))))
 rintro f w12 ⟨A5',c5',A6',c6',⟨g5,rfl⟩,hs14⟩
 refine nN (rt (fret (.tmp (.tmp .nil)) r0 ?_))
 have e2:reqP n ak aq an apt=(([5,n,0]:List Int)++(addrB ak aq an apt),true):=by(simp[reqP,h3]; done)
 rw[e2]
 exact⟨A6',c6',rfl,(hs14.pk [1] r0)⟩
set_option maxHeartbeats 8000000 in
theorem sRequestBytes (n:Int) (ak:Int) {Aaq:Option Addr} {caq:Nat} (aq:List Int) (an:List UInt8) (apt:Int) (w:World) (haq:Sl w [] 1 Aaq aq.length caq (aq.map I)) (han_n:an.length≤1099511627776):Does Tryz.prog 20 [.agg #[I n,I ak,.slice Aaq aq.length caq,Str an,I apt]] w (fun v w'=>∃ Ar:Option Addr,∃ cr:Nat,v=.tuple #[.slice Ar ((reqP n ak aq an apt).1).length cr,.bool ((reqP n ak aq an apt).2)]∧SH w w' [] [.own Ar (((reqP n ak aq an apt).1).length) cr 3 1 (((reqP n ak aq an apt).1).map I)]):=by
 refine fE (N:=20) Tryz.func20 r0 (by kernel_rfl) r0 ?_
 have hs0:=SH.refl w []
 have haq_m:aq.length≤9223372036854775807:=Nat.le_trans haq.cap haq.capMax
 refine sr (bx (v:=.agg #[I n,I ak,(Z4 Aaq aq caq),Str an,I apt]) (cs:=[I n,I ak,(Z4 Aaq aq caq),Str an,I apt]) hs0 r0 r0 trivial r0 (fun b1 w1 hs1=>?_))
 refine tA ns r0 (tA Z6 r0 (nn (sq (sr (qt r0 (fa 0 fo64_0 r0) (qt r0 (lD (I n) hs1 0 r0 one3) (cS hs1 r0 (sIn _ 1 3 _) (fun w2 hs2=>?_))))))))
 refine qt r0 (nd r0) (tm (.bool (decide (¬ (1≤n∧n≤3)))) r0 (spd 8 r0 (fun h1=>?_) (fun h1=>?_)))
 ·refine gt5 r0 (gt5 r0 (gt5 r0 (gt5 r0 (qt r0 (pt (v:=.bool true) r0 r0) (nn (cdt r0 (sr (bsk hs2 sl24 [] [] trivial r0 (fun b2 w3 hs3=>?_)))))))))
  refine tA (sb b2 (([]:List Int).length) 0) r0 (tA Z6 r0 (nn (rt (tR (fret (.tmp (.tmp .nil)) r0 ?_)))))
  have e1:reqP n ak aq an apt=(([]:List Int),false):=by(simp[reqP,reqOk,h1]; done)
  rw[e1]
  exact⟨(Z8 b2),0,rfl,(hs3.pk [1] r0)⟩
 refine qh r0 (fa 1 fo64_1 r0) (qh r0 (lG [I ak,(Z4 Aaq aq caq),Str an,I apt] hs2 0 r0 ag54) (cl ⟨_,rfl,rfl⟩ r0 (sAddressValid _ _ _ _ _ (haq.up0 hs2) (by omega)) ?_))
 rintro _ w4 ⟨rfl,hs4⟩
 replace hs4:=hs2.call0 hs4
 refine qh r0 (nt r0) (qt r0 (pf (v:=.bool (!(addrOk ak aq an apt))) r0 r0) (nn (cd r0 (fun h2=>?_) (fun h2=>?_))))
 ·have h3:=nbF h2
  refine sr (bsk hs4 sl24 [] [] trivial r0 (fun b3 w5 hs5=>?_))
  refine tA (sb b3 (([]:List Int).length) 0) r0 (tA Z6 r0 (nn (rt (tR (fret (.tmp (.tmp .nil)) r0 ?_)))))
  have e2:reqP n ak aq an apt=(([]:List Int),false):=by(simp[reqP,reqOk,h1,h3]; done)
  rw[e2]
  exact⟨(Z8 b3),0,rfl,(hs5.pk [1] r0)⟩
 have h4:=nbT h2
 refine sk (nN (sr (qt r0 (fa 0 fo64_0 r0) (qt r0 (lD (I n) hs4 0 r0 one3) (qt r0 (fa 1 fo64_1 r0) (qt r0 (lG [I ak,(Z4 Aaq aq caq),Str an,I apt] hs4 0 r0 ag54) (cS2 hs4 r0 (sL12Bytes _ _ _ _ _ _ (haq.up0 hs4) (by omega) (‹_›)) (fun A1 c1 w6 hs6=>?_))))))))
 refine tA (.slice A1 (([5,n,0]++addrB ak aq an apt).length) c1) r0 (tA Z35 r0 (nn (rt (fret (.tmp (.tmp .nil)) r0 ?_))))
 have e3:reqP n ak aq an apt=([5,n,0]++addrB ak aq an apt,true):=by(simp[reqP,reqOk,h1,h4]; done)
 rw[e3]
 exact⟨A1,c1,rfl,(hs6.pk [1] r0)⟩
set_option maxHeartbeats 8000000 in
theorem iLoginBytes (lu:List UInt8) (lw:List UInt8) (w:World) (hlu_n:lu.length≤2147483648) (hlw_n:lw.length≤2147483648):Does Tryz.prog 73 [.agg #[Str lu,Str lw]] w (fun v w'=>∃ Ar:Option Addr,∃ cr:Nat,v=.tuple #[.slice Ar ((loginP lu lw).1).length cr,.bool ((loginP lu lw).2)]∧SH w w' [] [.own Ar (((loginP lu lw).1).length) cr 3 1 (((loginP lu lw).1).map I)]):=by
 refine fE (N:=23) Tryz.func73 r0 (by kernel_rfl) r0 ?_
 have hs0:=SH.refl w []
 refine sr (bx (v:=.agg #[Str lu,Str lw]) (cs:=[Str lu,Str lw]) hs0 r0 r0 trivial r0 (fun b1 w1 hs1=>?_))
 refine tA ns r0 (tA Z6 r0 (nn (sq (sr (qt r0 (lG [Str lu,Str lw] hs1 0 r0 ag31) (cS hs1 r0 (iIsLogin _ _ _ (by omega) (by omega)) (fun w2 hs2=>?_)))))))
 refine qt r0 (nt r0) (nn (cd r0 (fun h1=>?_) (fun h1=>?_)))
 ·have h2:=nbF h1
  refine sr (tA ns r0 (tA Z6 r0 (nn (rt (tR (fret (.tmp (.tmp .nil)) r0 ?_))))))
  have hs3:=hs2.nl [Z0] r0
  have e1:loginP lu lw=(([]:List Int),false):=by(try simp only[catH_cons,catH_nil,List.append_nil]); simp[loginP,h2]
  rw[e1]
  exact⟨none,0,rfl,(hs3.pk [1] r0)⟩
 have h3:=nbT h1
 refine sk (nN (sq ?_))
 refine raJ (fun w'=>∃ L,SH w w' [] L∧(.blk b1 31 [Str lu,Str lw])∈L∧True) (fun f w'=>∃ (b3':Nat) (A6':Option Addr) (c6' b10':Nat) (A13':Option Addr) (c13' b14':Nat) (A15':Option Addr) (c15':Nat),Hz f [(2,.slice A15' ((catH ([(⟨(Z8 b3'),2,(Z34 lu)⟩:Hd),(⟨A6',c6',textI lu⟩:Hd),(⟨(Z8 b10'),1,(Z24 lw)⟩:Hd),(⟨A13',c13',textI lw⟩:Hd)]:List Hd)).length) c15'),(3,.bool true)]∧SH w w' [] [(Z76 b1 lu lw),oI b10' (Z24 lw) 1 3,(Z29 A13' lw c13'),.own (Z8 b14') (([(⟨(Z8 b3'),2,(Z34 lu)⟩:Hd),(⟨A6',c6',textI lu⟩:Hd),(⟨(Z8 b10'),1,(Z24 lw)⟩:Hd),(⟨A13',c13',textI lw⟩:Hd)]:List Hd).length) 4 24 1 (([(⟨(Z8 b3'),2,(Z34 lu)⟩:Hd),(⟨A6',c6',textI lu⟩:Hd),(⟨(Z8 b10'),1,(Z24 lw)⟩:Hd),(⟨A13',c13',textI lw⟩:Hd)]:List Hd).map hv),.own A15' ((catH ([(⟨(Z8 b3'),2,(Z34 lu)⟩:Hd),(⟨A6',c6',textI lu⟩:Hd),(⟨(Z8 b10'),1,(Z24 lw)⟩:Hd),(⟨A13',c13',textI lw⟩:Hd)]:List Hd)).length) c15' 3 1 ((catH ([(⟨(Z8 b3'),2,(Z34 lu)⟩:Hd),(⟨A6',c6',textI lu⟩:Hd),(⟨(Z8 b10'),1,(Z24 lw)⟩:Hd),(⟨A13',c13',textI lw⟩:Hd)]:List Hd)).map I),oI b3' (Z34 lu) 2 3,(Z29 A6' lu c6')]) mixed ?_ ?_
 ·refine dG 3 18 32767 (fun f w'=>∃ (b3':Nat) (A6':Option Addr) (c6' b10':Nat) (A13':Option Addr) (c13' b14':Nat),Hz f [(2,ns),(3,.bool false),(21,sb b14' (([(⟨(Z8 b3'),2,(Z34 lu)⟩:Hd),(⟨A6',c6',textI lu⟩:Hd),(⟨(Z8 b10'),1,(Z24 lw)⟩:Hd),(⟨A13',c13',textI lw⟩:Hd)]:List Hd).length) 4)]∧SH w w' [] [(Z76 b1 lu lw),oI b10' (Z24 lw) 1 3,(Z29 A13' lw c13'),.own (Z8 b14') (([(⟨(Z8 b3'),2,(Z34 lu)⟩:Hd),(⟨A6',c6',textI lu⟩:Hd),(⟨(Z8 b10'),1,(Z24 lw)⟩:Hd),(⟨A13',c13',textI lw⟩:Hd)]:List Hd).length) 4 24 1 (([(⟨(Z8 b3'),2,(Z34 lu)⟩:Hd),(⟨A6',c6',textI lu⟩:Hd),(⟨(Z8 b10'),1,(Z24 lw)⟩:Hd),(⟨A13',c13',textI lw⟩:Hd)]:List Hd).map hv),oI b3' (Z34 lu) 2 3,(Z29 A6' lu c6')]) ?_ (fun D_3_0=>?_)
  ·rintro f w3 ⟨b3',A6',c6',b10',A13',c13',b14',⟨g1,rfl⟩,hs4⟩
   refine aO 15 r0 (cL r0 (slConcat ([(⟨(Z8 b3'),2,(Z34 lu)⟩:Hd),(⟨A6',c6',textI lu⟩:Hd),(⟨(Z8 b10'),1,(Z24 lw)⟩:Hd),(⟨A13',c13',textI lw⟩:Hd)]:List Hd) _ (hs4.sl0 3 r0) (fa_cons (hs4.sl0 4 r0) (fa_cons (hs4.sl0 5 r0) (fa_cons (hs4.sl0 1 r0) (fa_cons (hs4.sl0 2 r0) fa_nil)))) (by have hlf:=loginOk_fit ‹_›; have htl:=textI_len lu; have htw:=textI_len lw; simp[catH]; omega)) ?_)
   rintro _ w4 ⟨A15',c15',rfl,hs5⟩
   replace hs5:=hs4.call0 hs5
   refine nk (m1 hs5 0 r0) (tk (fuel:=0) (is:=[16,17]) (.cons r0 (.cons r0 (.nil))) (by kernel_rfl) (by kernel_rfl) (m1 hs5 0 r0) (yA r0 (asg (v:=.slice A15' ((catH ([(⟨(Z8 b3'),2,(Z34 lu)⟩:Hd),(⟨A6',c6',textI lu⟩:Hd),(⟨(Z8 b10'),1,(Z24 lw)⟩:Hd),(⟨A13',c13',textI lw⟩:Hd)]:List Hd)).length) c15') r0) (yA r0 (asg (v:=.bool true) r0) (.nil (ad (by kernel_rfl) ?_)))))
   exact⟨b3',A6',c6',b10',A13',c13',b14',A15',c15',(zR r0),(hs5.pk [0,1,2,3,6,4,5] r0)⟩
  refine dG 4 18 16383 (fun f w'=>∃ (b3':Nat) (A6':Option Addr) (c6' b10':Nat) (A13':Option Addr) (c13':Nat),Hz f [(2,ns),(3,.bool false),(10,sb b3' ((Z34 lu).length) 2),(13,.slice A6' ((textI lu).length) c6'),(17,sb b10' ((Z24 lw).length) 1),(20,.slice A13' ((textI lw).length) c13')]∧SH w w' [] [(Z76 b1 lu lw),oI b10' (Z24 lw) 1 3,(Z29 A13' lw c13'),oI b3' (Z34 lu) 2 3,(Z29 A6' lu c6')]) ?_ (fun D_3_1=>?_)
  ·rintro f w5 ⟨b3',A6',c6',b10',A13',c13',⟨g2,rfl⟩,hs6⟩
   refine aO 14 r0 (bsk hs6 sl134 [sb b3' ((Z34 lu).length) 2,.slice A6' ((textI lu).length) c6',sb b10' ((Z24 lw).length) 1,.slice A13' ((textI lw).length) c13'] [sb b3' ((Z34 lu).length) 2,.slice A6' ((textI lu).length) c6',sb b10' ((Z24 lw).length) 1,.slice A13' ((textI lw).length) c13'] trivial r0 (fun b14' w6 hs7=>?_))
   exact nk (m1 hs7 0 r0) (alc D_3_0 ⟨b3',A6',c6',b10',A13',c13',b14',(zR r0),(hs7.pk [0,1,2,5,3,4] r0)⟩)
  refine dG 5 18 8191 (fun f w'=>∃ (b3':Nat) (A6':Option Addr) (c6' b10':Nat),Hz f [(2,ns),(3,.bool false),(10,sb b3' ((Z34 lu).length) 2),(13,.slice A6' ((textI lu).length) c6'),(17,sb b10' ((Z24 lw).length) 1),(19,Str lw)]∧SH w w' [] [(Z76 b1 lu lw),oI b10' (Z24 lw) 1 3,oI b3' (Z34 lu) 2 3,(Z29 A6' lu c6')]) ?_ (fun D_3_2=>?_)
  ·rintro f w7 ⟨b3',A6',c6',b10',⟨g3,rfl⟩,hs8⟩
   refine aO 13 r0 (cL r0 (iTextBytes _ _ (by omega)) ?_)
   rintro _ w8 ⟨A13',c13',rfl,hs9⟩
   replace hs9:=hs8.call0 hs9
   exact nk (m1 hs9 0 r0) (alc D_3_1 ⟨b3',A6',c6',b10',A13',c13',(zR r0),(hs9.pk [0,1,4,2,3] r0)⟩)
  refine dG 5 18 15359 (fun f w'=>∃ (b3':Nat) (A6':Option Addr) (c6':Nat) (A13':Option Addr) (c13':Nat),Hz f [(2,ns),(3,.bool false),(10,sb b3' ((Z34 lu).length) 2),(13,.slice A6' ((textI lu).length) c6'),(16,I (lw.length:Int)),(20,.slice A13' ((textI lw).length) c13')]∧SH w w' [] [(Z76 b1 lu lw),(Z29 A13' lw c13'),oI b3' (Z34 lu) 2 3,(Z29 A6' lu c6')]) ?_ (fun D_3_3=>?_)
  ·rintro f w9 ⟨b3',A6',c6',A13',c13',⟨g4,rfl⟩,hs10⟩
   refine aO 10 r0 (bsk hs10 sl24 (Z91 lw) (Z91 lw) trivial r0 (fun b10' w10 hs11=>?_))
   exact nk (m1 hs11 0 r0) (alc D_3_1 ⟨b3',A6',c6',b10',A13',c13',(zR r0),(hs11.pk [0,4,1,2,3] r0)⟩)
  refine dG 5 18 16375 (fun f w'=>∃ (A6':Option Addr) (c6' b10':Nat) (A13':Option Addr) (c13':Nat),Hz f [(2,ns),(3,.bool false),(9,I (lu.length:Int)),(13,.slice A6' ((textI lu).length) c6'),(17,sb b10' ((Z24 lw).length) 1),(20,.slice A13' ((textI lw).length) c13')]∧SH w w' [] [(Z76 b1 lu lw),oI b10' (Z24 lw) 1 3,(Z29 A13' lw c13'),(Z29 A6' lu c6')]) ?_ (fun D_3_4=>?_)
  ·rintro f w11 ⟨A6',c6',b10',A13',c13',⟨g5,rfl⟩,hs12⟩
   refine aO 3 r0 (bsk hs12 sl24 (Z77 lu) (Z77 lu) trivial r0 (fun b3' w12 hs13=>?_))
   exact nk (m1 hs13 0 r0) (alc D_3_1 ⟨b3',A6',c6',b10',A13',c13',(zR r0),(hs13.pk [0,1,2,4,3] r0)⟩)
  refine dG 6 18 7167 (fun f w'=>∃ (b3':Nat) (A6':Option Addr) (c6':Nat),Hz f [(2,ns),(3,.bool false),(10,sb b3' ((Z34 lu).length) 2),(13,.slice A6' ((textI lu).length) c6'),(16,I (lw.length:Int)),(19,Str lw)]∧SH w w' [] [(Z76 b1 lu lw),oI b3' (Z34 lu) 2 3,(Z29 A6' lu c6')]) ?_ (fun D_3_5=>?_)
  ·rintro f w13 ⟨b3',A6',c6',⟨g6,rfl⟩,hs14⟩
   refine aaL [10,13] (fa_cons ?_ (fa_one ?_))
   ·refine one_ r0 (bsk hs14 sl24 (Z91 lw) (Z91 lw) trivial r0 (fun b10' w14 hs15=>?_))
    exact nk (m1 hs15 0 r0) (alc D_3_2 ⟨b3',A6',c6',b10',(zR r0),(hs15.pk [0,3,1,2] r0)⟩)
   refine one_ r0 (cL r0 (iTextBytes _ _ (by omega)) ?_)
   rintro _ w15 ⟨A13',c13',rfl,hs16⟩
   replace hs16:=hs14.call0 hs16
   exact nk (m1 hs16 0 r0) (alc D_3_3 ⟨b3',A6',c6',A13',c13',(zR r0),(hs16.pk [0,3,1,2] r0)⟩)
  refine dG 6 18 8127 (fun f w'=>∃ (b3' b10':Nat),Hz f [(2,ns),(3,.bool false),(10,sb b3' ((Z34 lu).length) 2),(12,Str lu),(17,sb b10' ((Z24 lw).length) 1),(19,Str lw)]∧SH w w' [] [(Z76 b1 lu lw),oI b10' (Z24 lw) 1 3,oI b3' (Z34 lu) 2 3]) ?_ (fun D_3_6=>?_)
  ·rintro f w16 ⟨b3',b10',⟨g7,rfl⟩,hs17⟩
   refine aO 6 r0 (cL r0 (iTextBytes _ _ (by omega)) ?_)
   rintro _ w17 ⟨A6',c6',rfl,hs18⟩
   replace hs18:=hs17.call0 hs18
   exact nk (m1 hs18 0 r0) (alc D_3_2 ⟨b3',A6',c6',b10',(zR r0),hs18⟩)
  refine dG 6 18 8183 (fun f w'=>∃ (A6':Option Addr) (c6' b10':Nat),Hz f [(2,ns),(3,.bool false),(9,I (lu.length:Int)),(13,.slice A6' ((textI lu).length) c6'),(17,sb b10' ((Z24 lw).length) 1),(19,Str lw)]∧SH w w' [] [(Z76 b1 lu lw),oI b10' (Z24 lw) 1 3,(Z29 A6' lu c6')]) ?_ (fun D_3_7=>?_)
  ·rintro f w18 ⟨A6',c6',b10',⟨g8,rfl⟩,hs19⟩
   refine aaL [3,13] (fa_cons ?_ (fa_one ?_))
   ·refine one_ r0 (bsk hs19 sl24 (Z77 lu) (Z77 lu) trivial r0 (fun b3' w19 hs20=>?_))
    exact nk (m1 hs20 0 r0) (alc D_3_2 ⟨b3',A6',c6',b10',(zR r0),(hs20.pk [0,1,3,2] r0)⟩)
   refine one_ r0 (cL r0 (iTextBytes _ _ (by omega)) ?_)
   rintro _ w20 ⟨A13',c13',rfl,hs21⟩
   replace hs21:=hs19.call0 hs21
   exact nk (m1 hs21 0 r0) (alc D_3_4 ⟨A6',c6',b10',A13',c13',(zR r0),(hs21.pk [0,1,3,2] r0)⟩)
  refine dG 6 18 15351 (fun f w'=>∃ (A6':Option Addr) (c6':Nat) (A13':Option Addr) (c13':Nat),Hz f [(2,ns),(3,.bool false),(9,I (lu.length:Int)),(13,.slice A6' ((textI lu).length) c6'),(16,I (lw.length:Int)),(20,.slice A13' ((textI lw).length) c13')]∧SH w w' [] [(Z76 b1 lu lw),(Z29 A13' lw c13'),(Z29 A6' lu c6')]) ?_ (fun D_3_8=>?_)
  ·rintro f w21 ⟨A6',c6',A13',c13',⟨g9,rfl⟩,hs22⟩
   refine aaL [3,10] (fa_cons ?_ (fa_one ?_))
   ·refine one_ r0 (bsk hs22 sl24 (Z77 lu) (Z77 lu) trivial r0 (fun b3' w22 hs23=>?_))
    exact nk (m1 hs23 0 r0) (alc D_3_3 ⟨b3',A6',c6',A13',c13',(zR r0),(hs23.pk [0,1,3,2] r0)⟩)
   refine one_ r0 (bsk hs22 sl24 (Z91 lw) (Z91 lw) trivial r0 (fun b10' w23 hs24=>?_))
   exact nk (m1 hs24 0 r0) (alc D_3_4 ⟨A6',c6',b10',A13',c13',(zR r0),(hs24.pk [0,3,1,2] r0)⟩)
  refine dG 7 18 7103 (fun f w'=>∃ (b3':Nat),Hz f [(2,ns),(3,.bool false),(10,sb b3' ((Z34 lu).length) 2),(12,Str lu),(16,I (lw.length:Int)),(19,Str lw)]∧SH w w' [] [(Z76 b1 lu lw),oI b3' (Z34 lu) 2 3]) ?_ (fun D_3_9=>?_)
  ·rintro f w24 ⟨b3',⟨g10,rfl⟩,hs25⟩
   refine aaL [6,10] (fa_cons ?_ (fa_one ?_))
   ·refine one_ r0 (cL r0 (iTextBytes _ _ (by omega)) ?_)
    rintro _ w25 ⟨A6',c6',rfl,hs26⟩
    replace hs26:=hs25.call0 hs26
    exact nk (m1 hs26 0 r0) (alc D_3_5 ⟨b3',A6',c6',(zR r0),hs26⟩)
   refine one_ r0 (bsk hs25 sl24 (Z91 lw) (Z91 lw) trivial r0 (fun b10' w26 hs27=>?_))
   exact nk (m1 hs27 0 r0) (alc D_3_6 ⟨b3',b10',(zR r0),(hs27.pk [0,2,1] r0)⟩)
  refine dG 7 18 7159 (fun f w'=>∃ (A6':Option Addr) (c6':Nat),Hz f [(2,ns),(3,.bool false),(9,I (lu.length:Int)),(13,.slice A6' ((textI lu).length) c6'),(16,I (lw.length:Int)),(19,Str lw)]∧SH w w' [] [(Z76 b1 lu lw),(Z29 A6' lu c6')]) ?_ (fun D_3_10=>?_)
  ·rintro f w27 ⟨A6',c6',⟨g11,rfl⟩,hs28⟩
   refine aaL [3,10,13] (fa_cons ?_ (fa_cons ?_ (fa_one ?_)))
   ·refine one_ r0 (bsk hs28 sl24 (Z77 lu) (Z77 lu) trivial r0 (fun b3' w28 hs29=>?_))
    exact nk (m1 hs29 0 r0) (alc D_3_5 ⟨b3',A6',c6',(zR r0),(hs29.pk [0,2,1] r0)⟩)
   ·refine one_ r0 (bsk hs28 sl24 (Z91 lw) (Z91 lw) trivial r0 (fun b10' w29 hs30=>?_))
    exact nk (m1 hs30 0 r0) (alc D_3_7 ⟨A6',c6',b10',(zR r0),(hs30.pk [0,2,1] r0)⟩)
   refine one_ r0 (cL r0 (iTextBytes _ _ (by omega)) ?_)
   rintro _ w30 ⟨A13',c13',rfl,hs31⟩
   replace hs31:=hs28.call0 hs31
   exact nk (m1 hs31 0 r0) (alc D_3_8 ⟨A6',c6',A13',c13',(zR r0),(hs31.pk [0,2,1] r0)⟩)
  refine dG 7 18 8119 (fun f w'=>∃ (b10':Nat),Hz f [(2,ns),(3,.bool false),(9,I (lu.length:Int)),(12,Str lu),(17,sb b10' ((Z24 lw).length) 1),(19,Str lw)]∧SH w w' [] [(Z76 b1 lu lw),oI b10' (Z24 lw) 1 3]) ?_ (fun D_3_11=>?_)
  ·rintro f w31 ⟨b10',⟨g12,rfl⟩,hs32⟩
   refine aaL [3,6] (fa_cons ?_ (fa_one ?_))
   ·refine one_ r0 (bsk hs32 sl24 (Z77 lu) (Z77 lu) trivial r0 (fun b3' w32 hs33=>?_))
    exact nk (m1 hs33 0 r0) (alc D_3_6 ⟨b3',b10',(zR r0),hs33⟩)
   refine one_ r0 (cL r0 (iTextBytes _ _ (by omega)) ?_)
   rintro _ w33 ⟨A6',c6',rfl,hs34⟩
   replace hs34:=hs32.call0 hs34
   exact nk (m1 hs34 0 r0) (alc D_3_7 ⟨A6',c6',b10',(zR r0),hs34⟩)
  refine dG 8 18 7095 (fun f w'=>Hz f [(2,ns),(3,.bool false),(9,I (lu.length:Int)),(12,Str lu),(16,I (lw.length:Int)),(19,Str lw)]∧SH w w' [] [(Z76 b1 lu lw)]) ?_ (fun D_3_12=>?_)
  ·rintro f w34 ⟨⟨g13,rfl⟩,hs35⟩
   refine aaL [3,6,10] (fa_cons ?_ (fa_cons ?_ (fa_one ?_)))
   ·refine one_ r0 (bsk hs35 sl24 (Z77 lu) (Z77 lu) trivial r0 (fun b3' w35 hs36=>?_))
    exact nk (m1 hs36 0 r0) (alc D_3_9 ⟨b3',(zR r0),hs36⟩)
   ·refine one_ r0 (cL r0 (iTextBytes _ _ (by omega)) ?_)
    rintro _ w36 ⟨A6',c6',rfl,hs37⟩
    replace hs37:=hs35.call0 hs37
    exact nk (m1 hs37 0 r0) (alc D_3_10 ⟨A6',c6',(zR r0),hs37⟩)
   refine one_ r0 (bsk hs35 sl24 (Z91 lw) (Z91 lw) trivial r0 (fun b10' w37 hs38=>?_))
   exact nk (m1 hs38 0 r0) (alc D_3_11 ⟨b10',(zR r0),hs38⟩)
  have hs39:=hs2.drew
  exact tk (fuel:=8) (is:=[0,1,2,4,5,7,8,9,11,12]) (.cons r0 (.cons r0 (.cons r0 (.cons r0 (.cons r0 (.cons r0 (.cons r0 (.cons r0 (.cons r0 (.cons r0 (.nil))))))))))) (by kernel_rfl) (by kernel_rfl) (m1 hs39 0 r0) (yA r0 (fa 0 fo31_0 r0) (yB r0 (fun ⟨Lq,hsq,mh0,_⟩=>lM (Str lu) hsq mh0 r0 one9) (yA r0 (lnS st9 r0) (yA r0 (fa 0 fo31_0 r0) (yB r0 (fun ⟨Lq,hsq,mh0,_⟩=>lM (Str lu) hsq mh0 r0 one9) (yA r0 (fa 1 fo31_1 r0) (yB r0 (fun ⟨Lq,hsq,mh0,_⟩=>lM (Str lw) hsq mh0 r0 one9) (yA r0 (lnS st9 r0) (yA r0 (fa 1 fo31_1 r0) (yB r0 (fun ⟨Lq,hsq,mh0,_⟩=>lM (Str lw) hsq mh0 r0 one9) (.nil (alc D_3_12 ⟨(zR r0),hs39⟩))))))))))))
 rintro f w38 ⟨b3',A6',c6',b10',A13',c13',b14',A15',c15',⟨g14,rfl⟩,hs40⟩
 refine nN ?_
 have hs41:=hs40.pq [4] r0
 refine rt (fret (.tmp (.tmp .nil)) r0 ?_)
 have e2:loginP lu lw=(catH ([(⟨(Z8 b3'),2,(Z34 lu)⟩:Hd),(⟨A6',c6',textI lu⟩:Hd),(⟨(Z8 b10'),1,(Z24 lw)⟩:Hd),(⟨A13',c13',textI lw⟩:Hd)]:List Hd),true):=by(try simp only[catH_cons,catH_nil,List.append_nil]); simp[loginP,h3]
 rw[e2]
 exact⟨A15',c15',rfl,hs41⟩
set_option maxHeartbeats 8000000 in
theorem sLoginBytes (lu:List UInt8) (lw:List UInt8) (w:World) (hlu_n:lu.length≤2147483648) (hlw_n:lw.length≤2147483648):Does Tryz.prog 21 [.agg #[Str lu,Str lw]] w (fun v w'=>∃ Ar:Option Addr,∃ cr:Nat,v=.tuple #[.slice Ar ((loginP lu lw).1).length cr,.bool ((loginP lu lw).2)]∧SH w w' [] [.own Ar (((loginP lu lw).1).length) cr 3 1 (((loginP lu lw).1).map I)]):=by
 refine fE (N:=28) Tryz.func21 r0 (by kernel_rfl) r0 ?_
 have hs0:=SH.refl w []
 refine sr (bx (v:=.agg #[Str lu,Str lw]) (cs:=[Str lu,Str lw]) hs0 r0 r0 trivial r0 (fun b1 w1 hs1=>?_))
 refine tA ns r0 (tA Z6 r0 (nn (sq (sr (qt r0 (lG [Str lu,Str lw] hs1 0 r0 ag31) (cS hs1 r0 (sL11Ok _ _ _ (by omega) (by omega)) (fun w2 hs2=>?_)))))))
 refine qt r0 (nt r0) (nn (cd r0 (fun h1=>?_) (fun h1=>?_)))
 ·have h2:=nbF h1
  refine sr (bsk hs2 sl24 [] [] trivial r0 (fun b2 w3 hs3=>?_))
  refine tA (sb b2 (([]:List Int).length) 0) r0 (tA Z6 r0 (nn (rt (tR (fret (.tmp (.tmp .nil)) r0 ?_)))))
  have e1:loginP lu lw=(([]:List Int),false):=by(try simp only[catH_cons,catH_nil,List.append_nil]); simp[loginP,h2]
  rw[e1]
  exact⟨(Z8 b2),0,rfl,(hs3.pk [1] r0)⟩
 have h3:=nbT h1
 refine sk (nN (sq ?_))
 refine raJ (fun w'=>∃ L,SH w w' [] L∧(.blk b1 31 [Str lu,Str lw])∈L∧True) (fun f w'=>∃ (A6':Option Addr) (c6':Nat) (A7':Option Addr) (c7':Nat),Hz f [(1,pB b1),(4,.slice A7' (((Z34 lu)++(textI lu)).length) c7')]∧SH w w' [] [(Z76 b1 lu lw),.own A7' (((Z34 lu)++(textI lu)).length) c7' 3 1 (((Z34 lu)++(textI lu)).map I),(Z29 A6' lu c6')]) mixed ?_ ?_
 ·refine dG 2 9 127 (fun f w'=>∃ (b3':Nat) (A6':Option Addr) (c6':Nat),Hz f [(1,pB b1),(12,sb b3' ((Z34 lu).length) 2),(15,.slice A6' ((textI lu).length) c6')]∧SH w w' [] [(Z76 b1 lu lw),oI b3' (Z34 lu) 2 3,(Z29 A6' lu c6')]) ?_ (fun D_3_0=>?_)
  ·rintro f w4 ⟨b3',A6',c6',⟨g1,rfl⟩,hs4⟩
   have hlf:=loginOk_fit ‹_›
   have htl:=textI_len lu
   have htw:=textI_len lw
   refine aO 7 r0 (apm (g:=I) (ys:=(Z34 lu)) (zs:=textI lu) hs4 1 r0 sl24 r0 r0 r0 (hs4.sl0 2 r0) (fun _=>rfl) (by unfold maxLen; simp only[List.length_append,List.length_cons,List.length_nil]; omega) (by simp only[List.length_append,List.length_cons,List.length_nil]; omega) trivial r0 (fun A7' c7' w5 hs5=>?_))
   refine nk (m1 hs5 0 r0) (tk (fuel:=0) (is:=[8]) (.cons r0 (.nil)) (by kernel_rfl) (by kernel_rfl) (m1 hs5 0 r0) (yA r0 (asg (v:=.slice A7' (((Z34 lu)++(textI lu)).length) c7') r0) (.nil (ad (by kernel_rfl) ?_))))
   exact⟨A6',c6',A7',c7',(zR r0),(hs5.pk [0,2,1] r0)⟩
  refine dG 3 9 63 (fun f w'=>∃ (b3':Nat),Hz f [(1,pB b1),(12,sb b3' ((Z34 lu).length) 2),(14,Str lu)]∧SH w w' [] [(Z76 b1 lu lw),oI b3' (Z34 lu) 2 3]) ?_ (fun D_3_1=>?_)
  ·rintro f w6 ⟨b3',⟨g2,rfl⟩,hs6⟩
   refine aO 6 r0 (cL r0 (sL1Text _ _ (by omega)) ?_)
   rintro _ w7 ⟨A6',c6',rfl,hs7⟩
   replace hs7:=hs6.call0 hs7
   exact nk (m1 hs7 0 r0) (alc D_3_0 ⟨b3',A6',c6',(zR r0),hs7⟩)
  refine dG 3 9 119 (fun f w'=>∃ (A6':Option Addr) (c6':Nat),Hz f [(1,pB b1),(11,I (lu.length:Int)),(15,.slice A6' ((textI lu).length) c6')]∧SH w w' [] [(Z76 b1 lu lw),(Z29 A6' lu c6')]) ?_ (fun D_3_2=>?_)
  ·rintro f w8 ⟨A6',c6',⟨g3,rfl⟩,hs8⟩
   refine aO 3 r0 (bsk hs8 sl24 (Z77 lu) (Z77 lu) trivial r0 (fun b3' w9 hs9=>?_))
   exact nk (m1 hs9 0 r0) (alc D_3_0 ⟨b3',A6',c6',(zR r0),(hs9.pk [0,2,1] r0)⟩)
  refine dG 4 9 55 (fun f w'=>Hz f [(1,pB b1),(11,I (lu.length:Int)),(14,Str lu)]∧SH w w' [] [(Z76 b1 lu lw)]) ?_ (fun D_3_3=>?_)
  ·rintro f w10 ⟨⟨g4,rfl⟩,hs10⟩
   refine aaL [3,6] (fa_cons ?_ (fa_one ?_))
   ·refine one_ r0 (bsk hs10 sl24 (Z77 lu) (Z77 lu) trivial r0 (fun b3' w11 hs11=>?_))
    exact nk (m1 hs11 0 r0) (alc D_3_1 ⟨b3',(zR r0),hs11⟩)
   refine one_ r0 (cL r0 (sL1Text _ _ (by omega)) ?_)
   rintro _ w12 ⟨A6',c6',rfl,hs12⟩
   replace hs12:=hs10.call0 hs12
   exact nk (m1 hs12 0 r0) (alc D_3_2 ⟨A6',c6',(zR r0),hs12⟩)
  have hs13:=hs2.drew
  exact tk (fuel:=4) (is:=[0,1,2,4,5]) (.cons r0 (.cons r0 (.cons r0 (.cons r0 (.cons r0 (.nil)))))) (by kernel_rfl) (by kernel_rfl) (m1 hs13 0 r0) (yA r0 (fa 0 fo31_0 r0) (yB r0 (fun ⟨Lq,hsq,mh0,_⟩=>lM (Str lu) hsq mh0 r0 one9) (yA r0 (lnS st9 r0) (yA r0 (fa 0 fo31_0 r0) (yB r0 (fun ⟨Lq,hsq,mh0,_⟩=>lM (Str lu) hsq mh0 r0 one9) (.nil (alc D_3_3 ⟨(zR r0),hs13⟩)))))))
 rintro f w13 ⟨A6',c6',A7',c7',⟨g5,rfl⟩,hs14⟩
 refine nN (sr (tm (.slice A7' (((Z34 lu)++(textI lu)).length) c7') r0 (qt r0 (fa 1 fo31_1 r0) (qt r0 (lD (Str lw) hs14 0 r0 one9) (qt r0 (lnS st9 r0) (bsk hs14 sl24 (Z91 lw) (Z91 lw) trivial r0 (fun b3 w14 hs15=>?_)))))))
 have hlf:=loginOk_fit ‹_›
 have htl:=textI_len lu
 have htw:=textI_len lw
 refine apm (g:=I) (ys:=(Z34 lu)++(textI lu)) (zs:=(Z24 lw)) hs15 1 r0 sl24 r0 r0 r0 (hs15.sl0 3 r0) (fun _=>rfl) (by unfold maxLen; simp only[List.length_append,List.length_cons,List.length_nil]; omega) (by simp only[List.length_append,List.length_cons,List.length_nil]; omega) trivial r0 (fun A1 c1 w15 hs16=>?_)
 refine tA (.slice A1 ((((Z34 lu)++(textI lu))++(Z24 lw)).length) c1) r0 (nn ?_)
 have hs17:=hs16.pq [0,3] r0
 refine sr (tm (.slice A1 ((((Z34 lu)++(textI lu))++(Z24 lw)).length) c1) r0 (qt r0 (fa 1 fo31_1 r0) (qt r0 (lD (Str lw) hs17 0 r0 one9) (cS2 hs17 r0 (sL1Text _ _ (by omega)) (fun A2 c2 w16 hs18=>?_)))))
 refine apm (g:=I) (ys:=((Z34 lu)++(textI lu))++(Z24 lw)) (zs:=textI lw) hs18 1 r0 sl24 r0 r0 r0 (hs18.sl0 2 r0) (fun _=>rfl) (by unfold maxLen; simp only[List.length_append,List.length_cons,List.length_nil]; omega) (by simp only[List.length_append,List.length_cons,List.length_nil]; omega) trivial r0 (fun A3 c3 w17 hs19=>?_)
 refine tA (.slice A3 (((((Z34 lu)++(textI lu))++(Z24 lw))++(textI lw)).length) c3) r0 (tA Z35 r0 (nn (rt (fret (.tmp (.tmp .nil)) r0 ?_))))
 have e2:loginP lu lw=((((Z34 lu)++(textI lu))++(Z24 lw))++(textI lw),true):=by(try simp only[catH_cons,catH_nil,List.append_nil]); simp[loginP,h3]
 rw[e2]
 exact⟨A3,c3,rfl,(hs19.pk [2] r0)⟩
theorem stItoa (n:Int) (w:World) (hn: -9223372036854775808≤n∧n≤9223372036854775807) (hGp:VarP Tryz.prog w [] "internal/strconv.uint64pow10" isPow):Does Tryz.prog 77 [I n] w (fun v w'=>v=Str (Lib.itoa n)∧SH w w' [] []):=by
 exact does_grow ⟨_,_,Tryz.func77,by kernel_rfl,rfl⟩ r0 (Tryz.strconv_Itoa n hn.1 hn.2 w hGp.tab)
theorem writeString {bb:Nat} {pb:Option Addr} {Abb:Option Addr} {cbb:Nat} (l:List UInt8) (s:List UInt8) (w:World) (hbd:w.heap[bb]?=some (.cells [.pointer pb,.slice Abb l.length cbb].toArray 38 (0,0))) (hpb:pb=none∨pb=some ⟨bb,0,none⟩) (hbo:OwnR w Abb l.length cbb 5 1 (l.map U)) (hbx: ∀ k,(It.own Abb l.length cbb 5 1 (l.map U)).has k→ ¬ (It.blk bb 38 [.pointer pb,.slice Abb l.length cbb]).has k) (hs_n:s.length≤1099511627776) (hl:l.length≤1099511627776):Does Tryz.prog 12 [pB bb,Str s] w (fun v w'=>∃ Aor:Option Addr,∃ cor:Nat,v=.tuple #[.int .i64 (s.length:Int),.nilIface]∧SH w w' ([bb]++(ownM Abb cbb++[])) [.blk bb 38 [pB bb,.slice Aor ((l++s).length) cor],.own Aor ((l++s).length) cor 5 1 ((l++s).map U)]):=by
 refine fE (N:=19) Tryz.func12 r0 (by kernel_rfl) r0 ?_
 have hs0:SH w w ([bb]++(ownM Abb cbb++[])) [.blk bb 38 [.pointer pb,.slice Abb l.length cbb],.own Abb l.length cbb 5 1 (l.map U)]:=entryB hbd hbo hbx
 refine sr (tA (I 0) r0 (tA (.nilIface) r0 (nx (tm (pB bb) r0 (cL r0 (copyCheck _ (blk_heap hs0 0 r0) (‹_›)) ?_)))))
 rintro _ w1 ⟨rfl,hs1⟩
 replace hs1:=hs0.cK [0] [1] hs1 r0
 refine nx (tm (pB bb) r0 (tm (pB bb) r0 (tn r0 (qt r0 (fa 1 fo38_1 r0) (qt r0 (lD (.slice Abb l.length cbb) hs1 1 r0 one36) (tm (Str s) r0 (apS (ys:=l) (s:=s) hs1 0 r0 sl36 st9 r0 r0 (by unfold maxLen; omega) (by omega) trivial r0 (fun A1 c1 w2 hs2=>?_))))))))
 refine tn r0 (qt r0 (fa 1 fo38_1 r0) (sT (.slice A1 ((l++s).length) c1) hs2 0 r0 one36 (fun w3 hs3=>?_)))
 refine nx (tm (Str s) r0 (qt r0 (lnS st9 r0) (tA (I (s.length:Int)) r0 (tA (.nilIface) r0 (nn (rt (fret (.tmp (.tmp .nil)) r0 ?_)))))))
 exact⟨A1,c1,rfl,(hs3.pk [1,0] r0)⟩
theorem stJoin {bxs:Nat} {cxs:Nat} (xs:List (List UInt8)) (m:List UInt8) (w:World) (hxs:Sl w [] 1 (some ⟨bxs,0,none⟩) xs.length cxs (xs.map Str)) (hxs_n:xs.length≤1099511627776) (hl:(Lib.join xs m).length≤140737488355328):Does Tryz.prog 208 [sb bxs xs.length cxs,Str m] w (fun v w'=>v=Str (Lib.join xs m)∧SH w w' [] []):=by
 exact does_join ⟨_,_,Tryz.func208,by kernel_rfl,rfl⟩ Tryz.strings_Join_none Tryz.strings_Join hxs hxs_n hl
set_option maxHeartbeats 8000000 in
theorem l6DecStep (n:Int) (w:World) (hn:0≤n∧n≤9223372036854775807) (ih: ∀ (m:Int) (w:World),0≤m→m<n→Does Tryz.prog 53 [I m] w (fun v w'=>v=Str (Lib.itoa m)∧SH w w' [] [])):Does Tryz.prog 53 [I n] w (fun v w'=>v=Str (Lib.itoa n)∧SH w w' [] []):=by
 refine fE (N:=28) Tryz.func53 r0 (by kernel_rfl) r0 ?_
 have hs0:=SH.refl w []
 refine sr (tA (Str []) r0 (nn (sq (sr (tm (I n) r0 (qt r0 (lss r0 r0) (nn (cdd r0 (fun h1=>absurd h1 (by omega)) (fun h1=>?_)))))))))
 refine sk (nN (sq (sr (tm (I n) r0 (qt r0 (lss r0 r0) (nl (nN (cdd r0 (fun h2=>absurd h2 (by omega)) (fun h2=>?_)))))))))
 refine sk (nN (sq (sr (tm (I n) r0 (qt r0 (lss r0 r0) (nl (nN (cdd r0 (fun h3=>?_) (fun h3=>?_)))))))))
 ·refine sr (tm (I n) r0 (qt r0 (add r0 r0 (by(exact⟨by omega,by omega⟩))) (qt r0 (cvB (a:=48+n) (s:=.i64) ti3 ti5 r0 (by omega) (by omega)) (bsk hs0 sl36 [.int .u8 (((UInt8.ofNat (48+n).toNat).toNat:Nat):Int)] [.int .u8 (((UInt8.ofNat (48+n).toNat).toNat:Nat):Int)] trivial r0 (fun b1 w1 hs1=>?_)))))
  exact qt r0 (cvS (l:=([(UInt8.ofNat (48+n).toNat)]:List UInt8)) us36 ti5 st9 r0 (hs1.sl0 0 r0)) (tA (Str ([(UInt8.ofNat (48+n).toNat)]:List UInt8)) r0 (nn (rt (tR (fS r0 (decDigits_small (by omega) (by omega)) (hs1.pk [] r0))))))
 refine sk (nN (sq ?_))
 refine raJ (fun w'=>∃ L,SH w w' [] L∧True) (fun f w'=>∃ (b7':Nat),Hz f [(2,Str ((Lib.itoa (n / 10))++(Z44 n)))]∧SH w w' [] [.own (Z8 b7') ((Z44 n).length) 1 5 1 ((Z44 n).map U)]) mixed ?_ ?_
 ·refine dG 3 11 255 (fun f w'=>∃ (b7':Nat),Hz f [(2,Str []),(20,Str (Lib.itoa (n / 10))),(25,sb b7' ((Z44 n).length) 1)]∧SH w w' [] [.own (Z8 b7') ((Z44 n).length) 1 5 1 ((Z44 n).map U)]) ?_ (fun D_7_0=>?_)
  ·rintro f w2 ⟨b7',⟨g1,rfl⟩,hs2⟩
   refine aO 8 r0 (qt r0 (cvS (l:=(Z44 n)) us36 ti5 st9 r0 (hs2.sl0 0 r0)) (nk ⟨_,hs2,trivial⟩ (tk (fuel:=0) (is:=[9,10]) (.cons r0 (.cons r0 (.nil))) (by kernel_rfl) (by kernel_rfl) ⟨_,hs2,trivial⟩ (yA r0 (cat r0 r0 (by(have hdl:=Lib.itoa_length_le (n / 10) (by omega) (by omega); (simp; omega)))) (yA r0 (asg (v:=Str ((Lib.itoa (n / 10))++(Z44 n))) r0) (.nil (ad (by kernel_rfl) ?_)))))))
   exact⟨b7',(zR r0),hs2⟩
  refine dG 3 11 507 (fun f w'=>∃ (b7':Nat),Hz f [(2,Str []),(19,I (n / 10)),(26,Str (Z44 n))]∧SH w w' [] [.own (Z8 b7') ((Z44 n).length) 1 5 1 ((Z44 n).map U)]) ?_ (fun D_7_1=>?_)
  ·rintro f w3 ⟨b7',⟨g2,rfl⟩,hs3⟩
   refine aO 2 r0 (cS hs3 r0 (ih (n / 10) _ (by omega) (by omega)) (fun w4 hs4=>?_))
   refine nk ⟨_,hs4,trivial⟩ (tk (fuel:=0) (is:=[9,10]) (.cons r0 (.cons r0 (.nil))) (by kernel_rfl) (by kernel_rfl) ⟨_,hs4,trivial⟩ (yA r0 (cat r0 r0 (by(have hdl:=Lib.itoa_length_le (n / 10) (by omega) (by omega); (simp; omega)))) (yA r0 (asg (v:=Str ((Lib.itoa (n / 10))++(Z44 n))) r0) (.nil (ad (by kernel_rfl) ?_)))))
   exact⟨b7',(zR r0),hs4⟩
  refine dG 4 11 127 (fun f w'=>Hz f [(2,Str []),(20,Str (Lib.itoa (n / 10))),(24,.int .u8 (((UInt8.ofNat (48+(n % 10)).toNat).toNat:Nat):Int))]∧SH w w' [] []) ?_ (fun D_7_2=>?_)
  ·rintro f w5 ⟨⟨g3,rfl⟩,hs5⟩
   refine aO 7 r0 (bsk hs5 sl36 (Z100 n) (Z100 n) trivial r0 (fun b7' w6 hs6=>?_))
   exact nk ⟨_,hs6,trivial⟩ (alc D_7_0 ⟨b7',(zR r0),hs6⟩)
  refine dG 4 11 251 (fun f w'=>∃ (b7':Nat),Hz f [(2,Str []),(19,I (n / 10)),(25,sb b7' ((Z44 n).length) 1)]∧SH w w' [] [.own (Z8 b7') ((Z44 n).length) 1 5 1 ((Z44 n).map U)]) ?_ (fun D_7_3=>?_)
  ·rintro f w7 ⟨b7',⟨g4,rfl⟩,hs7⟩
   refine aaL [2,8] (fa_cons ?_ (fa_one ?_))
   ·refine one_ r0 (cS hs7 r0 (ih (n / 10) _ (by omega) (by omega)) (fun w8 hs8=>?_))
    exact nk ⟨_,hs8,trivial⟩ (alc D_7_0 ⟨b7',(zR r0),hs8⟩)
   exact one_ r0 (qt r0 (cvS (l:=(Z44 n)) us36 ti5 st9 r0 (hs7.sl0 0 r0)) (nk ⟨_,hs7,trivial⟩ (alc D_7_1 ⟨b7',(zR r0),hs7⟩)))
  refine dG 5 11 123 (fun f w'=>Hz f [(2,Str []),(19,I (n / 10)),(24,.int .u8 (((UInt8.ofNat (48+(n % 10)).toNat).toNat:Nat):Int))]∧SH w w' [] []) ?_ (fun D_7_4=>?_)
  ·rintro f w9 ⟨⟨g5,rfl⟩,hs9⟩
   refine aaL [2,7] (fa_cons ?_ (fa_one ?_))
   ·refine one_ r0 (cS hs9 r0 (ih (n / 10) _ (by omega) (by omega)) (fun w10 hs10=>?_))
    exact nk ⟨_,hs10,trivial⟩ (alc D_7_2 ⟨(zR r0),hs10⟩)
   refine one_ r0 (bsk hs9 sl36 (Z100 n) (Z100 n) trivial r0 (fun b7' w11 hs11=>?_))
   exact nk ⟨_,hs11,trivial⟩ (alc D_7_3 ⟨b7',(zR r0),hs11⟩)
  have hs12:=hs0.drew
  exact tk (fuel:=5) (is:=[0,1,3,4,5,6]) (.cons r0 (.cons r0 (.cons r0 (.cons r0 (.cons r0 (.cons r0 (.nil))))))) (by kernel_rfl) (by kernel_rfl) ⟨_,hs12,trivial⟩ (yA r0 (mv (v:=I n) r0) (yA r0 (quo (a:=n) (b:=10) r0 r0 (by omega) (by omega) (by omega)) (yA r0 (mv (v:=I n) r0) (yA r0 (rem r0 r0 (by omega) (by omega)) (yA r0 (add r0 r0 (by(exact⟨by omega,by omega⟩))) (yA r0 (cvB (a:=48+(n % 10)) (s:=.i64) ti3 ti5 r0 (by omega) (by omega)) (.nil (alc D_7_4 ⟨(zR r0),hs12⟩))))))))
 rintro f w12 ⟨b7',⟨g6,rfl⟩,hs13⟩
 refine nN (rt (fT (Str ((Lib.itoa (n / 10))++(Z44 n))) r0 ?_))
 have e2:(Lib.itoa (n / 10))++(Z44 n)=Lib.itoa n:=by exact decDigits_big (by omega)
 exact⟨(congrArg (Str) e2),(hs13.pk [] r0)⟩
theorem l6Dec (n:Int) (w:World) (hn:0≤n∧n≤9223372036854775807):Does Tryz.prog 53 [I n] w (fun v w'=>v=Str (Lib.itoa n)∧SH w w' [] []):=by
 have key: ∀ (j:Nat) (n:Int) (w:World),n.toNat=j→0≤n→n≤9223372036854775807→Does Tryz.prog 53 [I n] w (fun v w'=>v=Str (Lib.itoa n)∧SH w w' [] []):=by
  intro j
  induction j using Nat.strongRecOn with
  | _ j ih=>
   intro n w hj h0 h1
   exact l6DecStep n w ⟨h0,h1⟩ (fun m w hm0 hmn=>ih m.toNat (by omega) m w r0 hm0 (by omega))
 exact key _ n w r0 hn.1 hn.2
theorem iQuadText {Aqs:Option Addr} {cqs:Nat} (qs:List Int) (w:World) (hqs:Sl w [] 1 Aqs qs.length cqs (qs.map I)) (hq:quadOk qs=true) (hGp:VarP Tryz.prog w [] "internal/strconv.uint64pow10" isPow):Does Tryz.prog 207 [.slice Aqs qs.length cqs] w (fun v w'=>v=Str (quadT qs)∧SH w w' [] []):=by
 refine fE (N:=24) Tryz.func207 r0 (by kernel_rfl) r0 ?_
 have hs0:=SH.refl w []
 have hqs_m:qs.length≤9223372036854775807:=Nat.le_trans hqs.cap hqs.capMax
 refine sr (tA (Str []) r0 (nx (tm (Z14 Aqs qs cqs) r0 (qt r0 (lnA sl24 r0) (mkm (g:=Str) (z:=[]) (n:=qs.length) hs0 sl51 r0 r0 r0 (by(have hq4:=quadOk_len hq; omega)) (by unfold maxLen; (omega)) trivial r0 (fun b1 w1 hs1=>?_))))))
 refine tA (sb b1 ((List.replicate qs.length ([]:List UInt8)).length) qs.length) r0 (nn (sq (sr (tm (Z14 Aqs qs cqs) r0 (qt r0 (lnA sl24 r0) (tm (I 0) r0 (nn (bl ?_))))))))
 have e1:List.replicate qs.length ([]:List UInt8)=(qs.map Lib.itoa).take 0++List.replicate (qs.length-0) ([]:List UInt8):=by simp
 have e2:(List.replicate qs.length ([]:List UInt8)).length=qs.length:=by((simp; done))
 refine lp (σ:=Nat) (fun(k:Nat) f w'=>Hz f [(3,sb b1 qs.length qs.length),(9,.slice Aqs qs.length cqs),(10,I (qs.length:Int)),(11,I (k:Int))]∧(k≤qs.length)∧SH w w' [] [.own (Z8 b1) qs.length qs.length 9 1 (((qs.map Lib.itoa).take k++List.replicate (qs.length-k) ([]:List UInt8)).map Str)]) (fun k=>qs.length-k) 0 ⟨(zH ⟨(show (.slice (Z8 b1) ((List.replicate qs.length ([]:List UInt8)).length) qs.length:Value)=.slice (Z8 b1) qs.length qs.length from slv r0 e2 r0),rfl,rfl,rfl,trivial⟩),(by simp),(hs1.cast (lc (own_eq (g:=Str) r0 e2 r0 e1) r0))⟩ ?_
 rintro k f w2 ⟨⟨g1,rfl⟩,hk,hs2⟩
 refine sr (qt r0 (lss r0 r0) (nn (sq (cdd r0 (fun h1=>?_) (fun h1=>?_)))))
 ·refine sk (nN (sq (bl (sr (tm (I (k:Int)) r0 (ixw1 k sl24 r0 r0 hqs (by omega) (getm I 0 (by omega)) trivial r0 (fun a1 ha1=>?_)))))))
  refine qt r0 (lda hs2 ha1 (fun _ h=>h) r0 r0 one3) (tA (I (k:Int)) r0 (tA (I (qs.getD k 0)) r0 (nn (rg (tm (sb b1 qs.length qs.length) r0 (tm (I (k:Int)) r0 (tm (I (qs.getD k 0)) r0 (cS hs2 r0 (stItoa _ _ (by have hy:=quad_get hq (k:=k) (by omega); omega) (hGp.up0 hs2)) (fun w3 hs3=>?_)))))))))
  refine qt r0 (ixo k sl51 r0 r0 (by omega)) (stomn (g:=Str) (ys:=(qs.map Lib.itoa).take k++List.replicate (qs.length-k) ([]:List UInt8)) (o:=k) (u:=Lib.itoa (qs.getD k 0)) hs3 0 r0 r0 r0 r0 (by omega) r0 one9 trivial (fun w4 hs4=>?_))
  refine nl (bN (nN (rg (qt r0 (add r0 r0 (by(exact⟨by omega,by omega⟩))) (tm (I ((k:Int)+1)) r0 (nn ?_))))))
  have e3:((qs.map Lib.itoa).take k++List.replicate (qs.length-k) ([]:List UInt8)).set k (Lib.itoa (qs.getD k 0))=(qs.map Lib.itoa).take (k+1)++List.replicate (qs.length-(k+1)) ([]:List UInt8):=by exact quad_set (by omega)
  refine⟨(k+1),⟨(zR r0),(by omega),(hs4.cast (lc (own_eq (g:=Str) r0 r0 r0 e3) r0))⟩,?_⟩
  omega
 refine ex (tE (tE (bE (nN (sr (tm (sb b1 qs.length qs.length) r0 ?_))))))
 have e4:qs.length=((qs.map Lib.itoa).take k++List.replicate (qs.length-k) ([]:List UInt8)).length:=by(simp; omega)
 have hs5:SH w w2 [] [.own (Z8 b1) (((qs.map Lib.itoa).take k++List.replicate (qs.length-k) ([]:List UInt8)).length) qs.length 9 1 (((qs.map Lib.itoa).take k++List.replicate (qs.length-k) ([]:List UInt8)).map Str)]:=(hs2.cast (lc (own_eq (g:=Str) r0 e4 r0 r0) r0))
 refine cS hs5 r0 (Does.castA (lc (slv r0 e4.symm r0) (lc r0 r0)) (stJoin _ [46] _ (hs5.sl0 0 r0) (by(have hq4:=quadOk_len hq; omega)) (by rw[quad_whole (by omega)]; exact Nat.le_trans (quadT_len hq) (by decide:87≤140737488355328)))) (fun w5 hs6=>?_)
 refine tA (Str (Lib.join ((qs.map Lib.itoa).take k++List.replicate (qs.length-k) ([]:List UInt8)) [46])) r0 (nn (rt (fT (Str (Lib.join ((qs.map Lib.itoa).take k++List.replicate (qs.length-k) ([]:List UInt8)) [46])) r0 ?_)))
 have e5:Lib.join ((qs.map Lib.itoa).take k++List.replicate (qs.length-k) ([]:List UInt8)) [46]=quadT qs:=by rw[quad_whole (by omega)]; rfl
 exact⟨(congrArg (Str) e5),(hs6.pk [] r0)⟩
theorem sL2Quad {Aqs:Option Addr} {cqs:Nat} (qs:List Int) (w:World) (hqs:Sl w [] 1 Aqs qs.length cqs (qs.map I)) (hq:quadOk qs=true):Does Tryz.prog 138 [.slice Aqs qs.length cqs] w (fun v w'=>v=Str (quadT qs)∧SH w w' [] []):=by
 refine fE (N:=25) Tryz.func138 r0 (by kernel_rfl) r0 ?_
 have hs0:=SH.refl w []
 have hqs_m:qs.length≤9223372036854775807:=Nat.le_trans hqs.cap hqs.capMax
 refine sr (tA (Str []) r0 (nn (sq (rq (fun w'=>SH w w' [] []) mixed (by kernel_rfl) hs0.drew (qA r0 (mv (v:=.slice Aqs qs.length cqs) r0) ?_)))))
 have hq4:=quadOk_len hq
 have g0:=itoa_b (quad_get hq (k:=0) (by omega))
 have g1:=itoa_b (quad_get hq (k:=1) (by omega))
 have g2:=itoa_b (quad_get hq (k:=2) (by omega))
 have g3:=itoa_b (quad_get hq (k:=3) (by omega))
 refine ixq1 0 sl24 r0 r0 hqs (by omega) (getm I 0 (by omega)) trivial r0 (fun a1 ha1=>?_)
 have hq4:=quadOk_len hq
 have g0:=quad_get hq (k:=0) (by omega)
 have g1:=quad_get hq (k:=1) (by omega)
 have g2:=quad_get hq (k:=2) (by omega)
 have g3:=quad_get hq (k:=3) (by omega)
 refine qB r0 (fun hsq=>lda hsq ha1 (fun _ h=>h) r0 r0 one3) (qc (Str (Lib.itoa (qs.getD 0 0))) trivial r0 (fun wq hsq=>(l6Dec _ _ (by omega)).mono (fun v w' h=>⟨h.1,by simpa using hsq.call0 h.2⟩)) (qA r0 (cat r0 r0 (by simp only[List.length_append,List.length_cons,List.length_nil]; omega)) (qA r0 (mv (v:=.slice Aqs qs.length cqs) r0) (ixq1 1 sl24 r0 r0 hqs (by omega) (getm I 0 (by omega)) trivial r0 (fun a2 ha2=>?_)))))
 refine qB r0 (fun hsq=>lda hsq ha2 (fun _ h=>h) r0 r0 one3) (qc (Str (Lib.itoa (qs.getD 1 0))) trivial r0 (fun wq hsq=>(l6Dec _ _ (by omega)).mono (fun v w' h=>⟨h.1,by simpa using hsq.call0 h.2⟩)) (qA r0 (cat r0 r0 (by simp only[List.length_append,List.length_cons,List.length_nil]; omega)) (qA r0 (cat r0 r0 (by simp only[List.length_append,List.length_cons,List.length_nil]; omega)) (qA r0 (mv (v:=.slice Aqs qs.length cqs) r0) (ixq1 2 sl24 r0 r0 hqs (by omega) (getm I 0 (by omega)) trivial r0 (fun a3 ha3=>?_))))))
 refine qB r0 (fun hsq=>lda hsq ha3 (fun _ h=>h) r0 r0 one3) (qc (Str (Lib.itoa (qs.getD 2 0))) trivial r0 (fun wq hsq=>(l6Dec _ _ (by omega)).mono (fun v w' h=>⟨h.1,by simpa using hsq.call0 h.2⟩)) (qA r0 (cat r0 r0 (by simp only[List.length_append,List.length_cons,List.length_nil]; omega)) (qA r0 (cat r0 r0 (by simp only[List.length_append,List.length_cons,List.length_nil]; omega)) (qA r0 (mv (v:=.slice Aqs qs.length cqs) r0) (ixq1 3 sl24 r0 r0 hqs (by omega) (getm I 0 (by omega)) trivial r0 (fun a4 ha4=>?_))))))
 refine qB r0 (fun hsq=>lda hsq ha4 (fun _ h=>h) r0 r0 one3) (qc (Str (Lib.itoa (qs.getD 3 0))) trivial r0 (fun wq hsq=>(l6Dec _ _ (by omega)).mono (fun v w' h=>⟨h.1,by simpa using hsq.call0 h.2⟩)) (qA r0 (cat r0 r0 (by simp only[List.length_append,List.length_cons,List.length_nil]; omega)) (qA r0 (asg (v:=Str (((((((Lib.itoa (qs.getD 0 0))++[46])++(Lib.itoa (qs.getD 1 0)))++[46])++(Lib.itoa (qs.getD 2 0)))++[46])++(Lib.itoa (qs.getD 3 0)))) r0) (qn (fun w1 hs1=>?_)))))
 refine nN (rt (fT (Str (((((((Lib.itoa (qs.getD 0 0))++[46])++(Lib.itoa (qs.getD 1 0)))++[46])++(Lib.itoa (qs.getD 2 0)))++[46])++(Lib.itoa (qs.getD 3 0)))) r0 ?_))
 have e1:((((((Lib.itoa (qs.getD 0 0))++[46])++(Lib.itoa (qs.getD 1 0)))++[46])++(Lib.itoa (qs.getD 2 0)))++[46])++(Lib.itoa (qs.getD 3 0))=quadT qs:=by exact(quadT_eq (quadOk_len hq)).symm
 exact⟨(congrArg (Str) e1),hs1⟩
theorem iHostText (ak:Int) {Aaq:Option Addr} {caq:Nat} (aq:List Int) (an:List UInt8) (apt:Int) (w:World) (haq:Sl w [] 1 Aaq aq.length caq (aq.map I)) (han_n:an.length≤1099511627776) (hok:addrOk ak aq an apt=true) (hGp:VarP Tryz.prog w [] "internal/strconv.uint64pow10" isPow):Does Tryz.prog 217 [.agg #[I ak,.slice Aaq aq.length caq,Str an,I apt]] w (fun v w'=>v=Str (hostT ak aq an)∧SH w w' [] []):=by
 refine fE (N:=11) Tryz.func217 r0 (by kernel_rfl) r0 ?_
 have hs0:=SH.refl w []
 have haq_m:aq.length≤9223372036854775807:=Nat.le_trans haq.cap haq.capMax
 refine sr (bx (v:=.agg #[I ak,(Z4 Aaq aq caq),Str an,I apt]) (cs:=[I ak,(Z4 Aaq aq caq),Str an,I apt]) hs0 r0 r0 trivial r0 (fun b1 w1 hs1=>?_))
 refine tA (Str []) r0 (nn (sq (sr (qt r0 (fa 0 fo54_0 r0) (qt r0 (lD (I ak) hs1 0 r0 one3) (qt r0 (eqi r0 r0) (nn (cdd r0 (fun h1=>?_) (fun h1=>?_)))))))))
 ·refine sr (qt r0 (fa 1 fo54_1 r0) (qt r0 (lD (Z14 Aaq aq caq) hs1 0 r0 one24) (cS hs1 r0 (iQuadText _ _ (haq.up0 hs1) (by exact addr_quad hok ‹_›) (hGp.up0 hs1)) (fun w2 hs2=>?_))))
  exact tA (Str (quadT aq)) r0 (nn (rt (tR (fS r0 (by simp[hostT,h1]) (hs2.pk [] r0)))))
 refine sk (nN (sr (qt r0 (fa 2 fo54_2 r0) (qt r0 (lD (Str an) hs1 0 r0 one9) (tA (Str an) r0 (nl (nN (rt (fT (Str an) r0 ?_)))))))))
 have e2:an=hostT ak aq an:=by simp[hostT,h1]
 exact⟨(congrArg (Str) e2),(hs1.pk [] r0)⟩
theorem sL3Host (ak:Int) {Aaq:Option Addr} {caq:Nat} (aq:List Int) (an:List UInt8) (apt:Int) (w:World) (haq:Sl w [] 1 Aaq aq.length caq (aq.map I)) (han_n:an.length≤1099511627776) (hok:addrOk ak aq an apt=true):Does Tryz.prog 85 [.agg #[I ak,.slice Aaq aq.length caq,Str an,I apt]] w (fun v w'=>v=Str (hostT ak aq an)∧SH w w' [] []):=by
 refine fE (N:=11) Tryz.func85 r0 (by kernel_rfl) r0 ?_
 have hs0:=SH.refl w []
 have haq_m:aq.length≤9223372036854775807:=Nat.le_trans haq.cap haq.capMax
 refine sr (bx (v:=.agg #[I ak,(Z4 Aaq aq caq),Str an,I apt]) (cs:=[I ak,(Z4 Aaq aq caq),Str an,I apt]) hs0 r0 r0 trivial r0 (fun b1 w1 hs1=>?_))
 refine tA (Str []) r0 (nn (sq (sr (qt r0 (fa 0 fo54_0 r0) (qt r0 (lD (I ak) hs1 0 r0 one3) (qt r0 (eqi r0 r0) (nn (cdd r0 (fun h1=>?_) (fun h1=>?_)))))))))
 ·refine sr (qt r0 (fa 1 fo54_1 r0) (qt r0 (lD (Z14 Aaq aq caq) hs1 0 r0 one24) (cS hs1 r0 (sL2Quad _ _ (haq.up0 hs1) (by exact addr_quad hok ‹_›)) (fun w2 hs2=>?_))))
  exact tA (Str (quadT aq)) r0 (nn (rt (tR (fS r0 (by simp[hostT,h1]) (hs2.pk [] r0)))))
 refine sk (nN (sr (qt r0 (fa 2 fo54_2 r0) (qt r0 (lD (Str an) hs1 0 r0 one9) (tA (Str an) r0 (nl (nN (rt (fT (Str an) r0 ?_)))))))))
 have e2:an=hostT ak aq an:=by simp[hostT,h1]
 exact⟨(congrArg (Str) e2),(hs1.pk [] r0)⟩
theorem slHasSuffix (s:List UInt8) (t:List UInt8) (w:World) (hs_n:s.length≤1099511627776) (ht_n:t.length≤1099511627776):Does Tryz.prog 67 [Str s,Str t] w (fun v w'=>v=.bool (decide (sufP s t))∧SH w w' [] []):=by
 refine fE (N:=21) Tryz.func67 r0 (by kernel_rfl) r0 ?_
 have hs0:=SH.refl w []
 refine sr (tA Z6 r0 (nx (tm (Str s) r0 (qt r0 (lnS st9 r0) (tm (Str t) r0 (qt r0 (lnS st9 r0) (qt r0 (geq r0 r0) (tm (Z154 t s) r0 (spd 10 r0 (fun h1=>?_) (fun h1=>?_))))))))))
 ·refine qh r0 (mv (v:=Str s) r0) (qh r0 (mv (v:=Str s) r0) (qh r0 (lnS st9 r0) (qh r0 (mv (v:=Str t) r0) (qh r0 (lnS st9 r0) (qh r0 (sub r0 r0 (by exact⟨by omega,by omega⟩)) (qh r0 (culs (l:=s) (((s.length:Int)-(t.length:Int)).toNat) st9 r0 (ieq (x:=(s.length:Int)-(t.length:Int)) (by omega)) (by omega)) (qh r0 (mv (v:=Str t) r0) (qh r0 (eqs r0 r0) (qt r0 (pt (v:=.bool (decide (s.drop (((s.length:Int)-(t.length:Int)).toNat)=t))) r0 r0) (tA (.bool (decide (s.drop (((s.length:Int)-(t.length:Int)).toNat)=t))) r0 (nn (rt (fT (.bool (decide (s.drop (((s.length:Int)-(t.length:Int)).toNat)=t))) r0 ?_)))))))))))))
  have e1:(decide (s.drop (((s.length:Int)-(t.length:Int)).toNat)=t))=decide (sufP s t):=by(have hx:t.length≤s.length:=(by omega); simp[sufP,hx]; done)
  exact⟨(congrArg (Value.bool) e1),hs0⟩
 refine gf5 r0 (gf5 r0 (gf5 r0 (gf5 r0 (gf5 r0 (gf5 r0 (gf5 r0 (gf5 r0 (gf5 r0 (qt r0 (pf (v:=.bool false) r0 r0) (tA Z6 r0 (nn (rt (fT Z6 r0 ?_)))))))))))))
 have e2:false=decide (sufP s t):=by(have hx: ¬ t.length≤s.length:=(by omega); simp[sufP,hx]; done)
 exact⟨(congrArg (Value.bool) e2),hs0⟩
theorem iAddressText (ak:Int) {Aaq:Option Addr} {caq:Nat} (aq:List Int) (an:List UInt8) (apt:Int) (w:World) (haq:Sl w [] 1 Aaq aq.length caq (aq.map I)) (han_n:an.length≤1099511627776) (hok:addrOk ak aq an apt=true) (hGp:VarP Tryz.prog w [] "internal/strconv.uint64pow10" isPow):Does Tryz.prog 187 [.agg #[I ak,.slice Aaq aq.length caq,Str an,I apt]] w (fun v w'=>v=Str (hostT ak aq an++[58]++Lib.itoa apt)∧SH w w' [] []):=by
 refine fE (N:=10) Tryz.func187 r0 (by kernel_rfl) r0 ?_
 have hs0:=SH.refl w []
 have haq_m:aq.length≤9223372036854775807:=Nat.le_trans haq.cap haq.capMax
 refine sr (bx (v:=.agg #[I ak,(Z4 Aaq aq caq),Str an,I apt]) (cs:=[I ak,(Z4 Aaq aq caq),Str an,I apt]) hs0 r0 r0 trivial r0 (fun b1 w1 hs1=>?_))
 have haf:=addrOk_fit hok
 have hhl:=hostT_len hok
 have hil:=Lib.itoa_length_le apt (by omega) (by omega)
 refine tA (Str []) r0 (nn (sq (rq (fun w'=>SH w w' [] [.blk b1 54 [I ak,(Z4 Aaq aq caq),Str an,I apt]]) mixed (by kernel_rfl) hs1.drew (qB r0 (fun hsq=>lG [I ak,(Z4 Aaq aq caq),Str an,I apt] hsq 0 r0 ag54) (qc (Str (hostT ak aq an)) trivial r0 (fun wq hsq=>(iHostText _ _ _ _ _ (haq.up0 hsq) (by omega) (by omega) (hGp.up0 hsq)).mono (fun v w' h=>⟨h.1,by simpa using hsq.call0 h.2⟩)) (qA r0 (cat r0 r0 (by simp only[List.length_append,List.length_cons,List.length_nil]; omega)) (qA r0 (fa 3 fo54_3 r0) (qB r0 (fun hsq=>lD (I apt) hsq 0 r0 one3) (qc (Str (Lib.itoa apt)) trivial r0 (fun wq hsq=>(stItoa _ _ (by omega) (hGp.up0 hsq)).mono (fun v w' h=>⟨h.1,by simpa using hsq.call0 h.2⟩)) (qA r0 (cat r0 r0 (by simp only[List.length_append,List.length_cons,List.length_nil]; omega)) (qA r0 (asg (v:=Str (((hostT ak aq an)++[58])++(Lib.itoa apt))) r0) (qn (fun w2 hs2=>?_)))))))))))))
 refine nN (rt (fT (Str (((hostT ak aq an)++[58])++(Lib.itoa apt))) r0 ?_))
 have e1:((hostT ak aq an)++[58])++(Lib.itoa apt)=hostT ak aq an++[58]++Lib.itoa apt:=by rfl
 exact⟨(congrArg (Str) e1),(hs2.pk [] r0)⟩
theorem iAddressTextQ (ak:Int) {Aaq:Option Addr} {caq:Nat} (aq:List Int) (an:List UInt8) (apt:Int) (w:World) (haq:Sl w [] 1 Aaq aq.length caq (aq.map I)) (han_n:an.length≤1099511627776) (hGp:VarP Tryz.prog w [] "internal/strconv.uint64pow10" isPow):Does Tryz.prog 204 [.agg #[I ak,.slice Aaq aq.length caq,Str an,I apt]] w (fun v w'=>v=Str (addrT ak aq an apt)∧SH w w' [] []):=by
 refine fE (N:=8) Tryz.func204 r0 (by kernel_rfl) r0 ?_
 have hs0:=SH.refl w []
 have haq_m:aq.length≤9223372036854775807:=Nat.le_trans haq.cap haq.capMax
 refine sr (bx (v:=.agg #[I ak,(Z4 Aaq aq caq),Str an,I apt]) (cs:=[I ak,(Z4 Aaq aq caq),Str an,I apt]) hs0 r0 r0 trivial r0 (fun b1 w1 hs1=>?_))
 refine tA (Str []) r0 (nn (sq (sr (qt r0 (lG [I ak,(Z4 Aaq aq caq),Str an,I apt] hs1 0 r0 ag54) (cS hs1 r0 (iAddressValid _ _ _ _ _ (haq.up0 hs1) (by omega)) (fun w2 hs2=>?_))))))
 refine qt r0 (nt r0) (nn (cd r0 (fun h1=>?_) (fun h1=>?_)))
 ·have h2:=nbF h1
  exact sr (tA (Str []) r0 (nn (rt (tR (fS r0 (by simp[addrT,h2]) (hs2.pk [] r0))))))
 have h3:=nbT h1
 refine sk (nN (sr (qt r0 (lG [I ak,(Z4 Aaq aq caq),Str an,I apt] hs2 0 r0 ag54) (cS hs2 r0 (iAddressText _ _ _ _ _ (haq.up0 hs2) (by omega) (by omega) (hGp.up0 hs2)) (fun w3 hs3=>?_)))))
 refine tA (Str (hostT ak aq an++[58]++Lib.itoa apt)) r0 (nn (rt (fT (Str (hostT ak aq an++[58]++Lib.itoa apt)) r0 ?_)))
 have e2:hostT ak aq an++[58]++Lib.itoa apt=addrT ak aq an apt:=by simp[addrT,h3]
 exact⟨(congrArg (Str) e2),(hs3.pk [] r0)⟩
theorem slEqual {Axs:Option Addr} {cxs:Nat} (xs:List Int) {Abs:Option Addr} {cbs:Nat} (bs:List Int) (w:World) (hxs:Sl w [] 1 Axs xs.length cxs (xs.map I)) (hbs:Sl w [] 1 Abs bs.length cbs (bs.map I)):Does Tryz.prog 166 [.slice Axs xs.length cxs,.slice Abs bs.length cbs] w (fun v w'=>v=.bool (decide (xs=bs))∧SH w w' [] []):=by
 refine fE (N:=26) Tryz.func166 r0 (by kernel_rfl) r0 ?_
 have hs0:=SH.refl w []
 have hxs_m:xs.length≤9223372036854775807:=Nat.le_trans hxs.cap hxs.capMax
 have hbs_m:bs.length≤9223372036854775807:=Nat.le_trans hbs.cap hbs.capMax
 refine sr (tA Z6 r0 (nn (sq (sr (tm (Z14 Axs xs cxs) r0 (qt r0 (lnA sl24 r0) (tm (Z14 Abs bs cbs) r0 (qt r0 (lnA sl24 r0) (qt r0 (nei r0 r0) (nn (cdd r0 (fun h1=>?_) (fun h1=>?_))))))))))))
 ·exact sr (tA Z6 r0 (nn (rt (tR (fB r0 (by simp; intro h; subst h; exact h1 r0) hs0)))))
 refine sk (nN (sq (sr (tm (Z14 Axs xs cxs) r0 (qt r0 (lnA sl24 r0) (tm (I 0) r0 (nn (bl (lp (σ:=Nat) (fun(k:Nat) f w'=>Hz f [(0,.slice Axs xs.length cxs),(1,.slice Abs bs.length cbs),(12,I (xs.length:Int)),(13,I (k:Int))]∧(xs.length=bs.length)∧(k≤xs.length)∧(xs.take k=bs.take k)∧SH w w' [] []) (fun k=>xs.length-k) 0 ⟨(zR r0),(by omega),(by simp),(by simp),hs0⟩ ?_)))))))))
 rintro k f w1 ⟨⟨g1,rfl⟩,hl,hk,ha,hs1⟩
 refine sr (qt r0 (lss r0 r0) (nn (sq (cdd r0 (fun h2=>?_) (fun h2=>?_)))))
 ·refine sk (nN (sq (bl (sr (tm (I (k:Int)) r0 (tA (I (k:Int)) r0 (nn (sq (rq (fun w'=>SH w w' [] []) mixed (by kernel_rfl) hs1.drew (qA r0 (mv (v:=.slice Axs xs.length cxs) r0) (qA r0 (mv (v:=I (k:Int)) r0) (ixq1 k sl24 r0 r0 hxs (by omega) (getm I 0 (by omega)) trivial r0 (fun a1 ha1=>?_)))))))))))))
  refine qB r0 (fun hsq=>lda hsq ha1 (fun _ h=>h) r0 r0 one3) (qA r0 (mv (v:=.slice Abs bs.length cbs) r0) (qA r0 (mv (v:=I (k:Int)) r0) (ixq1 k sl24 r0 r0 hbs (by omega) (getm I 0 (by omega)) trivial r0 (fun a2 ha2=>?_))))
  refine qB r0 (fun hsq=>lda hsq ha2 (fun _ h=>h) r0 r0 one3) (qA r0 (nei r0 r0) (qn (fun w2 hs2=>?_)))
  refine nN (cdd r0 (fun h3=>?_) (fun h3=>?_))
  ·exact sr (tA Z6 r0 (nn (rt (bR (tR (tR (bR (tR (fB r0 (by simp; intro h; subst h; exact h3 r0) hs2)))))))))
  refine sk (bN (nN (rg (qt r0 (add r0 r0 (by exact⟨by omega,by omega⟩)) (tm (I ((k:Int)+1)) r0 (nn ?_))))))
  refine⟨(k+1),⟨(zR r0),(hl),(by omega),(take_succ_eq (by omega) (by omega) ha (by simpa using h3)),hs2⟩,?_⟩
  omega
 refine ex (tE (tE (bE (nN (sr (tA Z35 r0 (nn (rt (fT Z35 r0 ?_)))))))))
 have e3:true=(decide (xs=bs)):=by simp; exact take_all_eq hl (by omega) ha
 exact⟨(congrArg (Value.bool) e3),hs1⟩
theorem iIsOld (c:Int) (ak:Int) {Aaq:Option Addr} {caq:Nat} (aq:List Int) (an:List UInt8) (apt:Int) (us:List UInt8) (w:World) (haq:Sl w [] 1 Aaq aq.length caq (aq.map I)) (han_n:an.length≤1099511627776) (hus_n:us.length≤2147483648):Does Tryz.prog 116 [.agg #[I c,I ak,.slice Aaq aq.length caq,Str an,I apt,Str us]] w (fun v w'=>v=.bool (oldOk c ak aq an apt us)∧SH w w' [] []):=by
 refine fE (N:=32) Tryz.func116 r0 (by kernel_rfl) r0 ?_
 have hs0:=SH.refl w []
 have haq_m:aq.length≤9223372036854775807:=Nat.le_trans haq.cap haq.capMax
 refine sr (bx (v:=.agg #[I c,I ak,(Z4 Aaq aq caq),Str an,I apt,Str us]) (cs:=[I c,I ak,(Z4 Aaq aq caq),Str an,I apt,Str us]) hs0 r0 r0 trivial r0 (fun b1 w1 hs1=>?_))
 refine tA Z6 r0 (nn (sq (sr (qt r0 (fa 0 fo60_0 r0) (qt r0 (lD (I c) hs1 0 r0 one3) (cS hs1 r0 (iWithin _ 1 2 _) (fun w2 hs2=>?_)))))))
 refine qt r0 (nd r0) (tm (.bool (decide (¬ (1≤c∧c≤2)))) r0 (spd 7 r0 (fun h1=>?_) (fun h1=>?_)))
 ·exact gt5 r0 (gt5 r0 (gt5 r0 (gt5 r0 (qt r0 (pt (v:=.bool true) r0 r0) (tm Z35 r0 (gt5 r0 (gt5 r0 (gt5 r0 (gt5 r0 (qt r0 (pt (v:=.bool true) r0 r0) (nn (cdt r0 (sr (tA Z6 r0 (nn (rt (tR (fB r0 (by(simp[oldOk,h1]; done)) (hs2.pk [] r0)))))))))))))))))))
 refine qh r0 (fa 1 fo60_1 r0) (qh r0 (lG [I ak,(Z4 Aaq aq caq),Str an,I apt] hs2 0 r0 ag54) (cl ⟨_,rfl,rfl⟩ r0 (iAddressValid _ _ _ _ _ (haq.up0 hs2) (by omega)) ?_))
 rintro _ w3 ⟨rfl,hs3⟩
 replace hs3:=hs2.call0 hs3
 refine qh r0 (nt r0) (qt r0 (pf (v:=.bool (!(addrOk ak aq an apt))) r0 r0) (tm (.bool (!(addrOk ak aq an apt))) r0 (spl 13 r0 (fun h2=>?_) (fun h2=>?_))))
 ·have h3:=nbF h2
  exact gt5 r0 (gt5 r0 (gt5 r0 (gt5 r0 (qt r0 (pt (v:=.bool true) r0 r0) (nn (cdt r0 (sr (tA Z6 r0 (nn (rt (tR (fB r0 (by(simp[oldOk,h1,h3]; done)) (hs3.pk [] r0)))))))))))))
 have h4:=nbT h2
 refine qh r0 (fa 5 fo60_2 r0) (qh r0 (lD (Str us) hs3 0 r0 one9) (cl ⟨_,rfl,rfl⟩ r0 (iUserValid _ _ (by omega)) ?_))
 rintro _ w4 ⟨rfl,hs4⟩
 replace hs4:=hs3.call0 hs4
 refine qh r0 (nt r0) (qt r0 (pf (v:=.bool (!(userOk us))) r0 r0) (nn (cd r0 (fun h5=>?_) (fun h5=>?_))))
 ·have h6:=nbF h5
  exact sr (tA Z6 r0 (nn (rt (tR (fB r0 (by(simp[oldOk,h1,h4,h6]; done)) (hs4.pk [] r0))))))
 have h7:=nbT h5
 refine sk (nN (sr (qt r0 (fa 1 fo60_1 r0) (qt r0 (fa 0 fo54_0 r0) (qt r0 (lD (I ak) hs4 0 r0 one3) (qt r0 (eqi r0 r0) (tm (.bool (decide (ak=3))) r0 (spd 23 r0 (fun h8=>?_) (fun h8=>?_)))))))))
 ·refine gt5 r0 (gt5 r0 (gt5 r0 (gt5 r0 (gt5 r0 (gt5 r0 (gt5 r0 (qt r0 (pt (v:=.bool true) r0 r0) (tA Z35 r0 (nn (rt (fT Z35 r0 ?_)))))))))))
  have e4:true=oldOk c ak aq an apt us:=by exact(oldOk_3 (by exact Decidable.not_not.1 ‹_›) ‹_› ‹_› ‹_›).symm
  exact⟨(congrArg (Value.bool) e4),(hs4.pk [] r0)⟩
 refine qh r0 (fa 1 fo60_1 r0) (qh r0 (fa 1 fo54_1 r0) (qh r0 (lD (Z14 Aaq aq caq) hs4 0 r0 one24) (qh r0 (cuhm_ (zs:=aq) 3 sl24 r0 r0 (by(have h4_:=(addr_quad4 (by assumption:addrOk ak aq an apt=true) ‹_›).1; omega)) haq.cap) (bsk hs4 sl24 [I 0,I 0,I 0] [I 0,I 0,I 0] ⟨_,rfl,rfl⟩ r0 (fun b2 w5 hs5=>?_)))))
 refine cl ⟨_,rfl,rfl⟩ r0 (slEqual _ ([0,0,0]:List Int) _ (Sl.cuthm (haq.up0 hs5) (by(have h4_:=(addr_quad4 (by assumption:addrOk ak aq an apt=true) ‹_›).1; omega))) (hs5.sl0 1 r0)) ?_
 rintro _ w6 ⟨rfl,hs6⟩
 replace hs6:=hs5.call0 hs6
 refine qh r0 (nd r0) (qt r0 (pf (v:=.bool (decide (¬ ((aq.take 3)=([0,0,0]:List Int))))) r0 r0) (tA (.bool (decide (¬ ((aq.take 3)=([0,0,0]:List Int))))) r0 (nn (rt (fT (.bool (decide (¬ ((aq.take 3)=([0,0,0]:List Int))))) r0 ?_)))))
 have e5:(decide (¬ ((aq.take 3)=([0,0,0]:List Int))))=oldOk c ak aq an apt us:=by(simp[oldOk,h1,h4,h7,h8] <;> omega)
 exact⟨(congrArg (Value.bool) e5),(hs6.pk [] r0)⟩
theorem sL4Ok (c:Int) (ak:Int) {Aaq:Option Addr} {caq:Nat} (aq:List Int) (an:List UInt8) (apt:Int) (us:List UInt8) (w:World) (haq:Sl w [] 1 Aaq aq.length caq (aq.map I)) (han_n:an.length≤1099511627776) (hus_n:us.length≤2147483648):Does Tryz.prog 43 [.agg #[I c,I ak,.slice Aaq aq.length caq,Str an,I apt,Str us]] w (fun v w'=>v=.bool (oldOk c ak aq an apt us)∧SH w w' [] []):=by
 refine fE (N:=43) Tryz.func43 r0 (by kernel_rfl) r0 ?_
 have hs0:=SH.refl w []
 have haq_m:aq.length≤9223372036854775807:=Nat.le_trans haq.cap haq.capMax
 refine sr (bx (v:=.agg #[I c,I ak,(Z4 Aaq aq caq),Str an,I apt,Str us]) (cs:=[I c,I ak,(Z4 Aaq aq caq),Str an,I apt,Str us]) hs0 r0 r0 trivial r0 (fun b1 w1 hs1=>?_))
 refine tA Z6 r0 (nn (sq (sr (qt r0 (fa 0 fo60_0 r0) (qt r0 (lD (I c) hs1 0 r0 one3) (cS hs1 r0 (sIn _ 1 2 _) (fun w2 hs2=>?_)))))))
 refine qt r0 (nd r0) (tm (.bool (decide (¬ (1≤c∧c≤2)))) r0 (spd 7 r0 (fun h1=>?_) (fun h1=>?_)))
 ·exact gt5 r0 (gt5 r0 (gt5 r0 (gt5 r0 (qt r0 (pt (v:=.bool true) r0 r0) (tm Z35 r0 (gt5 r0 (gt5 r0 (gt5 r0 (gt5 r0 (qt r0 (pt (v:=.bool true) r0 r0) (nn (cdt r0 (sr (tA Z6 r0 (nn (rt (tR (fB r0 (by(simp[oldOk,h1]; done)) (hs2.pk [] r0)))))))))))))))))))
 refine qh r0 (fa 1 fo60_1 r0) (qh r0 (lG [I ak,(Z4 Aaq aq caq),Str an,I apt] hs2 0 r0 ag54) (cl ⟨_,rfl,rfl⟩ r0 (sAddressValid _ _ _ _ _ (haq.up0 hs2) (by omega)) ?_))
 rintro _ w3 ⟨rfl,hs3⟩
 replace hs3:=hs2.call0 hs3
 refine qh r0 (nt r0) (qt r0 (pf (v:=.bool (!(addrOk ak aq an apt))) r0 r0) (tm (.bool (!(addrOk ak aq an apt))) r0 (spl 13 r0 (fun h2=>?_) (fun h2=>?_))))
 ·have h3:=nbF h2
  exact gt5 r0 (gt5 r0 (gt5 r0 (gt5 r0 (qt r0 (pt (v:=.bool true) r0 r0) (nn (cdt r0 (sr (tA Z6 r0 (nn (rt (tR (fB r0 (by(simp[oldOk,h1,h3]; done)) (hs3.pk [] r0)))))))))))))
 have h4:=nbT h2
 refine qh r0 (fa 5 fo60_2 r0) (qh r0 (lD (Str us) hs3 0 r0 one9) (cl ⟨_,rfl,rfl⟩ r0 (sUserValid _ _ (by omega)) ?_))
 rintro _ w4 ⟨rfl,hs4⟩
 replace hs4:=hs3.call0 hs4
 refine qh r0 (nt r0) (qt r0 (pf (v:=.bool (!(userOk us))) r0 r0) (nn (cd r0 (fun h5=>?_) (fun h5=>?_))))
 ·have h6:=nbF h5
  exact sr (tA Z6 r0 (nn (rt (tR (fB r0 (by(simp[oldOk,h1,h4,h6]; done)) (hs4.pk [] r0))))))
 have h7:=nbT h5
 refine sk (nN (sq (rq (fun w'=>SH w w' [] [.blk b1 60 [I c,I ak,(Z4 Aaq aq caq),Str an,I apt,Str us]]) mixed (by kernel_rfl) hs4.drew (qA r0 (fa 1 fo60_1 r0) (qA r0 (fa 0 fo54_0 r0) (qB r0 (fun hsq=>lD (I ak) hsq 0 r0 one3) (qA r0 (eqi r0 r0) (qA r0 (mv (v:=.bool (decide (ak=3))) r0) (qspd 23 r0 (fun h8=>?_) (fun h8=>?_))))))))))
 ·refine kt5 r0 (kt5 r0 (kt5 r0 (kt5 r0 (kt5 r0 (kt5 r0 (kt5 r0 (kt5 r0 (kt5 r0 (kt5 r0 (kt5 r0 (kt5 r0 (kt5 r0 (kt5 r0 (kt5 r0 (kt5 r0 (kt5 r0 (kt5 r0 (qA r0 (pt (v:=.bool true) r0 r0) (qA r0 (asg (v:=.bool true) r0) (qn (fun w5 hs5=>?_)))))))))))))))))))))
  refine nN (rt (fT Z35 r0 ?_))
  have e4:true=oldOk c ak aq an apt us:=by exact(oldOk_3 (by exact Decidable.not_not.1 ‹_›) ‹_› ‹_› ‹_›).symm
  exact⟨(congrArg (Value.bool) e4),(hs5.pk [] r0)⟩
 have h4_:=(addr_quad4 (by assumption:addrOk ak aq an apt=true) ‹_›).1
 refine qq ⟨_,rfl,rfl⟩ r0 r0 (fun wq hsq=>fa 1 fo60_1 r0) (qq ⟨_,rfl,rfl⟩ r0 r0 (fun wq hsq=>fa 1 fo54_1 r0) (qq ⟨_,rfl,rfl⟩ r0 r0 (fun wq hsq=>lD (Z14 Aaq aq caq) hsq 0 r0 one24) (ixq1 0 sl24 r0 r0 haq (by omega) (getm I 0 (by omega)) ⟨_,rfl,rfl⟩ r0 (fun a1 ha1=>?_))))
 refine qq ⟨_,rfl,rfl⟩ r0 r0 (fun wq hsq=>lda hsq ha1 (fun _ h=>h) r0 r0 one3) (qq ⟨_,rfl,rfl⟩ r0 r0 (fun wq hsq=>fa 1 fo60_1 r0) (qq ⟨_,rfl,rfl⟩ r0 r0 (fun wq hsq=>fa 1 fo54_1 r0) (qq ⟨_,rfl,rfl⟩ r0 r0 (fun wq hsq=>lD (Z14 Aaq aq caq) hsq 0 r0 one24) (ixq1 1 sl24 r0 r0 haq (by omega) (getm I 0 (by omega)) ⟨_,rfl,rfl⟩ r0 (fun a2 ha2=>?_)))))
 refine qq ⟨_,rfl,rfl⟩ r0 r0 (fun wq hsq=>lda hsq ha2 (fun _ h=>h) r0 r0 one3) (qq ⟨_,rfl,rfl⟩ r0 r0 (fun wq hsq=>add r0 r0 (by(have hq4:=addr_quad4 (by assumption:addrOk ak aq an apt=true) ‹_›; have g0:=isBytes_get hq4.2 (k:=0) (by omega); have g1:=isBytes_get hq4.2 (k:=1) (by omega); have g2:=isBytes_get hq4.2 (k:=2) (by omega); exact⟨by omega,by omega⟩))) (qq ⟨_,rfl,rfl⟩ r0 r0 (fun wq hsq=>fa 1 fo60_1 r0) (qq ⟨_,rfl,rfl⟩ r0 r0 (fun wq hsq=>fa 1 fo54_1 r0) (qq ⟨_,rfl,rfl⟩ r0 r0 (fun wq hsq=>lD (Z14 Aaq aq caq) hsq 0 r0 one24) (ixq1 2 sl24 r0 r0 haq (by omega) (getm I 0 (by omega)) ⟨_,rfl,rfl⟩ r0 (fun a3 ha3=>?_))))))
 refine qq ⟨_,rfl,rfl⟩ r0 r0 (fun wq hsq=>lda hsq ha3 (fun _ h=>h) r0 r0 one3) (qq ⟨_,rfl,rfl⟩ r0 r0 (fun wq hsq=>add r0 r0 (by(have hq4:=addr_quad4 (by assumption:addrOk ak aq an apt=true) ‹_›; have g0:=isBytes_get hq4.2 (k:=0) (by omega); have g1:=isBytes_get hq4.2 (k:=1) (by omega); have g2:=isBytes_get hq4.2 (k:=2) (by omega); exact⟨by omega,by omega⟩))) (qq ⟨_,rfl,rfl⟩ r0 r0 (fun wq hsq=>gtr r0 r0) (qA r0 (pf (v:=.bool (decide ((0:Int)<(((aq.getD 0 0)+(aq.getD 1 0))+(aq.getD 2 0))))) r0 r0) (qA r0 (asg (v:=.bool (decide ((0:Int)<(((aq.getD 0 0)+(aq.getD 1 0))+(aq.getD 2 0))))) r0) (qn (fun w6 hs6=>?_))))))
 refine nN (rt (fT (.bool (decide ((0:Int)<(((aq.getD 0 0)+(aq.getD 1 0))+(aq.getD 2 0))))) r0 ?_))
 have e5:(decide ((0:Int)<(((aq.getD 0 0)+(aq.getD 1 0))+(aq.getD 2 0))))=oldOk c ak aq an apt us:=by exact(oldOk_1s (by exact Decidable.not_not.1 ‹_›) ‹_› ‹_› ‹_›).symm
 exact⟨(congrArg (Value.bool) e5),(hs6.pk [] r0)⟩
set_option maxHeartbeats 8000000 in
theorem iOldBytes (c:Int) (ak:Int) {Aaq:Option Addr} {caq:Nat} (aq:List Int) (an:List UInt8) (apt:Int) (us:List UInt8) (w:World) (haq:Sl w [] 1 Aaq aq.length caq (aq.map I)) (han_n:an.length≤1099511627776) (hus_n:us.length≤2147483648):Does Tryz.prog 71 [.agg #[I c,I ak,.slice Aaq aq.length caq,Str an,I apt,Str us]] w (fun v w'=>∃ Ar:Option Addr,∃ cr:Nat,v=.tuple #[.slice Ar ((oldP c ak aq an apt us).1).length cr,.bool ((oldP c ak aq an apt us).2)]∧SH w w' [] [.own Ar (((oldP c ak aq an apt us).1).length) cr 3 1 (((oldP c ak aq an apt us).1).map I)]):=by
 refine fE (N:=47) Tryz.func71 r0 (by kernel_rfl) r0 ?_
 have hs0:=SH.refl w []
 have haq_m:aq.length≤9223372036854775807:=Nat.le_trans haq.cap haq.capMax
 refine sr (bx (v:=.agg #[I c,I ak,(Z4 Aaq aq caq),Str an,I apt,Str us]) (cs:=[I c,I ak,(Z4 Aaq aq caq),Str an,I apt,Str us]) hs0 r0 r0 trivial r0 (fun b1 w1 hs1=>?_))
 refine tA ns r0 (tA Z6 r0 (nn (sq (sr (qt r0 (lG [I c,I ak,(Z4 Aaq aq caq),Str an,I apt,Str us] hs1 0 r0 ag60) (cS hs1 r0 (iIsOld _ _ _ _ _ _ _ (haq.up0 hs1) (by omega) (by omega)) (fun w2 hs2=>?_)))))))
 refine qt r0 (nt r0) (nn (cd r0 (fun h1=>?_) (fun h1=>?_)))
 ·have h2:=nbF h1
  refine sr (tA ns r0 (tA Z6 r0 (nn (rt (tR (fret (.tmp (.tmp .nil)) r0 ?_))))))
  have hs3:=hs2.nl [Z0] r0
  have e1:oldP c ak aq an apt us=(([]:List Int),false):=by(simp[oldP,h2]; done)
  rw[e1]
  exact⟨none,0,rfl,(hs3.pk [1] r0)⟩
 have h3:=nbT h1
 refine sk (nN (sq ?_))
 refine raJ (fun w'=>∃ L,SH w w' [] L∧(.blk b1 60 [I c,I ak,(Z4 Aaq aq caq),Str an,I apt,Str us])∈L∧True) (fun f w'=>∃ (A6':Option Addr) (c6':Nat) (A7':Option Addr) (c7':Nat),Hz f [(1,pB b1),(4,.slice A7' ((([4,c]:List Int)++(numB apt)).length) c7')]∧SH w w' [] [.blk b1 60 [I c,I ak,(Z4 Aaq aq caq),Str an,I apt,Str us],(Z63 A7' c apt c7'),(Z37 A6' apt c6')]) mixed ?_ ?_
 ·refine dG 2 9 127 (fun f w'=>∃ (b2':Nat) (A6':Option Addr) (c6':Nat),Hz f [(1,pB b1),(11,sb b2' (([4,c]:List Int).length) 2),(15,.slice A6' ((numB apt).length) c6')]∧SH w w' [] [.blk b1 60 [I c,I ak,(Z4 Aaq aq caq),Str an,I apt,Str us],oI b2' ([4,c]:List Int) 2 3,(Z37 A6' apt c6')]) ?_ (fun D_3_0=>?_)
  ·rintro f w3 ⟨b2',A6',c6',⟨g1,rfl⟩,hs4⟩
   have hop:=oldOk_parts (by assumption:oldOk c ak aq an apt us=true)
   have haf:=addr_fit2 hop.2.1
   have hap:=addrOk_fit hop.2.1
   have hul:=userOk_len hop.2.2.1
   have htn:=textI_len an
   have htu:=textI_len us
   refine aO 7 r0 (apm (g:=I) (ys:=([4,c]:List Int)) (zs:=numB apt) hs4 1 r0 sl24 r0 r0 r0 (hs4.sl0 2 r0) (fun _=>rfl) (by unfold maxLen; have hnb:(numB apt).length=2:=rfl; simp only[List.length_append,List.length_cons,List.length_nil]; omega) (by have hnb:(numB apt).length=2:=rfl; simp only[List.length_append,List.length_cons,List.length_nil]; omega) trivial r0 (fun A7' c7' w4 hs5=>?_))
   refine nk (m1 hs5 0 r0) (tk (fuel:=0) (is:=[8]) (.cons r0 (.nil)) (by kernel_rfl) (by kernel_rfl) (m1 hs5 0 r0) (yA r0 (asg (v:=.slice A7' ((([4,c]:List Int)++(numB apt)).length) c7') r0) (.nil (ad (by kernel_rfl) ?_))))
   exact⟨A6',c6',A7',c7',(zR r0),(hs5.pk [0,2,1] r0)⟩
  refine dG 3 9 63 (fun f w'=>∃ (b2':Nat),Hz f [(1,pB b1),(11,sb b2' (([4,c]:List Int).length) 2),(14,I apt)]∧SH w w' [] [.blk b1 60 [I c,I ak,(Z4 Aaq aq caq),Str an,I apt,Str us],oI b2' ([4,c]:List Int) 2 3]) ?_ (fun D_3_1=>?_)
  ·rintro f w5 ⟨b2',⟨g2,rfl⟩,hs6⟩
   refine aO 6 r0 (cL r0 (iNumberBytes _ _ (by have hop:=oldOk_parts (by assumption:oldOk c ak aq an apt us=true); have haf:=addr_fit2 hop.2.1; have hap:=addrOk_fit hop.2.1; have hul:=userOk_len hop.2.2.1; have htn:=textI_len an; have htu:=textI_len us; have hnb:(numB apt).length=2:=rfl; omega)) ?_)
   rintro _ w6 ⟨A6',c6',rfl,hs7⟩
   replace hs7:=hs6.call0 hs7
   exact nk (m1 hs7 0 r0) (alc D_3_0 ⟨b2',A6',c6',(zR r0),hs7⟩)
  refine dG 3 9 123 (fun f w'=>∃ (A6':Option Addr) (c6':Nat),Hz f [(1,pB b1),(10,I c),(15,.slice A6' ((numB apt).length) c6')]∧SH w w' [] [.blk b1 60 [I c,I ak,(Z4 Aaq aq caq),Str an,I apt,Str us],(Z37 A6' apt c6')]) ?_ (fun D_3_2=>?_)
  ·rintro f w7 ⟨A6',c6',⟨g3,rfl⟩,hs8⟩
   refine aO 2 r0 (bsk hs8 sl24 [I 4,I c] [I 4,I c] trivial r0 (fun b2' w8 hs9=>?_))
   exact nk (m1 hs9 0 r0) (alc D_3_0 ⟨b2',A6',c6',(zR r0),(hs9.pk [0,2,1] r0)⟩)
  refine dG 4 9 59 (fun f w'=>Hz f [(1,pB b1),(10,I c),(14,I apt)]∧SH w w' [] [.blk b1 60 [I c,I ak,(Z4 Aaq aq caq),Str an,I apt,Str us]]) ?_ (fun D_3_3=>?_)
  ·rintro f w9 ⟨⟨g4,rfl⟩,hs10⟩
   refine aaL [2,6] (fa_cons ?_ (fa_one ?_))
   ·refine one_ r0 (bsk hs10 sl24 [I 4,I c] [I 4,I c] trivial r0 (fun b2' w10 hs11=>?_))
    exact nk (m1 hs11 0 r0) (alc D_3_1 ⟨b2',(zR r0),hs11⟩)
   refine one_ r0 (cL r0 (iNumberBytes _ _ (by have hop:=oldOk_parts (by assumption:oldOk c ak aq an apt us=true); have haf:=addr_fit2 hop.2.1; have hap:=addrOk_fit hop.2.1; have hul:=userOk_len hop.2.2.1; have htn:=textI_len an; have htu:=textI_len us; have hnb:(numB apt).length=2:=rfl; omega)) ?_)
   rintro _ w11 ⟨A6',c6',rfl,hs12⟩
   replace hs12:=hs10.call0 hs12
   exact nk (m1 hs12 0 r0) (alc D_3_2 ⟨A6',c6',(zR r0),hs12⟩)
  have hs13:=hs2.drew
  exact tk (fuel:=4) (is:=[0,1,3,4,5]) (.cons r0 (.cons r0 (.cons r0 (.cons r0 (.cons r0 (.nil)))))) (by kernel_rfl) (by kernel_rfl) (m1 hs13 0 r0) (yA r0 (fa 0 fo60_0 r0) (yB r0 (fun ⟨Lq,hsq,mh0,_⟩=>lM (I c) hsq mh0 r0 one3) (yA r0 (fa 1 fo60_1 r0) (yA r0 (fa 3 fo54_3 r0) (yB r0 (fun ⟨Lq,hsq,mh0,_⟩=>lM (I apt) hsq mh0 r0 one3) (.nil (alc D_3_3 ⟨(zR r0),hs13⟩)))))))
 rintro f w12 ⟨A6',c6',A7',c7',⟨g5,rfl⟩,hs14⟩
 refine nN (sr (qt r0 (fa 1 fo60_1 r0) (qt r0 (fa 1 fo54_1 r0) (qt r0 (lD (Z14 Aaq aq caq) hs14 0 r0 one24) (tA (Z14 Aaq aq caq) r0 (nl (nN (sq (sr (qt r0 (fa 1 fo60_1 r0) (qt r0 (fa 0 fo54_0 r0) (qt r0 (lD (I ak) hs14 0 r0 one3) (qt r0 (eqi r0 r0) (nn (cdd r0 (fun h4=>?_) (fun h4=>?_))))))))))))))))
 ·refine rg (bsk hs14 sl24 Z148 Z148 trivial r0 (fun b2 w13 hs15=>?_))
  refine tA (sb b2 (([0,0,0,1]:List Int).length) 4) r0 (nn (sq ?_))
  refine raJ (fun w'=>∃ L,SH w w' [] L∧(.blk b1 60 [I c,I ak,(Z4 Aaq aq caq),Str an,I apt,Str us])∈L∧True) (fun f w'=>∃ (b7'':Nat) (A5'':Option Addr) (c5'':Nat) (A8'':Option Addr) (c8'':Nat),Hz f [(1,pB b1),(4,.slice A8'' (((((([4,c]:List Int)++(numB apt))++([0,0,0,1]:List Int))++(textI us))++([0]:List Int)).length) c8'')]∧SH w w' [] [.blk b1 60 [I c,I ak,(Z4 Aaq aq caq),Str an,I apt,Str us],.own A8'' (((((([4,c]:List Int)++(numB apt))++([0,0,0,1]:List Int))++(textI us))++([0]:List Int)).length) c8'' 3 1 (((((([4,c]:List Int)++(numB apt))++([0,0,0,1]:List Int))++(textI us))++([0]:List Int)).map I),(Z37 A6' apt c6'),(Z84 b2),(Z29 A5'' us c5''),(Z97 b7'')]) mixed ?_ ?_
  ·refine dG 2 10 255 (fun f w'=>∃ (b7'':Nat) (A5'':Option Addr) (c5'':Nat) (A6'':Option Addr) (c6'':Nat),Hz f [(1,pB b1),(4,.slice A7' ((([4,c]:List Int)++(numB apt)).length) c7'),(31,.slice A6'' ((((([4,c]:List Int)++(numB apt))++([0,0,0,1]:List Int))++(textI us)).length) c6''),(32,sb b7'' (([0]:List Int).length) 1)]∧SH w w' [] [.blk b1 60 [I c,I ak,(Z4 Aaq aq caq),Str an,I apt,Str us],(Z126 A6'' c apt us c6''),(Z37 A6' apt c6'),(Z84 b2),(Z29 A5'' us c5''),(Z97 b7'')]) ?_ (fun D_7_0=>?_)
   ·rintro f w14 ⟨b7'',A5'',c5'',A6'',c6'',⟨g6,rfl⟩,hs16⟩
    refine aO 8 r0 (apm (g:=I) (ys:=((([4,c]:List Int)++(numB apt))++([0,0,0,1]:List Int))++(textI us)) (zs:=([0]:List Int)) hs16 1 r0 sl24 r0 r0 r0 (hs16.sl0 5 r0) (fun _=>rfl) (by unfold maxLen; have hop:=oldOk_parts (by assumption:oldOk c ak aq an apt us=true); have haf:=addr_fit2 hop.2.1; have hap:=addrOk_fit hop.2.1; have hul:=userOk_len hop.2.2.1; have htn:=textI_len an; have htu:=textI_len us; have hnb:(numB apt).length=2:=rfl; simp only[List.length_append,List.length_cons,List.length_nil]; omega) (by have hop:=oldOk_parts (by assumption:oldOk c ak aq an apt us=true); have haf:=addr_fit2 hop.2.1; have hap:=addrOk_fit hop.2.1; have hul:=userOk_len hop.2.2.1; have htn:=textI_len an; have htu:=textI_len us; have hnb:(numB apt).length=2:=rfl; simp only[List.length_append,List.length_cons,List.length_nil]; omega) trivial r0 (fun A8'' c8'' w15 hs17=>?_))
    refine nk (m1 hs17 0 r0) (tk (fuel:=0) (is:=[9]) (.cons r0 (.nil)) (by kernel_rfl) (by kernel_rfl) (m1 hs17 0 r0) (yA r0 (asg (v:=.slice A8'' (((((([4,c]:List Int)++(numB apt))++([0,0,0,1]:List Int))++(textI us))++([0]:List Int)).length) c8'') r0) (.nil (ad (by kernel_rfl) ?_))))
    exact⟨b7'',A5'',c5'',A8'',c8'',(zR r0),(hs17.pk [0,5,1,2,3,4] r0)⟩
   refine dG 3 10 127 (fun f w'=>∃ (A5'':Option Addr) (c5'':Nat) (A6'':Option Addr) (c6'':Nat),Hz f [(1,pB b1),(4,.slice A7' ((([4,c]:List Int)++(numB apt)).length) c7'),(31,.slice A6'' ((((([4,c]:List Int)++(numB apt))++([0,0,0,1]:List Int))++(textI us)).length) c6'')]∧SH w w' [] [.blk b1 60 [I c,I ak,(Z4 Aaq aq caq),Str an,I apt,Str us],(Z126 A6'' c apt us c6''),(Z37 A6' apt c6'),(Z84 b2),(Z29 A5'' us c5'')]) ?_ (fun D_7_1=>?_)
   ·rintro f w16 ⟨A5'',c5'',A6'',c6'',⟨g7,rfl⟩,hs18⟩
    refine aO 7 r0 (bsk hs18 sl24 [I 0] [I 0] trivial r0 (fun b7'' w17 hs19=>?_))
    exact nk (m1 hs19 0 r0) (alc D_7_0 ⟨b7'',A5'',c5'',A6'',c6'',(zR r0),hs19⟩)
   refine dG 3 10 191 (fun f w'=>∃ (A2'':Option Addr) (c2'' b7'':Nat) (A5'':Option Addr) (c5'':Nat),Hz f [(1,pB b1),(4,.slice A7' ((([4,c]:List Int)++(numB apt)).length) c7'),(27,.slice A2'' (((([4,c]:List Int)++(numB apt))++([0,0,0,1]:List Int)).length) c2''),(30,.slice A5'' ((textI us).length) c5''),(32,sb b7'' (([0]:List Int).length) 1)]∧SH w w' [] [.blk b1 60 [I c,I ak,(Z4 Aaq aq caq),Str an,I apt,Str us],(Z71 A2'' c apt c2''),(Z37 A6' apt c6'),(Z84 b2),(Z29 A5'' us c5''),(Z97 b7'')]) ?_ (fun D_7_2=>?_)
   ·rintro f w18 ⟨A2'',c2'',b7'',A5'',c5'',⟨g8,rfl⟩,hs20⟩
    refine aO 6 r0 (apm (g:=I) (ys:=(([4,c]:List Int)++(numB apt))++([0,0,0,1]:List Int)) (zs:=textI us) hs20 1 r0 sl24 r0 r0 r0 (hs20.sl0 4 r0) (fun _=>rfl) (by unfold maxLen; have hop:=oldOk_parts (by assumption:oldOk c ak aq an apt us=true); have haf:=addr_fit2 hop.2.1; have hap:=addrOk_fit hop.2.1; have hul:=userOk_len hop.2.2.1; have htn:=textI_len an; have htu:=textI_len us; have hnb:(numB apt).length=2:=rfl; simp only[List.length_append,List.length_cons,List.length_nil]; omega) (by have hop:=oldOk_parts (by assumption:oldOk c ak aq an apt us=true); have haf:=addr_fit2 hop.2.1; have hap:=addrOk_fit hop.2.1; have hul:=userOk_len hop.2.2.1; have htn:=textI_len an; have htu:=textI_len us; have hnb:(numB apt).length=2:=rfl; simp only[List.length_append,List.length_cons,List.length_nil]; omega) trivial r0 (fun A6'' c6'' w19 hs21=>?_))
    exact nk (m1 hs21 0 r0) (alc D_7_0 ⟨b7'',A5'',c5'',A6'',c6'',(zR r0),(hs21.pk [0,5,1,2,3,4] r0)⟩)
   refine dG 4 10 63 (fun f w'=>∃ (A2'':Option Addr) (c2'':Nat) (A5'':Option Addr) (c5'':Nat),Hz f [(1,pB b1),(4,.slice A7' ((([4,c]:List Int)++(numB apt)).length) c7'),(27,.slice A2'' (((([4,c]:List Int)++(numB apt))++([0,0,0,1]:List Int)).length) c2''),(30,.slice A5'' ((textI us).length) c5'')]∧SH w w' [] [.blk b1 60 [I c,I ak,(Z4 Aaq aq caq),Str an,I apt,Str us],(Z71 A2'' c apt c2''),(Z37 A6' apt c6'),(Z84 b2),(Z29 A5'' us c5'')]) ?_ (fun D_7_3=>?_)
   ·rintro f w20 ⟨A2'',c2'',A5'',c5'',⟨g9,rfl⟩,hs22⟩
    refine aaL [6,7] (fa_cons ?_ (fa_one ?_))
    ·refine one_ r0 (apm (g:=I) (ys:=(([4,c]:List Int)++(numB apt))++([0,0,0,1]:List Int)) (zs:=textI us) hs22 1 r0 sl24 r0 r0 r0 (hs22.sl0 4 r0) (fun _=>rfl) (by unfold maxLen; have hop:=oldOk_parts (by assumption:oldOk c ak aq an apt us=true); have haf:=addr_fit2 hop.2.1; have hap:=addrOk_fit hop.2.1; have hul:=userOk_len hop.2.2.1; have htn:=textI_len an; have htu:=textI_len us; have hnb:(numB apt).length=2:=rfl; simp only[List.length_append,List.length_cons,List.length_nil]; omega) (by have hop:=oldOk_parts (by assumption:oldOk c ak aq an apt us=true); have haf:=addr_fit2 hop.2.1; have hap:=addrOk_fit hop.2.1; have hul:=userOk_len hop.2.2.1; have htn:=textI_len an; have htu:=textI_len us; have hnb:(numB apt).length=2:=rfl; simp only[List.length_append,List.length_cons,List.length_nil]; omega) trivial r0 (fun A6'' c6'' w21 hs23=>?_))
     exact nk (m1 hs23 0 r0) (alc D_7_1 ⟨A5'',c5'',A6'',c6'',(zR r0),(hs23.pk [0,4,1,2,3] r0)⟩)
    refine one_ r0 (bsk hs22 sl24 [I 0] [I 0] trivial r0 (fun b7'' w22 hs24=>?_))
    exact nk (m1 hs24 0 r0) (alc D_7_2 ⟨A2'',c2'',b7'',A5'',c5'',(zR r0),hs24⟩)
   refine dG 4 10 159 (fun f w'=>∃ (A2'':Option Addr) (c2'' b7'':Nat),Hz f [(1,pB b1),(4,.slice A7' ((([4,c]:List Int)++(numB apt)).length) c7'),(27,.slice A2'' (((([4,c]:List Int)++(numB apt))++([0,0,0,1]:List Int)).length) c2''),(29,Str us),(32,sb b7'' (([0]:List Int).length) 1)]∧SH w w' [] [.blk b1 60 [I c,I ak,(Z4 Aaq aq caq),Str an,I apt,Str us],(Z71 A2'' c apt c2''),(Z37 A6' apt c6'),(Z84 b2),(Z97 b7'')]) ?_ (fun D_7_4=>?_)
   ·rintro f w23 ⟨A2'',c2'',b7'',⟨g10,rfl⟩,hs25⟩
    refine aO 5 r0 (cL r0 (iTextBytes _ _ (by omega)) ?_)
    rintro _ w24 ⟨A5'',c5'',rfl,hs26⟩
    replace hs26:=hs25.call0 hs26
    exact nk (m1 hs26 0 r0) (alc D_7_2 ⟨A2'',c2'',b7'',A5'',c5'',(zR r0),(hs26.pk [0,1,2,3,5,4] r0)⟩)
   refine dG 5 10 31 (fun f w'=>∃ (A2'':Option Addr) (c2'':Nat),Hz f [(1,pB b1),(4,.slice A7' ((([4,c]:List Int)++(numB apt)).length) c7'),(27,.slice A2'' (((([4,c]:List Int)++(numB apt))++([0,0,0,1]:List Int)).length) c2''),(29,Str us)]∧SH w w' [] [.blk b1 60 [I c,I ak,(Z4 Aaq aq caq),Str an,I apt,Str us],(Z71 A2'' c apt c2''),(Z37 A6' apt c6'),(Z84 b2)]) ?_ (fun D_7_5=>?_)
   ·rintro f w25 ⟨A2'',c2'',⟨g11,rfl⟩,hs27⟩
    refine aaL [5,7] (fa_cons ?_ (fa_one ?_))
    ·refine one_ r0 (cL r0 (iTextBytes _ _ (by omega)) ?_)
     rintro _ w26 ⟨A5'',c5'',rfl,hs28⟩
     replace hs28:=hs27.call0 hs28
     exact nk (m1 hs28 0 r0) (alc D_7_3 ⟨A2'',c2'',A5'',c5'',(zR r0),hs28⟩)
    refine one_ r0 (bsk hs27 sl24 [I 0] [I 0] trivial r0 (fun b7'' w27 hs29=>?_))
    exact nk (m1 hs29 0 r0) (alc D_7_4 ⟨A2'',c2'',b7'',(zR r0),hs29⟩)
   refine dG 5 10 155 (fun f w'=>∃ (b7'':Nat),Hz f [(1,pB b1),(4,.slice A7' ((([4,c]:List Int)++(numB apt)).length) c7'),(25,.slice A7' ((([4,c]:List Int)++(numB apt)).length) c7'),(26,sb b2 (([0,0,0,1]:List Int).length) 4),(29,Str us),(32,sb b7'' (([0]:List Int).length) 1)]∧SH w w' [] [.blk b1 60 [I c,I ak,(Z4 Aaq aq caq),Str an,I apt,Str us],(Z63 A7' c apt c7'),(Z37 A6' apt c6'),(Z84 b2),(Z97 b7'')]) ?_ (fun D_7_6=>?_)
   ·rintro f w28 ⟨b7'',⟨g12,rfl⟩,hs30⟩
    refine aO 2 r0 (apm (g:=I) (ys:=([4,c]:List Int)++(numB apt)) (zs:=([0,0,0,1]:List Int)) hs30 1 r0 sl24 r0 r0 r0 (hs30.sl0 3 r0) (fun _=>rfl) (by unfold maxLen; have hop:=oldOk_parts (by assumption:oldOk c ak aq an apt us=true); have haf:=addr_fit2 hop.2.1; have hap:=addrOk_fit hop.2.1; have hul:=userOk_len hop.2.2.1; have htn:=textI_len an; have htu:=textI_len us; have hnb:(numB apt).length=2:=rfl; simp only[List.length_append,List.length_cons,List.length_nil]; omega) (by have hop:=oldOk_parts (by assumption:oldOk c ak aq an apt us=true); have haf:=addr_fit2 hop.2.1; have hap:=addrOk_fit hop.2.1; have hul:=userOk_len hop.2.2.1; have htn:=textI_len an; have htu:=textI_len us; have hnb:(numB apt).length=2:=rfl; simp only[List.length_append,List.length_cons,List.length_nil]; omega) trivial r0 (fun A2'' c2'' w29 hs31=>?_))
    exact nk (m1 hs31 0 r0) (alc D_7_4 ⟨A2'',c2'',b7'',(zR r0),(hs31.pk [0,4,1,2,3] r0)⟩)
   refine dG 6 10 27 (fun f w'=>Hz f [(1,pB b1),(4,.slice A7' ((([4,c]:List Int)++(numB apt)).length) c7'),(25,.slice A7' ((([4,c]:List Int)++(numB apt)).length) c7'),(26,sb b2 (([0,0,0,1]:List Int).length) 4),(29,Str us)]∧SH w w' [] [.blk b1 60 [I c,I ak,(Z4 Aaq aq caq),Str an,I apt,Str us],(Z63 A7' c apt c7'),(Z37 A6' apt c6'),(Z84 b2)]) ?_ (fun D_7_7=>?_)
   ·rintro f w30 ⟨⟨g13,rfl⟩,hs32⟩
    refine aaL [2,7] (fa_cons ?_ (fa_one ?_))
    ·refine one_ r0 (apm (g:=I) (ys:=([4,c]:List Int)++(numB apt)) (zs:=([0,0,0,1]:List Int)) hs32 1 r0 sl24 r0 r0 r0 (hs32.sl0 3 r0) (fun _=>rfl) (by unfold maxLen; have hop:=oldOk_parts (by assumption:oldOk c ak aq an apt us=true); have haf:=addr_fit2 hop.2.1; have hap:=addrOk_fit hop.2.1; have hul:=userOk_len hop.2.2.1; have htn:=textI_len an; have htu:=textI_len us; have hnb:(numB apt).length=2:=rfl; simp only[List.length_append,List.length_cons,List.length_nil]; omega) (by have hop:=oldOk_parts (by assumption:oldOk c ak aq an apt us=true); have haf:=addr_fit2 hop.2.1; have hap:=addrOk_fit hop.2.1; have hul:=userOk_len hop.2.2.1; have htn:=textI_len an; have htu:=textI_len us; have hnb:(numB apt).length=2:=rfl; simp only[List.length_append,List.length_cons,List.length_nil]; omega) trivial r0 (fun A2'' c2'' w31 hs33=>?_))
     exact nk (m1 hs33 0 r0) (alc D_7_5 ⟨A2'',c2'',(zR r0),(hs33.pk [0,3,1,2] r0)⟩)
    refine one_ r0 (bsk hs32 sl24 [I 0] [I 0] trivial r0 (fun b7'' w32 hs34=>?_))
    exact nk (m1 hs34 0 r0) (alc D_7_6 ⟨b7'',(zR r0),hs34⟩)
   have hs35:=hs15.drew
   exact tk (fuel:=6) (is:=[0,1,3,4]) (.cons r0 (.cons r0 (.cons r0 (.cons r0 (.nil))))) (by kernel_rfl) (by kernel_rfl) (m1 hs35 0 r0) (yA r0 (mv (v:=.slice A7' ((([4,c]:List Int)++(numB apt)).length) c7') r0) (yA r0 (mv (v:=sb b2 (([0,0,0,1]:List Int).length) 4) r0) (yA r0 (fa 5 fo60_2 r0) (yB r0 (fun ⟨Lq,hsq,mh0,_⟩=>lM (Str us) hsq mh0 r0 one9) (.nil (alc D_7_7 ⟨(zR r0),hs35⟩))))))
  rintro f w33 ⟨b7'',A5'',c5'',A8'',c8'',⟨g14,rfl⟩,hs36⟩
  refine nN ?_
  have hs37:=hs36.pq [0,1] r0
  refine sq (sr (qt r0 (fa 1 fo60_1 r0) (qt r0 (fa 0 fo54_0 r0) (qt r0 (lD (I ak) hs37 0 r0 one3) (qt r0 (eqi r0 r0) (nl (nN (cdd r0 (fun h5=>?_) (fun h5=>?_)))))))))
  ·refine rg (tm (Z110 A8'' c apt us c8'') r0 (qt r0 (fa 1 fo60_1 r0) (qt r0 (fa 2 fo54_2 r0) (qt r0 (lD (Str an) hs37 0 r0 one9) (cS2 hs37 r0 (iTextBytes _ _ (by(have hop:=oldOk_parts (by assumption:oldOk c ak aq an apt us=true); have haf:=addr_fit2 hop.2.1; have hap:=addrOk_fit hop.2.1; have hul:=userOk_len hop.2.2.1; have htn:=textI_len an; have htu:=textI_len us; have hnb:(numB apt).length=2:=rfl; omega))) (fun A1 c1 w34 hs38=>?_))))))
   refine apm (g:=I) (ys:=(((([4,c]:List Int)++(numB apt))++([0,0,0,1]:List Int))++(textI us))++([0]:List Int)) (zs:=textI an) hs38 1 r0 sl24 r0 r0 r0 (hs38.sl0 2 r0) (fun _=>rfl) (by unfold maxLen; have hop:=oldOk_parts (by assumption:oldOk c ak aq an apt us=true); have haf:=addr_fit2 hop.2.1; have hap:=addrOk_fit hop.2.1; have hul:=userOk_len hop.2.2.1; have htn:=textI_len an; have htu:=textI_len us; have hnb:(numB apt).length=2:=rfl; simp only[List.length_append,List.length_cons,List.length_nil]; omega) (by have hop:=oldOk_parts (by assumption:oldOk c ak aq an apt us=true); have haf:=addr_fit2 hop.2.1; have hap:=addrOk_fit hop.2.1; have hul:=userOk_len hop.2.2.1; have htn:=textI_len an; have htu:=textI_len us; have hnb:(numB apt).length=2:=rfl; simp only[List.length_append,List.length_cons,List.length_nil]; omega) trivial r0 (fun A2 c2 w35 hs39=>?_)
   refine bsk hs39 sl24 [I 0] [I 0] trivial r0 (fun b3 w36 hs40=>?_)
   refine apm (g:=I) (ys:=((((([4,c]:List Int)++(numB apt))++([0,0,0,1]:List Int))++(textI us))++([0]:List Int))++(textI an)) (zs:=([0]:List Int)) hs40 2 r0 sl24 r0 r0 r0 (hs40.sl0 3 r0) (fun _=>rfl) (by unfold maxLen; have hop:=oldOk_parts (by assumption:oldOk c ak aq an apt us=true); have haf:=addr_fit2 hop.2.1; have hap:=addrOk_fit hop.2.1; have hul:=userOk_len hop.2.2.1; have htn:=textI_len an; have htu:=textI_len us; have hnb:(numB apt).length=2:=rfl; simp only[List.length_append,List.length_cons,List.length_nil]; omega) (by have hop:=oldOk_parts (by assumption:oldOk c ak aq an apt us=true); have haf:=addr_fit2 hop.2.1; have hap:=addrOk_fit hop.2.1; have hul:=userOk_len hop.2.2.1; have htn:=textI_len an; have htu:=textI_len us; have hnb:(numB apt).length=2:=rfl; simp only[List.length_append,List.length_cons,List.length_nil]; omega) trivial r0 (fun A3 c3 w37 hs41=>?_)
   refine tA (.slice A3 (((((((([4,c]:List Int)++(numB apt))++([0,0,0,1]:List Int))++(textI us))++([0]:List Int))++(textI an))++([0]:List Int)).length) c3) r0 (nn ?_)
   have hs42:=hs41.pq [3] r0
   refine sr (tm (.slice A3 (((((((([4,c]:List Int)++(numB apt))++([0,0,0,1]:List Int))++(textI us))++([0]:List Int))++(textI an))++([0]:List Int)).length) c3) r0 (tA (.slice A3 (((((((([4,c]:List Int)++(numB apt))++([0,0,0,1]:List Int))++(textI us))++([0]:List Int))++(textI an))++([0]:List Int)).length) c3) r0 (tA Z35 r0 (nn (rt (fret (.tmp (.tmp .nil)) r0 ?_))))))
   have e2:oldP c ak aq an apt us=((((((([4,c]:List Int)++(numB apt))++([0,0,0,1]:List Int))++(textI us))++([0]:List Int))++(textI an))++([0]:List Int),true):=by(rw[oldP_yes ‹_›,oldB_3 ‹_›]; done)
   rw[e2]
   exact⟨A3,c3,rfl,hs42⟩
  refine sk (nN (sr (tm (Z110 A8'' c apt us c8'') r0 (tA (Z110 A8'' c apt us c8'') r0 (tA Z35 r0 (nl (nN (rt (fret (.tmp (.tmp .nil)) r0 ?_)))))))))
  have e3:oldP c ak aq an apt us=((((([4,c]:List Int)++(numB apt))++([0,0,0,1]:List Int))++(textI us))++([0]:List Int),true):=by(exfalso; omega)
  rw[e3]
  exact⟨A8'',c8'',rfl,(hs37.pk [1] r0)⟩
 refine sk (nN (sq ?_))
 refine raJ (fun w'=>∃ L,SH w w' [] L∧(.blk b1 60 [I c,I ak,(Z4 Aaq aq caq),Str an,I apt,Str us])∈L∧True) (fun f w'=>∃ (b7''':Nat) (A5''':Option Addr) (c5''':Nat) (A8''':Option Addr) (c8''':Nat),Hz f [(1,pB b1),(4,.slice A8''' (((((([4,c]:List Int)++(numB apt))++aq)++(textI us))++([0]:List Int)).length) c8''')]∧SH w w' [] [.blk b1 60 [I c,I ak,(Z4 Aaq aq caq),Str an,I apt,Str us],.own A8''' (((((([4,c]:List Int)++(numB apt))++aq)++(textI us))++([0]:List Int)).length) c8''' 3 1 (((((([4,c]:List Int)++(numB apt))++aq)++(textI us))++([0]:List Int)).map I),(Z37 A6' apt c6'),(Z29 A5''' us c5'''),(Z97 b7''')]) mixed ?_ ?_
 ·refine dG 2 10 255 (fun f w'=>∃ (b7''':Nat) (A5''':Option Addr) (c5''':Nat) (A6''':Option Addr) (c6''':Nat),Hz f [(1,pB b1),(4,.slice A7' ((([4,c]:List Int)++(numB apt)).length) c7'),(31,.slice A6''' ((((([4,c]:List Int)++(numB apt))++aq)++(textI us)).length) c6'''),(32,sb b7''' (([0]:List Int).length) 1)]∧SH w w' [] [.blk b1 60 [I c,I ak,(Z4 Aaq aq caq),Str an,I apt,Str us],.own A6''' ((((([4,c]:List Int)++(numB apt))++aq)++(textI us)).length) c6''' 3 1 ((((([4,c]:List Int)++(numB apt))++aq)++(textI us)).map I),(Z37 A6' apt c6'),(Z29 A5''' us c5'''),(Z97 b7''')]) ?_ (fun D_7_0=>?_)
  ·rintro f w38 ⟨b7''',A5''',c5''',A6''',c6''',⟨g15,rfl⟩,hs43⟩
   refine aO 8 r0 (apm (g:=I) (ys:=((([4,c]:List Int)++(numB apt))++aq)++(textI us)) (zs:=([0]:List Int)) hs43 1 r0 sl24 r0 r0 r0 (hs43.sl0 4 r0) (fun _=>rfl) (by unfold maxLen; have hop:=oldOk_parts (by assumption:oldOk c ak aq an apt us=true); have haf:=addr_fit2 hop.2.1; have hap:=addrOk_fit hop.2.1; have hul:=userOk_len hop.2.2.1; have htn:=textI_len an; have htu:=textI_len us; have hnb:(numB apt).length=2:=rfl; simp only[List.length_append,List.length_cons,List.length_nil]; omega) (by have hop:=oldOk_parts (by assumption:oldOk c ak aq an apt us=true); have haf:=addr_fit2 hop.2.1; have hap:=addrOk_fit hop.2.1; have hul:=userOk_len hop.2.2.1; have htn:=textI_len an; have htu:=textI_len us; have hnb:(numB apt).length=2:=rfl; simp only[List.length_append,List.length_cons,List.length_nil]; omega) trivial r0 (fun A8''' c8''' w39 hs44=>?_))
   refine nk (m1 hs44 0 r0) (tk (fuel:=0) (is:=[9]) (.cons r0 (.nil)) (by kernel_rfl) (by kernel_rfl) (m1 hs44 0 r0) (yA r0 (asg (v:=.slice A8''' (((((([4,c]:List Int)++(numB apt))++aq)++(textI us))++([0]:List Int)).length) c8''') r0) (.nil (ad (by kernel_rfl) ?_))))
   exact⟨b7''',A5''',c5''',A8''',c8''',(zR r0),(hs44.pk [0,4,1,2,3] r0)⟩
  refine dG 3 10 127 (fun f w'=>∃ (A5''':Option Addr) (c5''':Nat) (A6''':Option Addr) (c6''':Nat),Hz f [(1,pB b1),(4,.slice A7' ((([4,c]:List Int)++(numB apt)).length) c7'),(31,.slice A6''' ((((([4,c]:List Int)++(numB apt))++aq)++(textI us)).length) c6''')]∧SH w w' [] [.blk b1 60 [I c,I ak,(Z4 Aaq aq caq),Str an,I apt,Str us],.own A6''' ((((([4,c]:List Int)++(numB apt))++aq)++(textI us)).length) c6''' 3 1 ((((([4,c]:List Int)++(numB apt))++aq)++(textI us)).map I),(Z37 A6' apt c6'),(Z29 A5''' us c5''')]) ?_ (fun D_7_1=>?_)
  ·rintro f w40 ⟨A5''',c5''',A6''',c6''',⟨g16,rfl⟩,hs45⟩
   refine aO 7 r0 (bsk hs45 sl24 [I 0] [I 0] trivial r0 (fun b7''' w41 hs46=>?_))
   exact nk (m1 hs46 0 r0) (alc D_7_0 ⟨b7''',A5''',c5''',A6''',c6''',(zR r0),hs46⟩)
  refine dG 3 10 191 (fun f w'=>∃ (A2''':Option Addr) (c2''' b7''':Nat) (A5''':Option Addr) (c5''':Nat),Hz f [(1,pB b1),(4,.slice A7' ((([4,c]:List Int)++(numB apt)).length) c7'),(27,.slice A2''' (((([4,c]:List Int)++(numB apt))++aq).length) c2'''),(30,.slice A5''' ((textI us).length) c5'''),(32,sb b7''' (([0]:List Int).length) 1)]∧SH w w' [] [.blk b1 60 [I c,I ak,(Z4 Aaq aq caq),Str an,I apt,Str us],(Z82 A2''' c apt aq c2'''),(Z37 A6' apt c6'),(Z29 A5''' us c5'''),(Z97 b7''')]) ?_ (fun D_7_2=>?_)
  ·rintro f w42 ⟨A2''',c2''',b7''',A5''',c5''',⟨g17,rfl⟩,hs47⟩
   refine aO 6 r0 (apm (g:=I) (ys:=(([4,c]:List Int)++(numB apt))++aq) (zs:=textI us) hs47 1 r0 sl24 r0 r0 r0 (hs47.sl0 3 r0) (fun _=>rfl) (by unfold maxLen; have hop:=oldOk_parts (by assumption:oldOk c ak aq an apt us=true); have haf:=addr_fit2 hop.2.1; have hap:=addrOk_fit hop.2.1; have hul:=userOk_len hop.2.2.1; have htn:=textI_len an; have htu:=textI_len us; have hnb:(numB apt).length=2:=rfl; simp only[List.length_append,List.length_cons,List.length_nil]; omega) (by have hop:=oldOk_parts (by assumption:oldOk c ak aq an apt us=true); have haf:=addr_fit2 hop.2.1; have hap:=addrOk_fit hop.2.1; have hul:=userOk_len hop.2.2.1; have htn:=textI_len an; have htu:=textI_len us; have hnb:(numB apt).length=2:=rfl; simp only[List.length_append,List.length_cons,List.length_nil]; omega) trivial r0 (fun A6''' c6''' w43 hs48=>?_))
   exact nk (m1 hs48 0 r0) (alc D_7_0 ⟨b7''',A5''',c5''',A6''',c6''',(zR r0),(hs48.pk [0,4,1,2,3] r0)⟩)
  refine dG 4 10 63 (fun f w'=>∃ (A2''':Option Addr) (c2''':Nat) (A5''':Option Addr) (c5''':Nat),Hz f [(1,pB b1),(4,.slice A7' ((([4,c]:List Int)++(numB apt)).length) c7'),(27,.slice A2''' (((([4,c]:List Int)++(numB apt))++aq).length) c2'''),(30,.slice A5''' ((textI us).length) c5''')]∧SH w w' [] [.blk b1 60 [I c,I ak,(Z4 Aaq aq caq),Str an,I apt,Str us],(Z82 A2''' c apt aq c2'''),(Z37 A6' apt c6'),(Z29 A5''' us c5''')]) ?_ (fun D_7_3=>?_)
  ·rintro f w44 ⟨A2''',c2''',A5''',c5''',⟨g18,rfl⟩,hs49⟩
   refine aaL [6,7] (fa_cons ?_ (fa_one ?_))
   ·refine one_ r0 (apm (g:=I) (ys:=(([4,c]:List Int)++(numB apt))++aq) (zs:=textI us) hs49 1 r0 sl24 r0 r0 r0 (hs49.sl0 3 r0) (fun _=>rfl) (by unfold maxLen; have hop:=oldOk_parts (by assumption:oldOk c ak aq an apt us=true); have haf:=addr_fit2 hop.2.1; have hap:=addrOk_fit hop.2.1; have hul:=userOk_len hop.2.2.1; have htn:=textI_len an; have htu:=textI_len us; have hnb:(numB apt).length=2:=rfl; simp only[List.length_append,List.length_cons,List.length_nil]; omega) (by have hop:=oldOk_parts (by assumption:oldOk c ak aq an apt us=true); have haf:=addr_fit2 hop.2.1; have hap:=addrOk_fit hop.2.1; have hul:=userOk_len hop.2.2.1; have htn:=textI_len an; have htu:=textI_len us; have hnb:(numB apt).length=2:=rfl; simp only[List.length_append,List.length_cons,List.length_nil]; omega) trivial r0 (fun A6''' c6''' w45 hs50=>?_))
    exact nk (m1 hs50 0 r0) (alc D_7_1 ⟨A5''',c5''',A6''',c6''',(zR r0),(hs50.pk [0,3,1,2] r0)⟩)
   refine one_ r0 (bsk hs49 sl24 [I 0] [I 0] trivial r0 (fun b7''' w46 hs51=>?_))
   exact nk (m1 hs51 0 r0) (alc D_7_2 ⟨A2''',c2''',b7''',A5''',c5''',(zR r0),hs51⟩)
  refine dG 4 10 159 (fun f w'=>∃ (A2''':Option Addr) (c2''' b7''':Nat),Hz f [(1,pB b1),(4,.slice A7' ((([4,c]:List Int)++(numB apt)).length) c7'),(27,.slice A2''' (((([4,c]:List Int)++(numB apt))++aq).length) c2'''),(29,Str us),(32,sb b7''' (([0]:List Int).length) 1)]∧SH w w' [] [.blk b1 60 [I c,I ak,(Z4 Aaq aq caq),Str an,I apt,Str us],(Z82 A2''' c apt aq c2'''),(Z37 A6' apt c6'),(Z97 b7''')]) ?_ (fun D_7_4=>?_)
  ·rintro f w47 ⟨A2''',c2''',b7''',⟨g19,rfl⟩,hs52⟩
   refine aO 5 r0 (cL r0 (iTextBytes _ _ (by omega)) ?_)
   rintro _ w48 ⟨A5''',c5''',rfl,hs53⟩
   replace hs53:=hs52.call0 hs53
   exact nk (m1 hs53 0 r0) (alc D_7_2 ⟨A2''',c2''',b7''',A5''',c5''',(zR r0),(hs53.pk [0,1,2,4,3] r0)⟩)
  refine dG 5 10 31 (fun f w'=>∃ (A2''':Option Addr) (c2''':Nat),Hz f [(1,pB b1),(4,.slice A7' ((([4,c]:List Int)++(numB apt)).length) c7'),(27,.slice A2''' (((([4,c]:List Int)++(numB apt))++aq).length) c2'''),(29,Str us)]∧SH w w' [] [.blk b1 60 [I c,I ak,(Z4 Aaq aq caq),Str an,I apt,Str us],(Z82 A2''' c apt aq c2'''),(Z37 A6' apt c6')]) ?_ (fun D_7_5=>?_)
  ·rintro f w49 ⟨A2''',c2''',⟨g20,rfl⟩,hs54⟩
   refine aaL [5,7] (fa_cons ?_ (fa_one ?_))
   ·refine one_ r0 (cL r0 (iTextBytes _ _ (by omega)) ?_)
    rintro _ w50 ⟨A5''',c5''',rfl,hs55⟩
    replace hs55:=hs54.call0 hs55
    exact nk (m1 hs55 0 r0) (alc D_7_3 ⟨A2''',c2''',A5''',c5''',(zR r0),hs55⟩)
   refine one_ r0 (bsk hs54 sl24 [I 0] [I 0] trivial r0 (fun b7''' w51 hs56=>?_))
   exact nk (m1 hs56 0 r0) (alc D_7_4 ⟨A2''',c2''',b7''',(zR r0),hs56⟩)
  refine dG 5 10 155 (fun f w'=>∃ (b7''':Nat),Hz f [(1,pB b1),(4,.slice A7' ((([4,c]:List Int)++(numB apt)).length) c7'),(25,.slice A7' ((([4,c]:List Int)++(numB apt)).length) c7'),(26,.slice Aaq aq.length caq),(29,Str us),(32,sb b7''' (([0]:List Int).length) 1)]∧SH w w' [] [.blk b1 60 [I c,I ak,(Z4 Aaq aq caq),Str an,I apt,Str us],(Z63 A7' c apt c7'),(Z37 A6' apt c6'),(Z97 b7''')]) ?_ (fun D_7_6=>?_)
  ·rintro f w52 ⟨b7''',⟨g21,rfl⟩,hs57⟩
   refine aO 2 r0 (apm (g:=I) (ys:=([4,c]:List Int)++(numB apt)) (zs:=aq) hs57 1 r0 sl24 r0 r0 r0 (haq.up0 hs57) (fun _=>rfl) (by unfold maxLen; have hop:=oldOk_parts (by assumption:oldOk c ak aq an apt us=true); have haf:=addr_fit2 hop.2.1; have hap:=addrOk_fit hop.2.1; have hul:=userOk_len hop.2.2.1; have htn:=textI_len an; have htu:=textI_len us; have hnb:(numB apt).length=2:=rfl; simp only[List.length_append,List.length_cons,List.length_nil]; omega) (by have hop:=oldOk_parts (by assumption:oldOk c ak aq an apt us=true); have haf:=addr_fit2 hop.2.1; have hap:=addrOk_fit hop.2.1; have hul:=userOk_len hop.2.2.1; have htn:=textI_len an; have htu:=textI_len us; have hnb:(numB apt).length=2:=rfl; simp only[List.length_append,List.length_cons,List.length_nil]; omega) trivial r0 (fun A2''' c2''' w53 hs58=>?_))
   exact nk (m1 hs58 0 r0) (alc D_7_4 ⟨A2''',c2''',b7''',(zR r0),(hs58.pk [0,3,1,2] r0)⟩)
  refine dG 6 10 27 (fun f w'=>Hz f [(1,pB b1),(4,.slice A7' ((([4,c]:List Int)++(numB apt)).length) c7'),(25,.slice A7' ((([4,c]:List Int)++(numB apt)).length) c7'),(26,.slice Aaq aq.length caq),(29,Str us)]∧SH w w' [] [.blk b1 60 [I c,I ak,(Z4 Aaq aq caq),Str an,I apt,Str us],(Z63 A7' c apt c7'),(Z37 A6' apt c6')]) ?_ (fun D_7_7=>?_)
  ·rintro f w54 ⟨⟨g22,rfl⟩,hs59⟩
   refine aaL [2,7] (fa_cons ?_ (fa_one ?_))
   ·refine one_ r0 (apm (g:=I) (ys:=([4,c]:List Int)++(numB apt)) (zs:=aq) hs59 1 r0 sl24 r0 r0 r0 (haq.up0 hs59) (fun _=>rfl) (by unfold maxLen; have hop:=oldOk_parts (by assumption:oldOk c ak aq an apt us=true); have haf:=addr_fit2 hop.2.1; have hap:=addrOk_fit hop.2.1; have hul:=userOk_len hop.2.2.1; have htn:=textI_len an; have htu:=textI_len us; have hnb:(numB apt).length=2:=rfl; simp only[List.length_append,List.length_cons,List.length_nil]; omega) (by have hop:=oldOk_parts (by assumption:oldOk c ak aq an apt us=true); have haf:=addr_fit2 hop.2.1; have hap:=addrOk_fit hop.2.1; have hul:=userOk_len hop.2.2.1; have htn:=textI_len an; have htu:=textI_len us; have hnb:(numB apt).length=2:=rfl; simp only[List.length_append,List.length_cons,List.length_nil]; omega) trivial r0 (fun A2''' c2''' w55 hs60=>?_))
    exact nk (m1 hs60 0 r0) (alc D_7_5 ⟨A2''',c2''',(zR r0),(hs60.pk [0,2,1] r0)⟩)
   refine one_ r0 (bsk hs59 sl24 [I 0] [I 0] trivial r0 (fun b7''' w56 hs61=>?_))
   exact nk (m1 hs61 0 r0) (alc D_7_6 ⟨b7''',(zR r0),hs61⟩)
  have hs62:=hs14.drew
  exact tk (fuel:=6) (is:=[0,1,3,4]) (.cons r0 (.cons r0 (.cons r0 (.cons r0 (.nil))))) (by kernel_rfl) (by kernel_rfl) (m1 hs62 0 r0) (yA r0 (mv (v:=.slice A7' ((([4,c]:List Int)++(numB apt)).length) c7') r0) (yA r0 (mv (v:=.slice Aaq aq.length caq) r0) (yA r0 (fa 5 fo60_2 r0) (yB r0 (fun ⟨Lq,hsq,mh0,_⟩=>lM (Str us) hsq mh0 r0 one9) (.nil (alc D_7_7 ⟨(zR r0),hs62⟩))))))
 rintro f w57 ⟨b7''',A5''',c5''',A8''',c8''',⟨g23,rfl⟩,hs63⟩
 refine nN ?_
 have hs64:=hs63.pq [0,1] r0
 refine sq (sr (qt r0 (fa 1 fo60_1 r0) (qt r0 (fa 0 fo54_0 r0) (qt r0 (lD (I ak) hs64 0 r0 one3) (qt r0 (eqi r0 r0) (nl (nN (cdd r0 (fun h6=>?_) (fun h6=>?_)))))))))
 ·refine rg (tm (Z150 A8''' c apt aq us c8''') r0 (qt r0 (fa 1 fo60_1 r0) (qt r0 (fa 2 fo54_2 r0) (qt r0 (lD (Str an) hs64 0 r0 one9) (cS2 hs64 r0 (iTextBytes _ _ (by omega)) (fun A4 c4 w58 hs65=>?_))))))
  refine apm (g:=I) (ys:=(((([4,c]:List Int)++(numB apt))++aq)++(textI us))++([0]:List Int)) (zs:=textI an) hs65 1 r0 sl24 r0 r0 r0 (hs65.sl0 2 r0) (fun _=>rfl) (by unfold maxLen; have hop:=oldOk_parts (by assumption:oldOk c ak aq an apt us=true); have haf:=addr_fit2 hop.2.1; have hap:=addrOk_fit hop.2.1; have hul:=userOk_len hop.2.2.1; have htn:=textI_len an; have htu:=textI_len us; have hnb:(numB apt).length=2:=rfl; simp only[List.length_append,List.length_cons,List.length_nil]; omega) (by have hop:=oldOk_parts (by assumption:oldOk c ak aq an apt us=true); have haf:=addr_fit2 hop.2.1; have hap:=addrOk_fit hop.2.1; have hul:=userOk_len hop.2.2.1; have htn:=textI_len an; have htu:=textI_len us; have hnb:(numB apt).length=2:=rfl; simp only[List.length_append,List.length_cons,List.length_nil]; omega) trivial r0 (fun A5 c5 w59 hs66=>?_)
  refine bsk hs66 sl24 [I 0] [I 0] trivial r0 (fun b4 w60 hs67=>?_)
  refine apm (g:=I) (ys:=((((([4,c]:List Int)++(numB apt))++aq)++(textI us))++([0]:List Int))++(textI an)) (zs:=([0]:List Int)) hs67 2 r0 sl24 r0 r0 r0 (hs67.sl0 3 r0) (fun _=>rfl) (by unfold maxLen; have hop:=oldOk_parts (by assumption:oldOk c ak aq an apt us=true); have haf:=addr_fit2 hop.2.1; have hap:=addrOk_fit hop.2.1; have hul:=userOk_len hop.2.2.1; have htn:=textI_len an; have htu:=textI_len us; have hnb:(numB apt).length=2:=rfl; simp only[List.length_append,List.length_cons,List.length_nil]; omega) (by have hop:=oldOk_parts (by assumption:oldOk c ak aq an apt us=true); have haf:=addr_fit2 hop.2.1; have hap:=addrOk_fit hop.2.1; have hul:=userOk_len hop.2.2.1; have htn:=textI_len an; have htu:=textI_len us; have hnb:(numB apt).length=2:=rfl; simp only[List.length_append,List.length_cons,List.length_nil]; omega) trivial r0 (fun A6 c6 w61 hs68=>?_)
  refine tA (.slice A6 (((((((([4,c]:List Int)++(numB apt))++aq)++(textI us))++([0]:List Int))++(textI an))++([0]:List Int)).length) c6) r0 (nn ?_)
  have hs69:=hs68.pq [3] r0
  refine sr (tm (.slice A6 (((((((([4,c]:List Int)++(numB apt))++aq)++(textI us))++([0]:List Int))++(textI an))++([0]:List Int)).length) c6) r0 (tA (.slice A6 (((((((([4,c]:List Int)++(numB apt))++aq)++(textI us))++([0]:List Int))++(textI an))++([0]:List Int)).length) c6) r0 (tA Z35 r0 (nn (rt (fret (.tmp (.tmp .nil)) r0 ?_))))))
  have e4:oldP c ak aq an apt us=((((((([4,c]:List Int)++(numB apt))++aq)++(textI us))++([0]:List Int))++(textI an))++([0]:List Int),true):=by(exfalso; omega)
  rw[e4]
  exact⟨A6,c6,rfl,hs69⟩
 refine sk (nN (sr (tm (Z150 A8''' c apt aq us c8''') r0 (tA (Z150 A8''' c apt aq us c8''') r0 (tA Z35 r0 (nl (nN (rt (fret (.tmp (.tmp .nil)) r0 ?_)))))))))
 have e5:oldP c ak aq an apt us=((((([4,c]:List Int)++(numB apt))++aq)++(textI us))++([0]:List Int),true):=by(rw[oldP_yes ‹_›,oldB_1 ‹_›]; done)
 rw[e5]
 exact⟨A8''',c8''',rfl,(hs64.pk [1] r0)⟩
set_option maxHeartbeats 8000000 in
theorem sL4Bytes (c:Int) (ak:Int) {Aaq:Option Addr} {caq:Nat} (aq:List Int) (an:List UInt8) (apt:Int) (us:List UInt8) (w:World) (haq:Sl w [] 1 Aaq aq.length caq (aq.map I)) (han_n:an.length≤1099511627776) (hus_n:us.length≤2147483648) (hok:oldOk c ak aq an apt us=true):Does Tryz.prog 44 [.agg #[I c,I ak,.slice Aaq aq.length caq,Str an,I apt,Str us]] w (fun v w'=>∃ Ar:Option Addr,∃ cr:Nat,v=.slice Ar (oldB c ak aq an apt us).length cr∧SH w w' [] [.own Ar ((oldB c ak aq an apt us).length) cr 3 1 ((oldB c ak aq an apt us).map I)]):=by
 refine fE (N:=46) Tryz.func44 r0 (by kernel_rfl) r0 ?_
 have hs0:SH w w [] []:=SH.refl w []
 have haq_m:aq.length≤9223372036854775807:=Nat.le_trans haq.cap haq.capMax
 refine sr (bx (v:=.agg #[I c,I ak,(Z4 Aaq aq caq),Str an,I apt,Str us]) (cs:=[I c,I ak,(Z4 Aaq aq caq),Str an,I apt,Str us]) hs0 r0 r0 trivial r0 (fun b1 w1 hs1=>?_))
 refine tA ns r0 (nn (sq ?_))
 refine raJ (fun w'=>∃ L,SH w w' [] L∧(.blk b1 60 [I c,I ak,(Z4 Aaq aq caq),Str an,I apt,Str us])∈L∧True) (fun f w'=>∃ (A6':Option Addr) (c6':Nat) (A7':Option Addr) (c7':Nat),Hz f [(1,pB b1),(3,.slice A7' ((([4,c]:List Int)++(numB apt)).length) c7')]∧SH w w' [] [.blk b1 60 [I c,I ak,(Z4 Aaq aq caq),Str an,I apt,Str us],(Z63 A7' c apt c7'),(Z37 A6' apt c6')]) mixed ?_ ?_
 ·refine dG 2 9 127 (fun f w'=>∃ (b2':Nat) (A6':Option Addr) (c6':Nat),Hz f [(1,pB b1),(6,sb b2' (([4,c]:List Int).length) 2),(10,.slice A6' ((numB apt).length) c6')]∧SH w w' [] [.blk b1 60 [I c,I ak,(Z4 Aaq aq caq),Str an,I apt,Str us],oI b2' ([4,c]:List Int) 2 3,(Z37 A6' apt c6')]) ?_ (fun D_1_0=>?_)
  ·rintro f w2 ⟨b2',A6',c6',⟨g1,rfl⟩,hs2⟩
   have hop:=oldOk_parts hok
   have haf:=addr_fit2 hop.2.1
   have hap:=addrOk_fit hop.2.1
   have hul:=userOk_len hop.2.2.1
   have htn:=textI_len an
   have htu:=textI_len us
   refine aO 7 r0 (apm (g:=I) (ys:=([4,c]:List Int)) (zs:=numB apt) hs2 1 r0 sl24 r0 r0 r0 (hs2.sl0 2 r0) (fun _=>rfl) (by unfold maxLen; have hnb:(numB apt).length=2:=rfl; simp only[List.length_append,List.length_cons,List.length_nil]; omega) (by have hnb:(numB apt).length=2:=rfl; simp only[List.length_append,List.length_cons,List.length_nil]; omega) trivial r0 (fun A7' c7' w3 hs3=>?_))
   refine nk (m1 hs3 0 r0) (tk (fuel:=0) (is:=[8]) (.cons r0 (.nil)) (by kernel_rfl) (by kernel_rfl) (m1 hs3 0 r0) (yA r0 (asg (v:=.slice A7' ((([4,c]:List Int)++(numB apt)).length) c7') r0) (.nil (ad (by kernel_rfl) ?_))))
   exact⟨A6',c6',A7',c7',(zR r0),(hs3.pk [0,2,1] r0)⟩
  refine dG 3 9 63 (fun f w'=>∃ (b2':Nat),Hz f [(1,pB b1),(6,sb b2' (([4,c]:List Int).length) 2),(9,I apt)]∧SH w w' [] [.blk b1 60 [I c,I ak,(Z4 Aaq aq caq),Str an,I apt,Str us],oI b2' ([4,c]:List Int) 2 3]) ?_ (fun D_1_1=>?_)
  ·rintro f w4 ⟨b2',⟨g2,rfl⟩,hs4⟩
   refine aO 6 r0 (cL r0 (sL1Number _ _ (by have hop:=oldOk_parts hok; have haf:=addr_fit2 hop.2.1; have hap:=addrOk_fit hop.2.1; have hul:=userOk_len hop.2.2.1; have htn:=textI_len an; have htu:=textI_len us; have hnb:(numB apt).length=2:=rfl; omega)) ?_)
   rintro _ w5 ⟨A6',c6',rfl,hs5⟩
   replace hs5:=hs4.call0 hs5
   exact nk (m1 hs5 0 r0) (alc D_1_0 ⟨b2',A6',c6',(zR r0),hs5⟩)
  refine dG 3 9 123 (fun f w'=>∃ (A6':Option Addr) (c6':Nat),Hz f [(1,pB b1),(5,I c),(10,.slice A6' ((numB apt).length) c6')]∧SH w w' [] [.blk b1 60 [I c,I ak,(Z4 Aaq aq caq),Str an,I apt,Str us],(Z37 A6' apt c6')]) ?_ (fun D_1_2=>?_)
  ·rintro f w6 ⟨A6',c6',⟨g3,rfl⟩,hs6⟩
   refine aO 2 r0 (bsk hs6 sl24 [I 4,I c] [I 4,I c] trivial r0 (fun b2' w7 hs7=>?_))
   exact nk (m1 hs7 0 r0) (alc D_1_0 ⟨b2',A6',c6',(zR r0),(hs7.pk [0,2,1] r0)⟩)
  refine dG 4 9 59 (fun f w'=>Hz f [(1,pB b1),(5,I c),(9,I apt)]∧SH w w' [] [.blk b1 60 [I c,I ak,(Z4 Aaq aq caq),Str an,I apt,Str us]]) ?_ (fun D_1_3=>?_)
  ·rintro f w8 ⟨⟨g4,rfl⟩,hs8⟩
   refine aaL [2,6] (fa_cons ?_ (fa_one ?_))
   ·refine one_ r0 (bsk hs8 sl24 [I 4,I c] [I 4,I c] trivial r0 (fun b2' w9 hs9=>?_))
    exact nk (m1 hs9 0 r0) (alc D_1_1 ⟨b2',(zR r0),hs9⟩)
   refine one_ r0 (cL r0 (sL1Number _ _ (by have hop:=oldOk_parts hok; have haf:=addr_fit2 hop.2.1; have hap:=addrOk_fit hop.2.1; have hul:=userOk_len hop.2.2.1; have htn:=textI_len an; have htu:=textI_len us; have hnb:(numB apt).length=2:=rfl; omega)) ?_)
   rintro _ w10 ⟨A6',c6',rfl,hs10⟩
   replace hs10:=hs8.call0 hs10
   exact nk (m1 hs10 0 r0) (alc D_1_2 ⟨A6',c6',(zR r0),hs10⟩)
  have hs11:=hs1.drew
  exact tk (fuel:=4) (is:=[0,1,3,4,5]) (.cons r0 (.cons r0 (.cons r0 (.cons r0 (.cons r0 (.nil)))))) (by kernel_rfl) (by kernel_rfl) (m1 hs11 0 r0) (yA r0 (fa 0 fo60_0 r0) (yB r0 (fun ⟨Lq,hsq,mh0,_⟩=>lM (I c) hsq mh0 r0 one3) (yA r0 (fa 1 fo60_1 r0) (yA r0 (fa 3 fo54_3 r0) (yB r0 (fun ⟨Lq,hsq,mh0,_⟩=>lM (I apt) hsq mh0 r0 one3) (.nil (alc D_1_3 ⟨(zR r0),hs11⟩)))))))
 rintro f w11 ⟨A6',c6',A7',c7',⟨g5,rfl⟩,hs12⟩
 refine nN (sq (sr (qt r0 (fa 1 fo60_1 r0) (qt r0 (fa 0 fo54_0 r0) (qt r0 (lD (I ak) hs12 0 r0 one3) (qt r0 (eqi r0 r0) (nn (cdd r0 (fun h1=>?_) (fun h1=>?_)))))))))
 ·refine rg (tm (.slice A7' ((([4,c]:List Int)++(numB apt)).length) c7') r0 (qt r0 (fa 1 fo60_1 r0) (qt r0 (fa 1 fo54_1 r0) (qt r0 (lD (Z14 Aaq aq caq) hs12 0 r0 one24) (apm (g:=I) (ys:=([4,c]:List Int)++(numB apt)) (zs:=aq) hs12 1 r0 sl24 r0 r0 r0 (haq.up0 hs12) (fun _=>rfl) (by unfold maxLen; have hop:=oldOk_parts hok; have haf:=addr_fit2 hop.2.1; have hap:=addrOk_fit hop.2.1; have hul:=userOk_len hop.2.2.1; have htn:=textI_len an; have htu:=textI_len us; have hnb:(numB apt).length=2:=rfl; simp only[List.length_append,List.length_cons,List.length_nil]; omega) (by have hop:=oldOk_parts hok; have haf:=addr_fit2 hop.2.1; have hap:=addrOk_fit hop.2.1; have hul:=userOk_len hop.2.2.1; have htn:=textI_len an; have htu:=textI_len us; have hnb:(numB apt).length=2:=rfl; simp only[List.length_append,List.length_cons,List.length_nil]; omega) trivial r0 (fun A1 c1 w12 hs13=>?_))))))
  refine tA (.slice A1 (((([4,c]:List Int)++(numB apt))++aq).length) c1) r0 (nx (tm (.slice A1 (((([4,c]:List Int)++(numB apt))++aq).length) c1) r0 (qt r0 (fa 5 fo60_2 r0) (qt r0 (lD (Str us) hs13 0 r0 one9) (cS2 hs13 r0 (sL1Text _ _ (by omega)) (fun A2 c2 w13 hs14=>?_))))))
  refine apm (g:=I) (ys:=(([4,c]:List Int)++(numB apt))++aq) (zs:=textI us) hs14 2 r0 sl24 r0 r0 r0 (hs14.sl0 3 r0) (fun _=>rfl) (by unfold maxLen; have hop:=oldOk_parts hok; have haf:=addr_fit2 hop.2.1; have hap:=addrOk_fit hop.2.1; have hul:=userOk_len hop.2.2.1; have htn:=textI_len an; have htu:=textI_len us; have hnb:(numB apt).length=2:=rfl; simp only[List.length_append,List.length_cons,List.length_nil]; omega) (by have hop:=oldOk_parts hok; have haf:=addr_fit2 hop.2.1; have hap:=addrOk_fit hop.2.1; have hul:=userOk_len hop.2.2.1; have htn:=textI_len an; have htu:=textI_len us; have hnb:(numB apt).length=2:=rfl; simp only[List.length_append,List.length_cons,List.length_nil]; omega) trivial r0 (fun A3 c3 w14 hs15=>?_)
  refine tA (.slice A3 ((((([4,c]:List Int)++(numB apt))++aq)++(textI us)).length) c3) r0 (nn ?_)
  have hs16:=hs15.pq [0,3] r0
  refine sr (tm (.slice A3 ((((([4,c]:List Int)++(numB apt))++aq)++(textI us)).length) c3) r0 (bsk hs16 sl24 [I 0] [I 0] trivial r0 (fun b2 w15 hs17=>?_)))
  refine apm (g:=I) (ys:=((([4,c]:List Int)++(numB apt))++aq)++(textI us)) (zs:=([0]:List Int)) hs17 1 r0 sl24 r0 r0 r0 (hs17.sl0 2 r0) (fun _=>rfl) (by unfold maxLen; have hop:=oldOk_parts hok; have haf:=addr_fit2 hop.2.1; have hap:=addrOk_fit hop.2.1; have hul:=userOk_len hop.2.2.1; have htn:=textI_len an; have htu:=textI_len us; have hnb:(numB apt).length=2:=rfl; simp only[List.length_append,List.length_cons,List.length_nil]; omega) (by have hop:=oldOk_parts hok; have haf:=addr_fit2 hop.2.1; have hap:=addrOk_fit hop.2.1; have hul:=userOk_len hop.2.2.1; have htn:=textI_len an; have htu:=textI_len us; have hnb:(numB apt).length=2:=rfl; simp only[List.length_append,List.length_cons,List.length_nil]; omega) trivial r0 (fun A4 c4 w16 (hs18:SH w w16 [] [.blk b1 60 [I c,I ak,(Z4 Aaq aq caq),Str an,I apt,Str us],(Z97 b2),.own A4 (((((([4,c]:List Int)++(numB apt))++aq)++(textI us))++([0]:List Int)).length) c4 3 1 (((((([4,c]:List Int)++(numB apt))++aq)++(textI us))++([0]:List Int)).map I)])=>?_)
  refine tA (.slice A4 (((((([4,c]:List Int)++(numB apt))++aq)++(textI us))++([0]:List Int)).length) c4) r0 (nn (sq (sr (qt r0 (fa 1 fo60_1 r0) (qt r0 (fa 0 fo54_0 r0) (qt r0 (lD (I ak) hs18 0 r0 one3) (qt r0 (eqi r0 r0) (nn (cdd r0 (fun h2=>?_) (fun h2=>?_))))))))))
  ·refine sr (tm (.slice A4 (((((([4,c]:List Int)++(numB apt))++aq)++(textI us))++([0]:List Int)).length) c4) r0 (qt r0 (fa 1 fo60_1 r0) (qt r0 (fa 2 fo54_2 r0) (qt r0 (lD (Str an) hs18 0 r0 one9) (cS2 hs18 r0 (sL1Text _ _ (by omega)) (fun A5 c5 w17 hs19=>?_))))))
   refine apm (g:=I) (ys:=(((([4,c]:List Int)++(numB apt))++aq)++(textI us))++([0]:List Int)) (zs:=textI an) hs19 2 r0 sl24 r0 r0 r0 (hs19.sl0 3 r0) (fun _=>rfl) (by unfold maxLen; have hop:=oldOk_parts hok; have haf:=addr_fit2 hop.2.1; have hap:=addrOk_fit hop.2.1; have hul:=userOk_len hop.2.2.1; have htn:=textI_len an; have htu:=textI_len us; have hnb:(numB apt).length=2:=rfl; simp only[List.length_append,List.length_cons,List.length_nil]; omega) (by have hop:=oldOk_parts hok; have haf:=addr_fit2 hop.2.1; have hap:=addrOk_fit hop.2.1; have hul:=userOk_len hop.2.2.1; have htn:=textI_len an; have htu:=textI_len us; have hnb:(numB apt).length=2:=rfl; simp only[List.length_append,List.length_cons,List.length_nil]; omega) trivial r0 (fun A6 c6 w18 hs20=>?_)
   refine tA (.slice A6 ((((((([4,c]:List Int)++(numB apt))++aq)++(textI us))++([0]:List Int))++(textI an)).length) c6) r0 (nn ?_)
   have hs21:=hs20.pq [3] r0
   refine rg (tm (.slice A6 ((((((([4,c]:List Int)++(numB apt))++aq)++(textI us))++([0]:List Int))++(textI an)).length) c6) r0 (bsk hs21 sl24 [I 0] [I 0] trivial r0 (fun b3 w19 hs22=>?_)))
   refine apm (g:=I) (ys:=((((([4,c]:List Int)++(numB apt))++aq)++(textI us))++([0]:List Int))++(textI an)) (zs:=([0]:List Int)) hs22 0 r0 sl24 r0 r0 r0 (hs22.sl0 1 r0) (fun _=>rfl) (by unfold maxLen; have hop:=oldOk_parts hok; have haf:=addr_fit2 hop.2.1; have hap:=addrOk_fit hop.2.1; have hul:=userOk_len hop.2.2.1; have htn:=textI_len an; have htu:=textI_len us; have hnb:(numB apt).length=2:=rfl; simp only[List.length_append,List.length_cons,List.length_nil]; omega) (by have hop:=oldOk_parts hok; have haf:=addr_fit2 hop.2.1; have hap:=addrOk_fit hop.2.1; have hul:=userOk_len hop.2.2.1; have htn:=textI_len an; have htu:=textI_len us; have hnb:(numB apt).length=2:=rfl; simp only[List.length_append,List.length_cons,List.length_nil]; omega) trivial r0 (fun A7 c7 w20 hs23=>?_)
   refine tA (.slice A7 (((((((([4,c]:List Int)++(numB apt))++aq)++(textI us))++([0]:List Int))++(textI an))++([0]:List Int)).length) c7) r0 (nx (tm (.slice A7 (((((((([4,c]:List Int)++(numB apt))++aq)++(textI us))++([0]:List Int))++(textI an))++([0]:List Int)).length) c7) r0 (tA (.slice A7 (((((((([4,c]:List Int)++(numB apt))++aq)++(textI us))++([0]:List Int))++(textI an))++([0]:List Int)).length) c7) r0 (nl (nN (rt (fT (.slice A7 (((((((([4,c]:List Int)++(numB apt))++aq)++(textI us))++([0]:List Int))++(textI an))++([0]:List Int)).length) c7) r0 ?_)))))))
   have e1:(((((([4,c]:List Int)++(numB apt))++aq)++(textI us))++([0]:List Int))++(textI an))++([0]:List Int)=oldB c ak aq an apt us:=by(have hop:=oldOk_parts hok; have haf:=addr_fit2 hop.2.1; have hap:=addrOk_fit hop.2.1; have hul:=userOk_len hop.2.2.1; have htn:=textI_len an; have htu:=textI_len us; have hnb:(numB apt).length=2:=rfl; have h13:=haf.1; simp[oldB,h1,h2] <;> omega)
   have e2:=congrArg List.length e1
   exact⟨A7,c7,(slv r0 e2 r0),((hs23.pq [1] r0).cast (lc (own_eq (g:=I) r0 e2 r0 e1) r0))⟩
  refine sk (nN (sr (tm (.slice A4 (((((([4,c]:List Int)++(numB apt))++aq)++(textI us))++([0]:List Int)).length) c4) r0 (tA (.slice A4 (((((([4,c]:List Int)++(numB apt))++aq)++(textI us))++([0]:List Int)).length) c4) r0 (nn (rt (fT (.slice A4 (((((([4,c]:List Int)++(numB apt))++aq)++(textI us))++([0]:List Int)).length) c4) r0 ?_)))))))
  have e3:(((([4,c]:List Int)++(numB apt))++aq)++(textI us))++([0]:List Int)=oldB c ak aq an apt us:=by(rw[oldB_1 (by omega)]; done)
  have e4:=congrArg List.length e3
  exact⟨A4,c4,(slv r0 e4 r0),((hs18.pq [2] r0).cast (lc (own_eq (g:=I) r0 e4 r0 e3) r0))⟩
 refine rg (tm (.slice A7' ((([4,c]:List Int)++(numB apt)).length) c7') r0 (bsk hs12 sl24 Z148 Z148 trivial r0 (fun b4 w21 (hs24:SH w w21 [] [.blk b1 60 [I c,I ak,(Z4 Aaq aq caq),Str an,I apt,Str us],(Z63 A7' c apt c7'),(Z37 A6' apt c6'),(Z84 b4)])=>?_)))
 refine apm (g:=I) (ys:=([4,c]:List Int)++(numB apt)) (zs:=([0,0,0,1]:List Int)) hs24 1 r0 sl24 r0 r0 r0 (hs24.sl0 3 r0) (fun _=>rfl) (by unfold maxLen; have hop:=oldOk_parts hok; have haf:=addr_fit2 hop.2.1; have hap:=addrOk_fit hop.2.1; have hul:=userOk_len hop.2.2.1; have htn:=textI_len an; have htu:=textI_len us; have hnb:(numB apt).length=2:=rfl; simp only[List.length_append,List.length_cons,List.length_nil]; omega) (by have hop:=oldOk_parts hok; have haf:=addr_fit2 hop.2.1; have hap:=addrOk_fit hop.2.1; have hul:=userOk_len hop.2.2.1; have htn:=textI_len an; have htu:=textI_len us; have hnb:(numB apt).length=2:=rfl; simp only[List.length_append,List.length_cons,List.length_nil]; omega) trivial r0 (fun A8 c8 w22 hs25=>?_)
 refine tA (.slice A8 (((([4,c]:List Int)++(numB apt))++([0,0,0,1]:List Int)).length) c8) r0 (nn ?_)
 have hs26:=hs25.pq [0,3] r0
 refine sr (tm (.slice A8 (((([4,c]:List Int)++(numB apt))++([0,0,0,1]:List Int)).length) c8) r0 (qt r0 (fa 5 fo60_2 r0) (qt r0 (lD (Str us) hs26 0 r0 one9) (cS2 hs26 r0 (sL1Text _ _ (by omega)) (fun A9 c9 w23 hs27=>?_)))))
 refine apm (g:=I) (ys:=(([4,c]:List Int)++(numB apt))++([0,0,0,1]:List Int)) (zs:=textI us) hs27 1 r0 sl24 r0 r0 r0 (hs27.sl0 2 r0) (fun _=>rfl) (by unfold maxLen; have hop:=oldOk_parts hok; have haf:=addr_fit2 hop.2.1; have hap:=addrOk_fit hop.2.1; have hul:=userOk_len hop.2.2.1; have htn:=textI_len an; have htu:=textI_len us; have hnb:(numB apt).length=2:=rfl; simp only[List.length_append,List.length_cons,List.length_nil]; omega) (by have hop:=oldOk_parts hok; have haf:=addr_fit2 hop.2.1; have hap:=addrOk_fit hop.2.1; have hul:=userOk_len hop.2.2.1; have htn:=textI_len an; have htu:=textI_len us; have hnb:(numB apt).length=2:=rfl; simp only[List.length_append,List.length_cons,List.length_nil]; omega) trivial r0 (fun A10 c10 w24 hs28=>?_)
 refine tA (.slice A10 ((((([4,c]:List Int)++(numB apt))++([0,0,0,1]:List Int))++(textI us)).length) c10) r0 (nx (tm (.slice A10 ((((([4,c]:List Int)++(numB apt))++([0,0,0,1]:List Int))++(textI us)).length) c10) r0 (bsk hs28 sl24 [I 0] [I 0] trivial r0 (fun b5 w25 hs29=>?_))))
 refine apm (g:=I) (ys:=((([4,c]:List Int)++(numB apt))++([0,0,0,1]:List Int))++(textI us)) (zs:=([0]:List Int)) hs29 2 r0 sl24 r0 r0 r0 (hs29.sl0 3 r0) (fun _=>rfl) (by unfold maxLen; have hop:=oldOk_parts hok; have haf:=addr_fit2 hop.2.1; have hap:=addrOk_fit hop.2.1; have hul:=userOk_len hop.2.2.1; have htn:=textI_len an; have htu:=textI_len us; have hnb:(numB apt).length=2:=rfl; simp only[List.length_append,List.length_cons,List.length_nil]; omega) (by have hop:=oldOk_parts hok; have haf:=addr_fit2 hop.2.1; have hap:=addrOk_fit hop.2.1; have hul:=userOk_len hop.2.2.1; have htn:=textI_len an; have htu:=textI_len us; have hnb:(numB apt).length=2:=rfl; simp only[List.length_append,List.length_cons,List.length_nil]; omega) trivial r0 (fun A11 c11 w26 (hs30:SH w w26 [] [.blk b1 60 [I c,I ak,(Z4 Aaq aq caq),Str an,I apt,Str us],.own A9 ((textI us).length) c9 3 1 ((textI us).map I),(Z97 b5),.own A11 (((((([4,c]:List Int)++(numB apt))++([0,0,0,1]:List Int))++(textI us))++([0]:List Int)).length) c11 3 1 (((((([4,c]:List Int)++(numB apt))++([0,0,0,1]:List Int))++(textI us))++([0]:List Int)).map I)])=>?_)
 refine tA (.slice A11 (((((([4,c]:List Int)++(numB apt))++([0,0,0,1]:List Int))++(textI us))++([0]:List Int)).length) c11) r0 (nn ?_)
 have hs31:=hs30.pq [0,3] r0
 refine sq (sr (qt r0 (fa 1 fo60_1 r0) (qt r0 (fa 0 fo54_0 r0) (qt r0 (lD (I ak) hs31 0 r0 one3) (qt r0 (eqi r0 r0) (nl (nN (cdd r0 (fun h3=>?_) (fun h3=>?_)))))))))
 ·refine sr (tm (.slice A11 (((((([4,c]:List Int)++(numB apt))++([0,0,0,1]:List Int))++(textI us))++([0]:List Int)).length) c11) r0 (qt r0 (fa 1 fo60_1 r0) (qt r0 (fa 2 fo54_2 r0) (qt r0 (lD (Str an) hs31 0 r0 one9) (cS2 hs31 r0 (sL1Text _ _ (by(have hop:=oldOk_parts hok; have haf:=addr_fit2 hop.2.1; have hap:=addrOk_fit hop.2.1; have hul:=userOk_len hop.2.2.1; have htn:=textI_len an; have htu:=textI_len us; have hnb:(numB apt).length=2:=rfl; omega))) (fun A12 c12 w27 hs32=>?_))))))
  refine apm (g:=I) (ys:=(((([4,c]:List Int)++(numB apt))++([0,0,0,1]:List Int))++(textI us))++([0]:List Int)) (zs:=textI an) hs32 1 r0 sl24 r0 r0 r0 (hs32.sl0 2 r0) (fun _=>rfl) (by unfold maxLen; have hop:=oldOk_parts hok; have haf:=addr_fit2 hop.2.1; have hap:=addrOk_fit hop.2.1; have hul:=userOk_len hop.2.2.1; have htn:=textI_len an; have htu:=textI_len us; have hnb:(numB apt).length=2:=rfl; simp only[List.length_append,List.length_cons,List.length_nil]; omega) (by have hop:=oldOk_parts hok; have haf:=addr_fit2 hop.2.1; have hap:=addrOk_fit hop.2.1; have hul:=userOk_len hop.2.2.1; have htn:=textI_len an; have htu:=textI_len us; have hnb:(numB apt).length=2:=rfl; simp only[List.length_append,List.length_cons,List.length_nil]; omega) trivial r0 (fun A13 c13 w28 hs33=>?_)
  refine tA (.slice A13 ((((((([4,c]:List Int)++(numB apt))++([0,0,0,1]:List Int))++(textI us))++([0]:List Int))++(textI an)).length) c13) r0 (nn (rg (tm (.slice A13 ((((((([4,c]:List Int)++(numB apt))++([0,0,0,1]:List Int))++(textI us))++([0]:List Int))++(textI an)).length) c13) r0 (bsk hs33 sl24 [I 0] [I 0] trivial r0 (fun b6 w29 hs34=>?_)))))
  refine apm (g:=I) (ys:=((((([4,c]:List Int)++(numB apt))++([0,0,0,1]:List Int))++(textI us))++([0]:List Int))++(textI an)) (zs:=([0]:List Int)) hs34 2 r0 sl24 r0 r0 r0 (hs34.sl0 3 r0) (fun _=>rfl) (by unfold maxLen; have hop:=oldOk_parts hok; have haf:=addr_fit2 hop.2.1; have hap:=addrOk_fit hop.2.1; have hul:=userOk_len hop.2.2.1; have htn:=textI_len an; have htu:=textI_len us; have hnb:(numB apt).length=2:=rfl; simp only[List.length_append,List.length_cons,List.length_nil]; omega) (by have hop:=oldOk_parts hok; have haf:=addr_fit2 hop.2.1; have hap:=addrOk_fit hop.2.1; have hul:=userOk_len hop.2.2.1; have htn:=textI_len an; have htu:=textI_len us; have hnb:(numB apt).length=2:=rfl; simp only[List.length_append,List.length_cons,List.length_nil]; omega) trivial r0 (fun A14 c14 w30 hs35=>?_)
  refine tA (.slice A14 (((((((([4,c]:List Int)++(numB apt))++([0,0,0,1]:List Int))++(textI us))++([0]:List Int))++(textI an))++([0]:List Int)).length) c14) r0 (nn ?_)
  have hs36:SH w w30 [] [.own A14 (((((((([4,c]:List Int)++(numB apt))++([0,0,0,1]:List Int))++(textI us))++([0]:List Int))++(textI an))++([0]:List Int)).length) c14 3 1 (((((((([4,c]:List Int)++(numB apt))++([0,0,0,1]:List Int))++(textI us))++([0]:List Int))++(textI an))++([0]:List Int)).map I)]:=hs35.pk [3] r0
  refine sr (tm (.slice A14 (((((((([4,c]:List Int)++(numB apt))++([0,0,0,1]:List Int))++(textI us))++([0]:List Int))++(textI an))++([0]:List Int)).length) c14) r0 (tA (.slice A14 (((((((([4,c]:List Int)++(numB apt))++([0,0,0,1]:List Int))++(textI us))++([0]:List Int))++(textI an))++([0]:List Int)).length) c14) r0 (nn (rt (fT (.slice A14 (((((((([4,c]:List Int)++(numB apt))++([0,0,0,1]:List Int))++(textI us))++([0]:List Int))++(textI an))++([0]:List Int)).length) c14) r0 ?_)))))
  have e5:(((((([4,c]:List Int)++(numB apt))++([0,0,0,1]:List Int))++(textI us))++([0]:List Int))++(textI an))++([0]:List Int)=oldB c ak aq an apt us:=by(rw[oldB_3 ‹_›]; done)
  have e6:=congrArg List.length e5
  exact⟨A14,c14,(slv r0 e6 r0),(hs36.cast (lc (own_eq (g:=I) r0 e6 r0 e5) r0))⟩
 refine sk (nN (sr (tm (.slice A11 (((((([4,c]:List Int)++(numB apt))++([0,0,0,1]:List Int))++(textI us))++([0]:List Int)).length) c11) r0 (tA (.slice A11 (((((([4,c]:List Int)++(numB apt))++([0,0,0,1]:List Int))++(textI us))++([0]:List Int)).length) c11) r0 (nn (rt (fT (.slice A11 (((((([4,c]:List Int)++(numB apt))++([0,0,0,1]:List Int))++(textI us))++([0]:List Int)).length) c11) r0 ?_)))))))
 have e7:(((([4,c]:List Int)++(numB apt))++([0,0,0,1]:List Int))++(textI us))++([0]:List Int)=oldB c ak aq an apt us:=by(have hop:=oldOk_parts hok; have haf:=addr_fit2 hop.2.1; have hap:=addrOk_fit hop.2.1; have hul:=userOk_len hop.2.2.1; have htn:=textI_len an; have htu:=textI_len us; have hnb:(numB apt).length=2:=rfl; have h13:=haf.1; simp[oldB,h1,h3] <;> omega)
 have e8:=congrArg List.length e7
 exact⟨A11,c11,(slv r0 e8 r0),((hs31.pq [1] r0).cast (lc (own_eq (g:=I) r0 e8 r0 e7) r0))⟩
theorem sOldBytes (c:Int) (ak:Int) {Aaq:Option Addr} {caq:Nat} (aq:List Int) (an:List UInt8) (apt:Int) (us:List UInt8) (w:World) (haq:Sl w [] 1 Aaq aq.length caq (aq.map I)) (han_n:an.length≤1099511627776) (hus_n:us.length≤2147483648):Does Tryz.prog 18 [.agg #[I c,I ak,.slice Aaq aq.length caq,Str an,I apt,Str us]] w (fun v w'=>∃ Ar:Option Addr,∃ cr:Nat,v=.tuple #[.slice Ar ((oldP c ak aq an apt us).1).length cr,.bool ((oldP c ak aq an apt us).2)]∧SH w w' [] [.own Ar (((oldP c ak aq an apt us).1).length) cr 3 1 (((oldP c ak aq an apt us).1).map I)]):=by
 refine fE (N:=10) Tryz.func18 r0 (by kernel_rfl) r0 ?_
 have hs0:=SH.refl w []
 have haq_m:aq.length≤9223372036854775807:=Nat.le_trans haq.cap haq.capMax
 refine sr (bx (v:=.agg #[I c,I ak,(Z4 Aaq aq caq),Str an,I apt,Str us]) (cs:=[I c,I ak,(Z4 Aaq aq caq),Str an,I apt,Str us]) hs0 r0 r0 trivial r0 (fun b1 w1 hs1=>?_))
 refine tA ns r0 (tA Z6 r0 (nn (sq (sr (qt r0 (lG [I c,I ak,(Z4 Aaq aq caq),Str an,I apt,Str us] hs1 0 r0 ag60) (cS hs1 r0 (sL4Ok _ _ _ _ _ _ _ (haq.up0 hs1) (by omega) (by omega)) (fun w2 hs2=>?_)))))))
 refine qt r0 (nt r0) (nn (cd r0 (fun h1=>?_) (fun h1=>?_)))
 ·have h2:=nbF h1
  refine sr (bsk hs2 sl24 [] [] trivial r0 (fun b2 w3 hs3=>?_))
  refine tA (sb b2 (([]:List Int).length) 0) r0 (tA Z6 r0 (nn (rt (tR (fret (.tmp (.tmp .nil)) r0 ?_)))))
  have e1:oldP c ak aq an apt us=(([]:List Int),false):=by simp[oldP,h2]
  rw[e1]
  exact⟨(Z8 b2),0,rfl,(hs3.pk [1] r0)⟩
 have h3:=nbT h1
 refine sk (nN (sr (qt r0 (lG [I c,I ak,(Z4 Aaq aq caq),Str an,I apt,Str us] hs2 0 r0 ag60) (cS2 hs2 r0 (sL4Bytes _ _ _ _ _ _ _ (haq.up0 hs2) (by omega) (by omega) (by omega)) (fun A1 c1 w4 hs4=>?_)))))
 refine tA (.slice A1 ((oldB c ak aq an apt us).length) c1) r0 (tA Z35 r0 (nn (rt (fret (.tmp (.tmp .nil)) r0 ?_))))
 have e2:oldP c ak aq an apt us=(oldB c ak aq an apt us,true):=by simp[oldP,h3]
 rw[e2]
 exact⟨A1,c1,rfl,(hs4.pk [1] r0)⟩
theorem iConnectText (ak:Int) {Aaq:Option Addr} {caq:Nat} (aq:List Int) (an:List UInt8) (apt:Int) (w:World) (haq:Sl w [] 1 Aaq aq.length caq (aq.map I)) (han_n:an.length≤1099511627776) (hGp:VarP Tryz.prog w [] "internal/strconv.uint64pow10" isPow):Does Tryz.prog 176 [.agg #[I ak,.slice Aaq aq.length caq,Str an,I apt]] w (fun v w'=>v=Str (connT ak aq an apt)∧SH w w' [] []):=by
 refine fE (N:=14) Tryz.func176 r0 (by kernel_rfl) r0 ?_
 have hs0:=SH.refl w []
 have haq_m:aq.length≤9223372036854775807:=Nat.le_trans haq.cap haq.capMax
 refine sr (bx (v:=.agg #[I ak,(Z4 Aaq aq caq),Str an,I apt]) (cs:=[I ak,(Z4 Aaq aq caq),Str an,I apt]) hs0 r0 r0 trivial r0 (fun b1 w1 hs1=>?_))
 refine tA (Str []) r0 (nx (qt r0 (lG [I ak,(Z4 Aaq aq caq),Str an,I apt] hs1 0 r0 ag54) (cS hs1 r0 (iAddressTextQ _ _ _ _ _ (haq.up0 hs1) (by omega) (hGp.up0 hs1)) (fun w2 hs2=>?_))))
 refine tA (Str (addrT ak aq an apt)) r0 (nn (sq (sr (tm (Str (addrT ak aq an apt)) r0 (qt r0 (eqs r0 r0) (nn (cdd r0 (fun h1=>?_) (fun h1=>?_))))))))
 ·exact sr (tA (Str []) r0 (nn (rt (tR (fS r0 (by(have hx:=addrT_nil.1 (by assumption:addrT ak aq an apt=[]); simp[connT,hx]; done)) (hs2.pk [] r0))))))
 refine sk (nN (sr (tm (Str (addrT ak aq an apt)) r0 (qt r0 (cat r0 r0 (by have hat:=addrT_len ak aq an apt; simp only[List.length_append,List.length_cons,List.length_nil]; omega)) (qt r0 (cat r0 r0 (by have hat:=addrT_len ak aq an apt; simp only[List.length_append,List.length_cons,List.length_nil]; omega)) (tm (Str (addrT ak aq an apt)) r0 (qt r0 (cat r0 r0 (by have hat:=addrT_len ak aq an apt; simp only[List.length_append,List.length_cons,List.length_nil]; omega)) (qt r0 (cat r0 r0 (by have hat:=addrT_len ak aq an apt; simp only[List.length_append,List.length_cons,List.length_nil]; omega)) (tA (Str (((([67,79,78,78,69,67,84,32]++(addrT ak aq an apt))++[32,72,84,84,80,47,49,46,49,13,10,72,111,115,116,58,32])++(addrT ak aq an apt))++[13,10,13,10])) r0 (nn (rt (fT (Str (((([67,79,78,78,69,67,84,32]++(addrT ak aq an apt))++[32,72,84,84,80,47,49,46,49,13,10,72,111,115,116,58,32])++(addrT ak aq an apt))++[13,10,13,10])) r0 ?_))))))))))))
 have e2:((([67,79,78,78,69,67,84,32]++(addrT ak aq an apt))++[32,72,84,84,80,47,49,46,49,13,10,72,111,115,116,58,32])++(addrT ak aq an apt))++[13,10,13,10]=connT ak aq an apt:=by(have hx:addrOk ak aq an apt=true:=(by rcases Bool.eq_false_or_eq_true (addrOk ak aq an apt) with hh | hh; exact hh; exact absurd (addrT_nil.2 hh) ‹_›); simp[connT,connW,hx]; done)
 exact⟨(congrArg (Str) e2),(hs2.pk [] r0)⟩
set_option maxHeartbeats 8000000 in
theorem sAddressText (ak:Int) {Aaq:Option Addr} {caq:Nat} (aq:List Int) (an:List UInt8) (apt:Int) (w:World) (haq:Sl w [] 1 Aaq aq.length caq (aq.map I)) (han_n:an.length≤1099511627776):Does Tryz.prog 42 [.agg #[I ak,.slice Aaq aq.length caq,Str an,I apt]] w (fun v w'=>v=Str (addrT ak aq an apt)∧SH w w' [] []):=by
 refine fE (N:=13) Tryz.func42 r0 (by kernel_rfl) r0 ?_
 have hs0:=SH.refl w []
 have haq_m:aq.length≤9223372036854775807:=Nat.le_trans haq.cap haq.capMax
 refine sr (bx (v:=.agg #[I ak,(Z4 Aaq aq caq),Str an,I apt]) (cs:=[I ak,(Z4 Aaq aq caq),Str an,I apt]) hs0 r0 r0 trivial r0 (fun b1 w1 hs1=>?_))
 refine tA (Str []) r0 (nn (sq (sr (qt r0 (lG [I ak,(Z4 Aaq aq caq),Str an,I apt] hs1 0 r0 ag54) (cS hs1 r0 (sAddressValid _ _ _ _ _ (haq.up0 hs1) (by omega)) (fun w2 hs2=>?_))))))
 refine qt r0 (nt r0) (nn (cd r0 (fun h1=>?_) (fun h1=>?_)))
 ·have h2:=nbF h1
  exact sr (tA (Str []) r0 (nn (rt (tR (fS r0 (by simp[addrT,h2]) (hs2.pk [] r0))))))
 have h3:=nbT h1
 refine sk (nN (sq (rq (fun w'=>SH w w' [] [.blk b1 54 [I ak,(Z4 Aaq aq caq),Str an,I apt]]) mixed (by kernel_rfl) hs2.drew (qB r0 (fun hsq=>lG [I ak,(Z4 Aaq aq caq),Str an,I apt] hsq 0 r0 ag54) (qc (Str (hostT ak aq an)) trivial r0 (fun wq hsq=>(sL3Host _ _ _ _ _ (haq.up0 hsq) (by omega) (by omega)).mono (fun v w' h=>⟨h.1,by simpa using hsq.call0 h.2⟩)) (qA r0 (cat r0 r0 (by have haf:=addrOk_fit (by assumption:addrOk ak aq an apt=true); have hhl:=hostT_len (by assumption:addrOk ak aq an apt=true); have hil:=Lib.itoa_length_le apt (by omega) (by omega); simp only[List.length_append,List.length_cons,List.length_nil]; omega)) (qA r0 (fa 3 fo54_3 r0) (qB r0 (fun hsq=>lD (I apt) hsq 0 r0 one3) (qc (Str (Lib.itoa apt)) trivial r0 (fun wq hsq=>(l6Dec _ _ (by have haf:=addrOk_fit (by assumption:addrOk ak aq an apt=true); omega)).mono (fun v w' h=>⟨h.1,by simpa using hsq.call0 h.2⟩)) (qA r0 (cat r0 r0 (by have haf:=addrOk_fit (by assumption:addrOk ak aq an apt=true); have hhl:=hostT_len (by assumption:addrOk ak aq an apt=true); have hil:=Lib.itoa_length_le apt (by omega) (by omega); simp only[List.length_append,List.length_cons,List.length_nil]; omega)) (qA r0 (asg (v:=Str (((hostT ak aq an)++[58])++(Lib.itoa apt))) r0) (qn (fun w3 hs3=>?_)))))))))))))
 refine nN (rt (fT (Str (((hostT ak aq an)++[58])++(Lib.itoa apt))) r0 ?_))
 have e2:((hostT ak aq an)++[58])++(Lib.itoa apt)=addrT ak aq an apt:=by simp[addrT,h3]
 exact⟨(congrArg (Str) e2),(hs3.pk [] r0)⟩
theorem sL14Connect (s:List UInt8) (w:World) (hs_n:s.length≤2000):Does Tryz.prog 189 [Str s] w (fun v w'=>v=Str (connW s)∧SH w w' [] []):=by
 refine fE (N:=9) Tryz.func189 r0 (by kernel_rfl) r0 ?_
 have hs0:=SH.refl w []
 refine sr (tA (Str []) r0 (nx (tm (Str s) r0 (qt r0 (cat r0 r0 (by simp only[List.length_append,List.length_cons,List.length_nil]; omega)) (qt r0 (cat r0 r0 (by simp only[List.length_append,List.length_cons,List.length_nil]; omega)) (tm (Str s) r0 (qt r0 (cat r0 r0 (by simp only[List.length_append,List.length_cons,List.length_nil]; omega)) (qt r0 (cat r0 r0 (by simp only[List.length_append,List.length_cons,List.length_nil]; omega)) (tA (Str (((([67,79,78,78,69,67,84,32]++s)++[32,72,84,84,80,47,49,46,49,13,10,72,111,115,116,58,32])++s)++[13,10,13,10])) r0 (nn (rt (fT (Str (((([67,79,78,78,69,67,84,32]++s)++[32,72,84,84,80,47,49,46,49,13,10,72,111,115,116,58,32])++s)++[13,10,13,10])) r0 ?_))))))))))))
 have e1:((([67,79,78,78,69,67,84,32]++s)++[32,72,84,84,80,47,49,46,49,13,10,72,111,115,116,58,32])++s)++[13,10,13,10]=connW s:=by simp[connW]
 exact⟨(congrArg (Str) e1),hs0⟩
theorem sConnectText (ak:Int) {Aaq:Option Addr} {caq:Nat} (aq:List Int) (an:List UInt8) (apt:Int) (w:World) (haq:Sl w [] 1 Aaq aq.length caq (aq.map I)) (han_n:an.length≤1099511627776):Does Tryz.prog 143 [.agg #[I ak,.slice Aaq aq.length caq,Str an,I apt]] w (fun v w'=>v=Str (connT ak aq an apt)∧SH w w' [] []):=by
 refine fE (N:=9) Tryz.func143 r0 (by kernel_rfl) r0 ?_
 have hs0:=SH.refl w []
 have haq_m:aq.length≤9223372036854775807:=Nat.le_trans haq.cap haq.capMax
 refine sr (bx (v:=.agg #[I ak,(Z4 Aaq aq caq),Str an,I apt]) (cs:=[I ak,(Z4 Aaq aq caq),Str an,I apt]) hs0 r0 r0 trivial r0 (fun b1 w1 hs1=>?_))
 refine tA (Str []) r0 (nn (sq (sr (qt r0 (lG [I ak,(Z4 Aaq aq caq),Str an,I apt] hs1 0 r0 ag54) (cS hs1 r0 (sAddressValid _ _ _ _ _ (haq.up0 hs1) (by omega)) (fun w2 hs2=>?_))))))
 refine qt r0 (nt r0) (nn (cd r0 (fun h1=>?_) (fun h1=>?_)))
 ·have h2:=nbF h1
  exact sr (tA (Str []) r0 (nn (rt (tR (fS r0 (by simp[connT,h2]) (hs2.pk [] r0))))))
 have h3:=nbT h1
 refine sk (nN (sr (qt r0 (lG [I ak,(Z4 Aaq aq caq),Str an,I apt] hs2 0 r0 ag54) (cS hs2 r0 (sAddressText _ _ _ _ _ (haq.up0 hs2) (by omega)) (fun w3 hs3=>?_)))))
 refine cS hs3 r0 (sL14Connect _ _ (by(have hat:=addrT_len ak aq an apt; omega))) (fun w4 hs4=>?_)
 refine tA (Str (connW (addrT ak aq an apt))) r0 (nn (rt (fT (Str (connW (addrT ak aq an apt))) r0 ?_)))
 have e2:connW (addrT ak aq an apt)=connT ak aq an apt:=by simp[connT,h3]
 exact⟨(congrArg (Str) e2),(hs4.pk [] r0)⟩

end Go.Proofs.YtbopieehnmljkaaGreatDoor
