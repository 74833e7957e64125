/-
  Part of the proofs over this seat: what each function of the program computes, function by function (the text is written by a program of this hand-in's own).
  Conditions: each theorem states its own.
-/
import Derived.Test.YtjehmnojfpedjaaGreatDoorProg
import Derived.KernelRfl
import Derived.Test.YtjehmnojfpedjaaGreatDoorPfModel
import Derived.Test.YtjehmnojfpedjaaGreatDoorPfShelf
namespace Go.Proofs.YtjehmnojfpedjaaGreatDoor
open Go.PF
set_option maxRecDepth 100000
set_option linter.unusedSimpArgs false
set_option linter.unusedVariables false

theorem ag25:aggOk Tryz.prog 25 4=true:=by kernel_rfl
theorem ag29:aggOk Tryz.prog 29 4=true:=by kernel_rfl
theorem ag43:aggOk Tryz.prog 43 4=true:=by kernel_rfl
theorem ag45:aggOk Tryz.prog 45 5=true:=by kernel_rfl
theorem ag51:aggOk Tryz.prog 51 2=true:=by kernel_rfl
theorem ag53:aggOk Tryz.prog 53 7=true:=by kernel_rfl
theorem ag63:aggOk Tryz.prog 63 2=true:=by kernel_rfl
theorem ag64:aggOk Tryz.prog 64 4=true:=by kernel_rfl
theorem ag66:aggOk Tryz.prog 66 7=true:=by kernel_rfl
theorem fo133_0:fieldOk Tryz.prog 133 0 0=true:=by kernel_rfl
theorem fo133_1:fieldOk Tryz.prog 133 1 1=true:=by kernel_rfl
theorem fo133_2:fieldOk Tryz.prog 133 2 2=true:=by kernel_rfl
theorem fo181_1:fieldOk Tryz.prog 181 1 1=true:=by kernel_rfl
theorem fo25_0:fieldOk Tryz.prog 25 0 0=true:=by kernel_rfl
theorem fo25_1:fieldOk Tryz.prog 25 1 1=true:=by kernel_rfl
theorem fo25_2:fieldOk Tryz.prog 25 2 2=true:=by kernel_rfl
theorem fo25_3:fieldOk Tryz.prog 25 3 3=true:=by kernel_rfl
theorem fo29_0:fieldOk Tryz.prog 29 0 0=true:=by kernel_rfl
theorem fo29_1:fieldOk Tryz.prog 29 1 1=true:=by kernel_rfl
theorem fo29_2:fieldOk Tryz.prog 29 2 2=true:=by kernel_rfl
theorem fo29_3:fieldOk Tryz.prog 29 3 3=true:=by kernel_rfl
theorem fo43_0:fieldOk Tryz.prog 43 0 0=true:=by kernel_rfl
theorem fo43_1:fieldOk Tryz.prog 43 1 1=true:=by kernel_rfl
theorem fo43_2:fieldOk Tryz.prog 43 2 2=true:=by kernel_rfl
theorem fo43_3:fieldOk Tryz.prog 43 3 3=true:=by kernel_rfl
theorem fo45_0:fieldOk Tryz.prog 45 0 0=true:=by kernel_rfl
theorem fo45_1:fieldOk Tryz.prog 45 1 1=true:=by kernel_rfl
theorem fo51_0:fieldOk Tryz.prog 51 0 0=true:=by kernel_rfl
theorem fo51_1:fieldOk Tryz.prog 51 1 1=true:=by kernel_rfl
theorem fo53_0:fieldOk Tryz.prog 53 0 0=true:=by kernel_rfl
theorem fo53_1:fieldOk Tryz.prog 53 1 1=true:=by kernel_rfl
theorem fo53_2:fieldOk Tryz.prog 53 2 3=true:=by kernel_rfl
theorem fo63_0:fieldOk Tryz.prog 63 0 0=true:=by kernel_rfl
theorem fo63_1:fieldOk Tryz.prog 63 1 1=true:=by kernel_rfl
theorem fo64_0:fieldOk Tryz.prog 64 0 0=true:=by kernel_rfl
theorem fo64_1:fieldOk Tryz.prog 64 1 1=true:=by kernel_rfl
theorem fo64_2:fieldOk Tryz.prog 64 2 2=true:=by kernel_rfl
theorem fo64_3:fieldOk Tryz.prog 64 3 3=true:=by kernel_rfl
theorem fo66_0:fieldOk Tryz.prog 66 0 0=true:=by kernel_rfl
theorem fo66_1:fieldOk Tryz.prog 66 1 1=true:=by kernel_rfl
theorem fo66_2:fieldOk Tryz.prog 66 2 3=true:=by kernel_rfl
theorem ifc164:isIfcT Tryz.prog 164=true:=by kernel_rfl
theorem mixed:Tryz.prog.follows .mixedOrders=true:=by kernel_rfl
theorem one22:oneOk Tryz.prog 22=true:=by kernel_rfl
theorem one23:oneOk Tryz.prog 23=true:=by kernel_rfl
theorem one27:oneOk Tryz.prog 27=true:=by kernel_rfl
theorem one3:oneOk Tryz.prog 3=true:=by kernel_rfl
theorem one39:oneOk Tryz.prog 39=true:=by kernel_rfl
theorem one4:oneOk Tryz.prog 4=true:=by kernel_rfl
theorem one5:oneOk Tryz.prog 5=true:=by kernel_rfl
theorem one9:oneOk Tryz.prog 9=true:=by kernel_rfl
theorem s2_51:str2Ok Tryz.prog 51=true:=by kernel_rfl
theorem sl147:SlT Tryz.prog 147 9 1 16 (Str []):=SlT.mk' (by kernel_rfl) (by kernel_rfl)
theorem sl22:SlT Tryz.prog 22 3 1 8 (.int .i64 0):=SlT.mk' (by kernel_rfl) (by kernel_rfl)
theorem sl23:SlT Tryz.prog 23 63 2 32 (.agg #[Str [],Str []]):=SlT.mk' (by kernel_rfl) (by kernel_rfl)
theorem sl27:SlT Tryz.prog 27 51 2 32 (.agg #[Str [],Str []]):=SlT.mk' (by kernel_rfl) (by kernel_rfl)
theorem sl39:SlT Tryz.prog 39 5 1 1 (.int .u8 0):=SlT.mk' (by kernel_rfl) (by kernel_rfl)
theorem sl91:SlT Tryz.prog 91 22 1 24 (.slice none 0 0):=SlT.mk' (by kernel_rfl) (by kernel_rfl)
theorem st9:Tryz.prog.underlying 9=some .string:=by kernel_rfl
theorem tb4:Tryz.prog.underlying 4=some .bool:=by kernel_rfl
theorem ti3:Tryz.prog.underlying 3=some (.int .i64):=by kernel_rfl
theorem ti5:Tryz.prog.underlying 5=some (.int .u8):=by kernel_rfl
theorem tp197:Tryz.prog.underlying 197=some (.pointer 5):=by kernel_rfl
theorem tz29:(Tryz.prog.info? 29).bind (·.zero)=some (.agg #[.int .i64 0,.slice none 0 0,.slice none 0 0,Str []]):=by kernel_rfl
theorem tz43:(Tryz.prog.info? 43).bind (·.zero)=some (.agg #[.int .i64 0,.slice none 0 0,Str [],.int .i64 0]):=by kernel_rfl
theorem tz45:(Tryz.prog.info? 45).bind (·.zero)=some (.agg #[.int .i64 0,.int .i64 0,.slice none 0 0,Str [],.int .i64 0]):=by kernel_rfl
theorem tz51:(Tryz.prog.info? 51).bind (·.zero)=some (.agg #[Str [],Str []]):=by kernel_rfl
theorem tz53:(Tryz.prog.info? 53).bind (·.zero)=some (.agg #[.slice none 0 0,Str [],Str [],.int .i64 0,.slice none 0 0,Str [],.int .i64 0]):=by kernel_rfl
theorem us39:Tryz.prog.underlying 39=some (.slice 5):=by kernel_rfl
theorem sIn (x:Int) (lo:Int) (hi:Int) (w:World):Does Tryz.prog 92 [I x,I lo,I hi] w (fun v w'=>v=.bool (decide (lo≤x∧x≤hi))∧SH w w' [] []):=by
 refine fE (N:=15) Tryz.func92 r0 (by kernel_rfl) r0 ?_
 have hs0:=SH.refl w []
 refine sr (tA (.bool false) r0 (nx (tm (I x) r0 ?_)))
 refine tm (I lo) r0 (qt r0 (geq (k:=.i64) (a:=x) (b:=lo) r0 r0) (tm (.bool (decide (lo≤x))) r0 ?_))
 refine spd (p:=lo≤x) 10 r0 (fun h1=>?_) (fun h1=>?_)
 ·refine q ⟨_,rfl,rfl⟩ r0 r0 (mv (v:=I x) r0) (q ⟨_,rfl,rfl⟩ r0 r0 (mv (v:=I hi) r0) (q ⟨_,rfl,rfl⟩ r0 r0 (leq (k:=.i64) (a:=x) (b:=hi) r0 r0) (qt r0 (pt (v:=.bool (decide (x≤hi))) r0 r0) (tA (.bool (decide (x≤hi))) r0 (nn (rt ?_))))))
  refine fT (.bool (decide (x≤hi))) r0 ?_
  have e1:(decide (x≤hi))=(decide (lo≤x∧x≤hi)):=by simp[*]
  exact⟨(congrArg (Value.bool) e1),hs0⟩
 ·refine gf5 r0 (gf5 r0 (gf5 r0 (qt r0 (pf (v:=.bool false) r0 r0) (tA (.bool false) r0 (nn (rt ?_))))))
  refine fT (.bool false) r0 ?_
  have e2:false=(decide (lo≤x∧x≤hi)):=by simp[*]
  exact⟨(congrArg (Value.bool) e2),hs0⟩
theorem iWithin (x:Int) (lo:Int) (hi:Int) (w:World):Does Tryz.prog 73 [I x,I lo,I hi] w (fun v w'=>v=.bool (decide (lo≤x∧x≤hi))∧SH w w' [] []):=by
 refine fE (N:=15) Tryz.func73 r0 (by kernel_rfl) r0 ?_
 have hs0:=SH.refl w []
 refine sr (tA (.bool false) r0 (nx (tm (I x) r0 ?_)))
 refine tm (I lo) r0 (qt r0 (geq (k:=.i64) (a:=x) (b:=lo) r0 r0) (tm (.bool (decide (lo≤x))) r0 ?_))
 refine spd (p:=lo≤x) 10 r0 (fun h1=>?_) (fun h1=>?_)
 ·refine q ⟨_,rfl,rfl⟩ r0 r0 (mv (v:=I x) r0) (q ⟨_,rfl,rfl⟩ r0 r0 (mv (v:=I hi) r0) (q ⟨_,rfl,rfl⟩ r0 r0 (leq (k:=.i64) (a:=x) (b:=hi) r0 r0) (qt r0 (pt (v:=.bool (decide (x≤hi))) r0 r0) (tA (.bool (decide (x≤hi))) r0 (nn (rt ?_))))))
  refine fT (.bool (decide (x≤hi))) r0 ?_
  have e1:(decide (x≤hi))=(decide (lo≤x∧x≤hi)):=by simp[*]
  exact⟨(congrArg (Value.bool) e1),hs0⟩
 ·refine gf5 r0 (gf5 r0 (gf5 r0 (qt r0 (pf (v:=.bool false) r0 r0) (tA (.bool false) r0 (nn (rt ?_))))))
  refine fT (.bool false) r0 ?_
  have e2:false=(decide (lo≤x∧x≤hi)):=by simp[*]
  exact⟨(congrArg (Value.bool) e2),hs0⟩
theorem iBV1 (x:Int) (w:World):Does Tryz.prog 103 [I x] w (fun v w'=>v=.bool (decide (¬ (0≤x∧x≤255)))∧SH w w' [] []):=by
 refine fE (N:=6) Tryz.func103 r0 (by kernel_rfl) r0 ?_
 have hs0:=SH.refl w []
 refine sr (tA (.bool false) r0 (nx (tm (I x) r0 ?_)))
 refine cL r0 (iWithin (x:=x) (lo:=0) (hi:=255) (w:=_)) ?_
 rintro _ w1 ⟨rfl,hs1⟩
 replace hs1:=hs0.call0 hs1
 refine qt r0 (nd (p:=0≤x∧x≤255) r0) (tA (.bool (decide (¬ (0≤x∧x≤255)))) r0 (nn (rt (fT (.bool (decide (¬ (0≤x∧x≤255)))) r0 ?_))))
 exact⟨rfl,hs1⟩
theorem sBytesValid {Azs:Option Addr} {czs:Nat} (zs:List Int) (w:World) (hzs:Sl w [] 1 Azs zs.length czs (zs.map I)):Does Tryz.prog 41 [.slice Azs zs.length czs] w (fun v w'=>v=.bool (isBytes zs)∧SH w w' [] []):=by
 refine fE (N:=19) Tryz.func41 r0 (by kernel_rfl) r0 ?_
 have hs0:=SH.refl w []
 have hzs_m:zs.length≤9223372036854775807:=Nat.le_trans hzs.cap hzs.capMax
 refine sr (tA (.bool false) r0 (nn (sq (sr ?_))))
 refine tA (I 0) r0 (nn (bl (lp (σ:=Nat) (fun(k:Nat) f w'=>Hz f [(0,.slice Azs zs.length czs),(3,I (k:Int))]∧(k≤zs.length)∧(allB (zs.take k)=true)∧SH w w' [] []) (fun k=>zs.length-k) 0 ⟨(zR r0),(by simp),(by simp[allB]),hs0⟩ ?_)))
 rintro k f w1 ⟨⟨g1,rfl⟩,hk,ha,hs1⟩
 refine sq (sr (tm (I (k:Int)) r0 (tm (Z11 Azs zs czs) r0 (qt r0 (lnA (n:=zs.length) sl22 r0) (qt r0 (lss (k:=.i64) (a:=(k:Int)) (b:=(zs.length:Int)) r0 r0) (nl ?_))))))
 refine nN ?_
 refine cdd (p:=(k:Int)<(zs.length:Int)) r0 (fun h1=>?_) (fun h1=>?_)
 ·refine sk (nN (sq (bl (sr (tm (Z11 Azs zs czs) r0 (tm (I (k:Int)) r0 ?_))))))
  refine ixw1 k sl22 r0 r0 hzs (by omega) (getm I 0 (by omega)) trivial r0 (fun a1 ha1=>?_)
  refine qt r0 (lda (v:=I (zs.getD k 0)) hs1 ha1 (fun _ h=>h) r0 r0 one3) (cL r0 (sIn (x:=zs.getD k 0) (lo:=0) (hi:=255) (w:=_)) ?_)
  rintro _ w2 ⟨rfl,hs2⟩
  replace hs2:=hs1.call0 hs2
  refine qt r0 (nd (p:=0≤(zs.getD k 0)∧(zs.getD k 0)≤255) r0) (nn ?_)
  refine cdd (p:=¬ (0≤(zs.getD k 0)∧(zs.getD k 0)≤255)) r0 (fun h2=>?_) (fun h2=>?_)
  ·refine sr (tA (.bool false) r0 (nn ?_))
   refine rt (bR (tR (tR (bR (tR ?_)))))
   refine fT (.bool false) r0 ?_
   have e1:false=isBytes zs:=by exact bytes_no1 (k:=k) (by omega) (by simpa using h2)
   exact⟨(congrArg (Value.bool) e1),hs2⟩
  ·refine sk (bN (nN (rg (tm (I (k:Int)) r0 (qt r0 (add (a:=(k:Int)) (b:=1) r0 r0 (by exact⟨by omega,by omega⟩)) (tA (I ((k:Int)+1)) r0 (nl ?_)))))))
   refine nN ?_
   refine⟨(k+1),⟨(zR r0),(by omega),(allB_step (by omega) ha (by simpa using h2)),hs2⟩,?_⟩
   omega
 ·refine ex (tE (tE (bE ?_)))
  refine nN (sr (tm (Z11 Azs zs czs) r0 (qt r0 (lnA (n:=zs.length) sl22 r0) (qt r0 (leq (k:=.i64) (a:=(zs.length:Int)) (b:=120) r0 r0) (tA (.bool (decide ((zs.length:Int)≤120))) r0 (nl ?_))))))
  refine nN (rt (fT (.bool (decide ((zs.length:Int)≤120))) r0 ?_))
  have e2:(decide ((zs.length:Int)≤120))=isBytes zs:=by exact bytes_yes (k:=k) (by omega) ha
  exact⟨(congrArg (Value.bool) e2),hs1⟩
theorem slIndexFunc (p:Int→Bool) {Azs:Option Addr} {czs:Nat} (zs:List Int) (kf:FuncId) (w:World) (hzs:Sl w [] 1 Azs zs.length czs (zs.map I)) (hf: ∀ (x:Int) (w:World),Does Tryz.prog kf [.int .i64 x] w (fun v w'=>v=.bool (p x)∧SH w w' [] [])):Does Tryz.prog 133 [.slice Azs zs.length czs,.func (.func kf) #[] #[]] w (fun v w'=>v=.int .i64 (idxF p zs)∧SH w w' [] []):=by
 refine fE (N:=19) Tryz.func133 r0 (by kernel_rfl) r0 ?_
 have hs0:=SH.refl w []
 have hzs_m:zs.length≤9223372036854775807:=Nat.le_trans hzs.cap hzs.capMax
 refine sr (tA (I 0) r0 (nn (sq (sr ?_))))
 refine tm (Z11 Azs zs czs) r0 (qt r0 (lnA (n:=zs.length) sl22 r0) (tm (I 0) r0 (nn (bl (lp (σ:=Nat) (fun(k:Nat) f w'=>Has f [(0,.slice Azs zs.length czs),(1,.func (.func kf) #[] #[]),(7,I (zs.length:Int)),(8,I (k:Int))]∧(k≤zs.length)∧(∀ j,j<k→p (zs.getD j 0)=false)∧SH w w' [] []) (fun k=>zs.length-k) 0 ⟨(hA r0),(by simp),(by intro j hj; omega),hs0⟩ ?_)))))
 rintro k f w1 ⟨hf,hk,hn,hs1⟩
 obtain ⟨g1,rfl⟩:=has_upd hf
 clear hf
 refine sr (qt r0 (lss (k:=.i64) (a:=(k:Int)) (b:=(zs.length:Int)) r0 r0) (nn (sq ?_)))
 refine cdd (p:=(k:Int)<(zs.length:Int)) r0 (fun h1=>?_) (fun h1=>?_)
 ·refine sk (nN (sq (bl (sr (tm (I (k:Int)) r0 (tA (I (k:Int)) r0 ?_))))))
  refine nx (tm (.func (.func kf) #[] #[]) r0 (tm (Z11 Azs zs czs) r0 (tm (I (k:Int)) r0 (ixw1 k sl22 r0 r0 hzs (by omega) (getm I 0 (by omega)) trivial r0 (fun a1 ha1=>?_)))))
  refine qt r0 (lda (v:=I (zs.getD k 0)) hs1 ha1 (fun _ h=>h) r0 r0 one3) (clv (k:=kf) trivial r0 r0 (hf (zs.getD k 0) _) ?_)
  rintro _ w2 ⟨rfl,hs2⟩
  replace hs2:=hs1.call0 hs2
  refine nn ?_
  refine cd (b:=p (zs.getD k 0)) r0 (fun h2=>?_) (fun h2=>?_)
  ·refine sr (tm (I (k:Int)) r0 (tA (I (k:Int)) r0 (nn ?_)))
   refine rt (bR (tR (tR (bR (tR ?_)))))
   refine fT (I (k:Int)) r0 ?_
   have e1:(k:Int)=idxF p zs:=by exact idxF_eq (by omega) hn h2
   exact⟨(congrArg (Value.int .i64) e1),hs2⟩
  ·refine sk (bN (nN (rg (qt r0 (add (a:=(k:Int)) (b:=1) r0 r0 (by exact⟨by omega,by omega⟩)) (tm (I ((k:Int)+1)) r0 (nn ?_))))))
   refine⟨(k+1),⟨(hA r0),(by omega),(by intro j hj; rcases Nat.lt_succ_iff_lt_or_eq.1 hj with h | h; exact hn j h; subst h; exact h2),hs2⟩,?_⟩
   omega
 ·refine ex (tE (tE (bE ?_)))
  refine nN (sr (tA (I (-1)) r0 (nn (rt (fT (I (-1)) r0 ?_)))))
  have e2:(-1)=idxF p zs:=by exact idxF_none (fun j hj=>hn j (by omega))
  exact⟨(congrArg (Value.int .i64) e2),hs1⟩
theorem slContainsFunc (p:Int→Bool) {Azs:Option Addr} {czs:Nat} (zs:List Int) (kf:FuncId) (w:World) (hzs:Sl w [] 1 Azs zs.length czs (zs.map I)) (hf: ∀ (x:Int) (w:World),Does Tryz.prog kf [.int .i64 x] w (fun v w'=>v=.bool (p x)∧SH w w' [] [])):Does Tryz.prog 75 [.slice Azs zs.length czs,.func (.func kf) #[] #[]] w (fun v w'=>v=.bool (zs.any p)∧SH w w' [] []):=by
 refine fE (N:=9) Tryz.func75 r0 (by kernel_rfl) r0 ?_
 have hs0:=SH.refl w []
 have hzs_m:zs.length≤9223372036854775807:=Nat.le_trans hzs.cap hzs.capMax
 refine sr (tA (.bool false) r0 (nx (tm (Z11 Azs zs czs) r0 ?_)))
 refine tm (.func (.func kf) #[] #[]) r0 (cL r0 (slIndexFunc (p:=p) (Azs:=Azs) (czs:=czs) (zs:=zs) (kf:=kf) (w:=_) (hzs:=(hzs.up0 hs0)) (hf:=hf)) ?_)
 rintro _ w1 ⟨rfl,hs1⟩
 replace hs1:=hs0.call0 hs1
 refine qt r0 (geq (k:=.i64) (a:=idxF p zs) (b:=0) r0 r0) (tA (.bool (decide ((0:Int)≤(idxF p zs)))) r0 (nn (rt (fT (.bool (decide ((0:Int)≤(idxF p zs)))) r0 ?_))))
 have e1:(decide ((0:Int)≤(idxF p zs)))=zs.any p:=by exact idxF_any p zs
 exact⟨(congrArg (Value.bool) e1),hs1⟩
theorem iBytesValid {Azs:Option Addr} {czs:Nat} (zs:List Int) (w:World) (hzs:Sl w [] 1 Azs zs.length czs (zs.map I)):Does Tryz.prog 46 [.slice Azs zs.length czs] w (fun v w'=>v=.bool (isBytes zs)∧SH w w' [] []):=by
 refine fE (N:=11) Tryz.func46 r0 (by kernel_rfl) r0 ?_
 have hs0:=SH.refl w []
 have hzs_m:zs.length≤9223372036854775807:=Nat.le_trans hzs.cap hzs.capMax
 refine sr (tA (.bool false) r0 (nx (tm (Z11 Azs zs czs) r0 ?_)))
 refine qt r0 (lnA (n:=zs.length) sl22 r0) (qt r0 (leq (k:=.i64) (a:=(zs.length:Int)) (b:=120) r0 r0) (tm (.bool (decide ((zs.length:Int)≤120))) r0 ?_))
 refine spd (p:=(zs.length:Int)≤120) 6 r0 (fun h1=>?_) (fun h1=>?_)
 ·refine q ⟨_,rfl,rfl⟩ r0 r0 (mv (v:=.slice Azs zs.length czs) r0) (cl ⟨_,rfl,rfl⟩ r0 (slContainsFunc (p:=(fun x=>(decide (¬ (0≤x∧x≤255))))) (Azs:=Azs) (czs:=czs) (zs:=zs) (kf:=103) (w:=_) (hzs:=(hzs.up0 hs0)) (hf:=(fun x w=>iBV1 x w))) ?_)
  rintro _ w1 ⟨rfl,hs1⟩
  replace hs1:=hs0.call0 hs1
  refine q ⟨_,rfl,rfl⟩ r0 r0 (nt (b:=zs.any (fun x=>(decide (¬ (0≤x∧x≤255))))) r0) (qt r0 (pt (v:=.bool (!(zs.any (fun x=>(decide (¬ (0≤x∧x≤255))))))) r0 r0) (tA (.bool (!(zs.any (fun x=>(decide (¬ (0≤x∧x≤255))))))) r0 (nn (rt (fT (.bool (!(zs.any (fun x=>(decide (¬ (0≤x∧x≤255))))))) r0 ?_)))))
  have e1:(!(zs.any (fun x=>(decide (¬ (0≤x∧x≤255))))))=isBytes zs:=by rw[← isBytes_not]; simp[*]
  exact⟨(congrArg (Value.bool) e1),hs1⟩
 ·refine gf5 r0 (gf5 r0 (gf5 r0 (qt r0 (pf (v:=.bool false) r0 r0) (tA (.bool false) r0 (nn (rt ?_))))))
  refine fT (.bool false) r0 ?_
  have e2:false=isBytes zs:=by rw[← isBytes_not]; simp[*]
  exact⟨(congrArg (Value.bool) e2),hs0⟩
theorem eqIntS {Axs:Option Addr} {cxs:Nat} (xs:List Int) {Abs:Option Addr} {cbs:Nat} (bs:List Int) (w:World) (hxs:Sl w [] 1 Axs xs.length cxs (xs.map I)) (hbs:Sl w [] 1 Abs bs.length cbs (bs.map I)):Does Tryz.prog 17 [.slice Axs xs.length cxs,.slice Abs bs.length cbs] w (fun v w'=>v=.bool (decide (xs=bs))∧SH w w' [] []):=by
 refine fE (N:=26) Tryz.func17 r0 (by kernel_rfl) r0 ?_
 have hs0:=SH.refl w []
 have hxs_m:xs.length≤9223372036854775807:=Nat.le_trans hxs.cap hxs.capMax
 have hbs_m:bs.length≤9223372036854775807:=Nat.le_trans hbs.cap hbs.capMax
 refine sr (tA (.bool false) r0 (nn (sq (sr ?_))))
 refine tm (Z11 Axs xs cxs) r0 (qt r0 (lnA (n:=xs.length) sl22 r0) (tm (Z11 Abs bs cbs) r0 (qt r0 (lnA (n:=bs.length) sl22 r0) (qt r0 (nei (k:=.i64) (a:=(xs.length:Int)) (b:=(bs.length:Int)) r0 r0) (nn ?_)))))
 refine cdd (p:=(xs.length:Int)≠(bs.length:Int)) r0 (fun h1=>?_) (fun h1=>?_)
 ·refine sr (tA (.bool false) r0 (nn (rt (tR ?_))))
  refine fT (.bool false) r0 ?_
  have e1:false=(decide (xs=bs)):=by simp; intro h; subst h; exact h1 r0
  exact⟨(congrArg (Value.bool) e1),hs0⟩
 ·refine sk (nN (sq (sr (tA (I 0) r0 (nn ?_)))))
  refine bl (lp (σ:=Nat) (fun(k:Nat) f w'=>Hz f [(0,.slice Axs xs.length cxs),(1,.slice Abs bs.length cbs),(5,I (k:Int))]∧(xs.length=bs.length)∧(k≤xs.length)∧(xs.take k=bs.take k)∧SH w w' [] []) (fun k=>xs.length-k) 0 ⟨(zR r0),(by omega),(by simp),(by simp),hs0⟩ ?_)
  rintro k f w1 ⟨⟨g1,rfl⟩,hl,hk,ha,hs1⟩
  refine sq (sr (tm (I (k:Int)) r0 (tm (Z11 Axs xs cxs) r0 (qt r0 (lnA (n:=xs.length) sl22 r0) (qt r0 (lss (k:=.i64) (a:=(k:Int)) (b:=(xs.length:Int)) r0 r0) (nl ?_))))))
  refine nN ?_
  refine cdd (p:=(k:Int)<(xs.length:Int)) r0 (fun h2=>?_) (fun h2=>?_)
  ·refine sk (nN (sq (bl (sq (rq (fun w'=>SH w w' [] []) mixed (by kernel_rfl) hs1.drew (qA r0 (mv (v:=.slice Axs xs.length cxs) r0) (qA r0 (mv (v:=I (k:Int)) r0) ?_)))))))
   refine ixq1 k sl22 r0 r0 hxs (by omega) (getm I 0 (by omega)) trivial r0 (fun a1 ha1=>?_)
   refine qB r0 (fun hsq=>lda (v:=I (xs.getD k 0)) hsq ha1 (fun _ h=>h) r0 r0 one3) (qA r0 (mv (v:=.slice Abs bs.length cbs) r0) (qA r0 (mv (v:=I (k:Int)) r0) (ixq1 k sl22 r0 r0 hbs (by omega) (getm I 0 (by omega)) trivial r0 (fun a2 ha2=>?_))))
   refine qB r0 (fun hsq=>lda (v:=I (bs.getD k 0)) hsq ha2 (fun _ h=>h) r0 r0 one3) (qA r0 (nei (k:=.i64) (a:=xs.getD k 0) (b:=bs.getD k 0) r0 r0) (qn (fun w2 hs2=>?_)))
   refine nN ?_
   refine cdd (p:=(xs.getD k 0)≠(bs.getD k 0)) r0 (fun h3=>?_) (fun h3=>?_)
   ·refine sr (tA (.bool false) r0 (nn ?_))
    refine rt (bR (tR (tR (bR (tR ?_)))))
    refine fT (.bool false) r0 ?_
    have e2:false=(decide (xs=bs)):=by simp; intro h; subst h; exact h3 r0
    exact⟨(congrArg (Value.bool) e2),hs2⟩
   ·refine sk (bN (nN (rg (tm (I (k:Int)) r0 (qt r0 (add (a:=(k:Int)) (b:=1) r0 r0 (by exact⟨by omega,by omega⟩)) (tA (I ((k:Int)+1)) r0 (nl ?_)))))))
    refine nN ?_
    refine⟨(k+1),⟨(zR r0),(hl),(by omega),(take_succ_eq (by omega) (by omega) ha (by simpa using h3)),hs2⟩,?_⟩
    omega
  ·refine ex (tE (tE (bE ?_)))
   refine nN (sr (tA (.bool true) r0 (nn (rt (fT (.bool true) r0 ?_)))))
   have e3:true=(decide (xs=bs)):=by simp; exact take_all_eq hl (by omega) ha
   exact⟨(congrArg (Value.bool) e3),hs1⟩
theorem heldIntS {Axs:Option Addr} {cxs:Nat} (xs:List Int) (k0:Int) (w:World) (hxs:Sl w [] 1 Axs xs.length cxs (xs.map I)) (hxs_n:xs.length≤1099511627776) (hk0:0≤k0∧k0≤4294967296):Does Tryz.prog 21 [.slice Axs xs.length cxs,I k0] w (fun v w'=>v=.int .i64 (heldI xs k0)∧SH w w' [] []):=by
 refine fE (N:=21) Tryz.func21 r0 (by kernel_rfl) r0 ?_
 have hs0:=SH.refl w []
 have hxs_m:xs.length≤9223372036854775807:=Nat.le_trans hxs.cap hxs.capMax
 refine sr (tA (I 0) r0 (nn (sq (sr ?_))))
 refine tA (I 0) r0 (nn (bl (lp (σ:=Nat) (fun(k:Nat) f w'=>Hz f [(0,.slice Axs xs.length cxs),(1,I (k0+(k:Nat))),(5,I (k:Int))]∧(k≤xs.length)∧(xs.take k=marks k0 k)∧SH w w' [] []) (fun k=>xs.length-k) 0 ⟨(zH ⟨rfl,(show (I k0:Value)=I (k0+(0:Nat)) from congrArg (Value.int .i64) (by simp)),rfl,trivial⟩),(by simp),(by simp[marks]),hs0⟩ ?_)))
 rintro k f w1 ⟨⟨g1,rfl⟩,hk,hm,hs1⟩
 refine sq (sr (tm (I (k:Int)) r0 (tm (Z11 Axs xs cxs) r0 (qt r0 (lnA (n:=xs.length) sl22 r0) (qt r0 (lss (k:=.i64) (a:=(k:Int)) (b:=(xs.length:Int)) r0 r0) (nl ?_))))))
 refine nN ?_
 refine cdd (p:=(k:Int)<(xs.length:Int)) r0 (fun h1=>?_) (fun h1=>?_)
 ·refine sk (nN (sq (bl (sq (sr (tm (Z11 Axs xs cxs) r0 ?_))))))
  refine tm (I (k:Int)) r0 (ixw1 k sl22 r0 r0 hxs (by omega) (getm I 0 (by omega)) trivial r0 (fun a1 ha1=>?_))
  refine qt r0 (lda (v:=I (xs.getD k 0)) hs1 ha1 (fun _ h=>h) r0 r0 one3) (tm (I (k0+(k:Nat))) r0 (qt r0 (nei (k:=.i64) (a:=xs.getD k 0) (b:=k0+(k:Nat)) r0 r0) (nn ?_)))
  refine cdd (p:=(xs.getD k 0)≠(k0+(k:Nat))) r0 (fun h2=>?_) (fun h2=>?_)
  ·refine sr (tA (I (-1)) r0 (nn ?_))
   refine rt (tR (bR (tR (tR (bR (tR ?_))))))
   refine fT (I (-1)) r0 ?_
   have e1:(-1)=heldI xs k0:=by exact held_no (by omega) hm (by omega)
   exact⟨(congrArg (Value.int .i64) e1),hs1⟩
  ·refine sk (nN (rg (tm (I (k0+(k:Nat))) r0 (qt r0 (add (a:=k0+(k:Nat)) (b:=1) r0 r0 (by exact⟨by omega,by omega⟩)) (tA (I ((k0+(k:Nat))+1)) r0 (nl (bN ?_)))))))
   refine nN (rg (tm (I (k:Int)) r0 (qt r0 (add (a:=(k:Int)) (b:=1) r0 r0 (by exact⟨by omega,by omega⟩)) (tA (I ((k:Int)+1)) r0 (nn ?_)))))
   refine⟨(k+1),⟨(zH ⟨rfl,(show (I ((k0+(k:Nat))+1):Value)=I (k0+((k+1):Nat)) from congrArg (Value.int .i64) (by omega)),rfl,trivial⟩),(by omega),(marks_take (by omega) hm (by omega)),hs1⟩,?_⟩
   omega
 ·refine ex (tE (tE (bE ?_)))
  refine nN (sr (tm (I (k0+(k:Nat))) r0 (tA (I (k0+(k:Nat))) r0 (nn (rt ?_)))))
  refine fT (I (k0+(k:Nat))) r0 ?_
  have e2:k0+(k:Nat)=heldI xs k0:=by have:k=xs.length:=(by omega); subst this; exact held_yes (by simpa using hm)
  exact⟨(congrArg (Value.int .i64) e2),hs1⟩
theorem slIndexByte (l:List UInt8) (c:UInt8) (w:World):Does Tryz.prog 192 [Str l,.int .u8 (c.toNat:Int)] w (fun v w'=>v=.int .i64 (idxB l c)∧SH w w' [] []):=by
 refine fE (N:=8) Tryz.func192 r0 (by kernel_rfl) r0 ?_
 have hs0:=SH.refl w []
 refine sr (tA (I 0) r0 (nx (tm (Str l) r0 ?_)))
 refine tm (.int .u8 (c.toNat:Int)) r0 (qt r0 (ibs (l:=l) (c:=c) Tryz.func211 (by kernel_rfl) r0 (by kernel_rfl) (by kernel_rfl) r0 r0) (tA (I (idxB l c)) r0 (nn (rt (fT (I (idxB l c)) r0 ?_)))))
 exact⟨rfl,hs0⟩
theorem stIndexByte (l:List UInt8) (c:UInt8) (w:World):Does Tryz.prog 177 [Str l,.int .u8 (c.toNat:Int)] w (fun v w'=>v=.int .i64 (idxB l c)∧SH w w' [] []):=by
 refine fE (N:=8) Tryz.func177 r0 (by kernel_rfl) r0 ?_
 have hs0:=SH.refl w []
 refine sr (tA (I 0) r0 (nx (tm (Str l) r0 ?_)))
 refine tm (.int .u8 (c.toNat:Int)) r0 (cL r0 (slIndexByte (l:=l) (c:=c) (w:=_)) ?_)
 rintro _ w1 ⟨rfl,hs1⟩
 replace hs1:=hs0.call0 hs1
 refine tA (I (idxB l c)) r0 (nn (rt (fT (I (idxB l c)) r0 ?_)))
 exact⟨rfl,hs1⟩
theorem markIntS {Axs:Option Addr} {cxs:Nat} (xs:List Int) (k0:Int) (w:World) (hxs:OwnR w Axs xs.length cxs 3 1 (xs.map I)) (hxs_n:xs.length≤1099511627776) (hk0:0≤k0∧k0≤4294967296):Does Tryz.prog 19 [.slice Axs xs.length cxs,I k0] w (fun v w'=>v=.int .i64 (k0+(xs.length:Int))∧SH w w' (ownM Axs cxs++[]) [.own Axs xs.length cxs 3 1 ((marks k0 xs.length).map I)]):=by
 refine fE (N:=19) Tryz.func19 r0 (by kernel_rfl) r0 ?_
 have hs0:SH w w (ownM Axs cxs++[]) [(Z4 Axs xs cxs)]:=entry1o hxs
 have hxs_m:xs.length≤9223372036854775807:=Nat.le_trans hxs.2.1 hxs.2.2.1
 refine sr (tA (I 0) r0 (nn (sq (sr ?_))))
 refine tA (I 0) r0 (nn (bl ?_))
 have e1:xs=marks k0 0++xs.drop 0:=by simp[marks]
 refine lp (σ:=(Option Addr)×Nat×Nat) (fun⟨Ag0,cg0,k⟩ f w'=>Hz f [(0,.slice Ag0 xs.length cg0),(1,I (k0+(k:Nat))),(5,I (k:Int))]∧(k≤xs.length)∧(Ag0=Axs)∧(cg0=cxs)∧SH w w' (ownM Axs cxs++[]) [.own Ag0 xs.length cg0 3 1 ((marks k0 k++xs.drop k).map I)]) (fun⟨Ag0,cg0,k⟩=>xs.length-k) (Axs,cxs,0) ⟨(zH ⟨rfl,(show (I k0:Value)=I (k0+(0:Nat)) from congrArg (Value.int .i64) (by simp)),rfl,trivial⟩),(by simp),(rfl),(rfl),(hs0.cast (lc (own_eq (g:=I) r0 r0 r0 e1) r0))⟩ ?_
 rintro ⟨Ag0,cg0,k⟩ f w1 ⟨⟨g1,rfl⟩,hk,hA,hC,hs1⟩
 refine sq (sr (tm (I (k:Int)) r0 (tm (.slice Ag0 xs.length cg0) r0 (qt r0 (lnA (n:=xs.length) sl22 r0) (qt r0 (lss (k:=.i64) (a:=(k:Int)) (b:=(xs.length:Int)) r0 r0) (nl ?_))))))
 refine nN ?_
 refine cdd (p:=(k:Int)<(xs.length:Int)) r0 (fun h1=>?_) (fun h1=>?_)
 ·refine sk (nN (sq (bl (sr (tm (.slice Ag0 xs.length cg0) r0 (tm (I (k:Int)) r0 ?_))))))
  refine tm (I (k0+(k:Nat))) r0 ?_
  obtain ⟨b1,rfl⟩:=own_form hs1 0 r0 (by omega)
  refine qt r0 (ixo k sl22 r0 r0 (by omega)) (stomn (g:=I) (ys:=marks k0 k++xs.drop k) (o:=k) (u:=k0+(k:Nat)) hs1 0 r0 r0 r0 r0 (by omega) r0 one3 trivial (fun w2 hs2=>?_))
  refine nn (rg (tm (I (k0+(k:Nat))) r0 (qt r0 (add (a:=k0+(k:Nat)) (b:=1) r0 r0 (by exact⟨by omega,by omega⟩)) (tA (I ((k0+(k:Nat))+1)) r0 (nl (bN ?_))))))
  refine nN (rg (tm (I (k:Int)) r0 (qt r0 (add (a:=(k:Int)) (b:=1) r0 r0 (by exact⟨by omega,by omega⟩)) (tA (I ((k:Int)+1)) r0 (nn ?_)))))
  have e2:(marks k0 k++xs.drop k).set k (k0+(k:Nat))=marks k0 (k+1)++xs.drop (k+1):=by exact marks_set (by omega)
  refine⟨((Z5 b1),cg0,k+1),⟨(zH ⟨rfl,(show (I ((k0+(k:Nat))+1):Value)=I (k0+((k+1):Nat)) from congrArg (Value.int .i64) (by omega)),rfl,trivial⟩),(by omega),(hA),(hC),(hs2.cast (lc (own_eq (g:=I) r0 r0 r0 e2) r0))⟩,?_⟩
  show xs.length-(k+1)<xs.length-k
  omega
 ·refine ex (tE (tE (bE ?_)))
  refine nN (sr (tm (I (k0+(k:Nat))) r0 (tA (I (k0+(k:Nat))) r0 (nn (rt ?_)))))
  refine fT (I (k0+(k:Nat))) r0 ?_
  have e3:k0+(k:Nat)=k0+(xs.length:Int):=by have:k=xs.length:=(by omega); subst this; rfl
  have e4:Ag0=Axs:=by assumption
  have e5:cg0=cxs:=by assumption
  have e6:marks k0 k++xs.drop k=marks k0 xs.length:=by have:k=xs.length:=(by omega); subst this; simp
  exact⟨(congrArg (Value.int .i64) e3),(hs1.cast (lc (own_eq (g:=I) e4 r0 e5 e6) r0))⟩
theorem toIntS {Axs:Option Addr} {cxs:Nat} (xs:List Int) (w:World) (hxs:Sl w [] 1 Axs xs.length cxs (xs.map I)) (hxs_n:xs.length≤1099511627776):Does Tryz.prog 14 [.slice Axs xs.length cxs] w (fun v w'=>∃ Ar:Option Addr,∃ cr:Nat,v=.slice Ar xs.length cr∧SH w w' [] [.own Ar xs.length cr 3 1 (xs.map I)]):=by
 refine fE (N:=22) Tryz.func14 r0 (by kernel_rfl) r0 ?_
 have hs0:=SH.refl w []
 have hxs_m:xs.length≤9223372036854775807:=Nat.le_trans hxs.cap hxs.capMax
 refine sr (tA ns r0 (nx (tm (Z11 Axs xs cxs) r0 ?_)))
 refine qt r0 (lnA (n:=xs.length) sl22 r0) (mkm (g:=I) (z:=0) (n:=xs.length) hs0 sl22 r0 r0 r0 (by omega) (by unfold maxLen; omega) trivial r0 (fun b1 w1 hs1=>?_))
 refine tA (sb b1 ((List.replicate xs.length (0:Int)).length) xs.length) r0 (nn (sq (sr (tA (I 0) r0 (nl ?_)))))
 refine nN (bl ?_)
 have e1:List.replicate xs.length (0:Int)=xs.take 0++List.replicate (xs.length-0) (0:Int):=by simp
 have e2:(List.replicate xs.length (0:Int)).length=xs.length:=by(simp; done)
 refine lp (σ:=(Option Addr)×Nat×Nat) (fun⟨Ag3,cg3,k⟩ f w'=>Hz f [(0,.slice Axs xs.length cxs),(3,.slice Ag3 xs.length cg3),(4,I (k:Int))]∧(k≤xs.length)∧SH w w' [] [.own Ag3 xs.length cg3 3 1 ((xs.take k++List.replicate (xs.length-k) (0:Int)).map I)]) (fun⟨Ag3,cg3,k⟩=>xs.length-k) ((Z5 b1),xs.length,0) ⟨(zH ⟨rfl,(show (.slice (Z5 b1) ((List.replicate xs.length (0:Int)).length) xs.length:Value)=.slice (Z5 b1) xs.length xs.length from slv r0 e2 r0),rfl,trivial⟩),(by simp),(hs1.cast (lc (own_eq (g:=I) r0 e2 r0 e1) r0))⟩ ?_
 rintro ⟨Ag3,cg3,k⟩ f w2 ⟨⟨g1,rfl⟩,hk,hs2⟩
 refine sq (sr (tm (I (k:Int)) r0 (tm (Z11 Axs xs cxs) r0 (qt r0 (lnA (n:=xs.length) sl22 r0) (qt r0 (lss (k:=.i64) (a:=(k:Int)) (b:=(xs.length:Int)) r0 r0) (nl ?_))))))
 refine nN ?_
 refine cdd (p:=(k:Int)<(xs.length:Int)) r0 (fun h1=>?_) (fun h1=>?_)
 ·refine sk (nN (sq (bl (rg (tm (.slice Ag3 xs.length cg3) r0 (tm (I (k:Int)) r0 (tm (Z11 Axs xs cxs) r0 ?_)))))))
  refine tm (I (k:Int)) r0 (ixw1 k sl22 r0 r0 hxs (by omega) (getm I 0 (by omega)) trivial r0 (fun a1 ha1=>?_))
  refine qt r0 (lda (v:=I (xs.getD k 0)) hs2 ha1 (fun _ h=>h) r0 r0 one3) ?_
  obtain ⟨b2,rfl⟩:=own_form hs2 0 r0 (by omega)
  refine qt r0 (ixo k sl22 r0 r0 (by omega)) (stomn (g:=I) (ys:=xs.take k++List.replicate (xs.length-k) (0:Int)) (o:=k) (u:=xs.getD k 0) hs2 0 r0 r0 r0 r0 (by omega) r0 one3 trivial (fun w3 hs3=>?_))
  refine nl (bN (nN (rg (tm (I (k:Int)) r0 (qt r0 (add (a:=(k:Int)) (b:=1) r0 r0 (by exact⟨by omega,by omega⟩)) (tA (I ((k:Int)+1)) r0 (nl ?_)))))))
  refine nN ?_
  have e3:(xs.take k++List.replicate (xs.length-k) (0:Int)).set k (xs.getD k 0)=xs.take (k+1)++List.replicate (xs.length-(k+1)) (0:Int):=by exact copy_set (by omega)
  refine⟨((Z5 b2),cg3,k+1),⟨(zR r0),(by omega),(hs3.cast (lc (own_eq (g:=I) r0 r0 r0 e3) r0))⟩,?_⟩
  show xs.length-(k+1)<xs.length-k
  omega
 ·refine ex (tE (tE (bE ?_)))
  refine nN (sr (tm (.slice Ag3 xs.length cg3) r0 (tA (.slice Ag3 xs.length cg3) r0 (nn (rt ?_)))))
  refine fT (.slice Ag3 xs.length cg3) r0 ?_
  have e4:xs.take k++List.replicate (xs.length-k) (0:Int)=xs:=by have:k=xs.length:=(by omega); subst this; simp
  exact⟨Ag3,cg3,rfl,(hs2.cast (lc (own_eq (g:=I) r0 r0 r0 e4) r0))⟩
theorem bStringN {bb:Nat} {pb:Option Addr} (w:World) (hbd:w.heap[bb]?=some (.cells [.pointer pb,.slice none 0 0].toArray 181 (0,0))):Does Tryz.prog 195 [pB bb] w (fun v w'=>v=Str []∧SH w w' [bb] []):=by
 refine fE (N:=14) Tryz.func195 r0 (by kernel_rfl) r0 ?_
 have hs0:=SH.entry1 hbd
 refine sr (tA (Str []) r0 (nn (sq (ra (fun w'=>∃ L,SH w w' [bb] L∧(.blk bb 181 [.pointer pb,ns])∈L∧True) mixed ?_))))
 have hs1:=hs0.drew
 refine tk (fuel:=2) (is:=[0,1,2,3,4,5,6,7,8,9]) (.cons r0 (.cons r0 (.cons r0 (.cons r0 (.cons r0 (.cons r0 (.cons r0 (.cons r0 (.cons r0 (.cons r0 (.nil))))))))))) (by kernel_rfl) (by kernel_rfl) (m1 hs1 0 r0) (yA r0 (mv (v:=pB bb) r0) (yA r0 (nc r0) (yA r0 (fa 1 fo181_1 r0) (yB r0 (fun ⟨Lq,hsq,mh0,_⟩=>lM ns hsq mh0 r0 one39) (yA r0 (usd0 r0) (yA r0 (mv (v:=pB bb) r0) (yA r0 (nc r0) ?_)))))))
 refine yA r0 (fa 1 fo181_1 r0) (yB r0 (fun ⟨Lq,hsq,mh0,_⟩=>lM ns hsq mh0 r0 one39) (yA r0 (lnA (n:=0) sl39 r0) (.nil (a1 (i:=10) (by kernel_rfl) (one_ r0 (qt r0 (ust0 (p:=none) r0 r0) (nk (m1 hs1 0 r0) ?_)))))))
 refine tk (fuel:=0) (is:=[11]) (.cons r0 (.nil)) (by kernel_rfl) (by kernel_rfl) (m1 hs1 0 r0) (yA r0 (asg (v:=Str []) r0) (.nil (ad (by kernel_rfl) (nN (rt (fT (Str []) r0 ?_))))))
 exact⟨rfl,(hs1.pk [] r0)⟩
theorem bStringR {bb gb:Nat} {pb:Option Addr} {cbb:Nat} (l:List UInt8) (w:World) (hbd:w.heap[bb]?=some (.cells [.pointer pb,.slice (some ⟨gb,0,none⟩) l.length cbb].toArray 181 (0,0))) (hbo:OwnR w (some ⟨gb,0,none⟩) l.length cbb 5 1 (l.map U)) (hbx: ∀ k,(It.own (some ⟨gb,0,none⟩) l.length cbb 5 1 (l.map U)).has k→ ¬ (It.blk bb 181 [.pointer pb,.slice (some ⟨gb,0,none⟩) l.length cbb]).has k) (hl0:0<l.length) (hlc:cbb≠0):Does Tryz.prog 195 [pB bb] w (fun v w'=>v=Str l∧SH w w' ([bb]++(ownM (some ⟨gb,0,none⟩) cbb++[])) []):=by
 refine fE (N:=14) Tryz.func195 r0 (by kernel_rfl) r0 ?_
 have hs0:SH w w ([bb]++(ownM (Z5 gb) cbb++[])) [.blk bb 181 [.pointer pb,sb gb l.length cbb],.own (Z5 gb) l.length cbb 5 1 (l.map U)]:=entryB hbd hbo hbx
 refine sr (tA (Str []) r0 (nn (sq (ra (fun w'=>∃ L,SH w w' ([bb]++(ownM (Z5 gb) cbb++[])) L∧(.blk bb 181 [.pointer pb,sb gb l.length cbb])∈L∧True) mixed ?_))))
 have hs1:=hs0.drew
 refine tk (fuel:=2) (is:=[0,1,2,3,4,5,6,7,8,9]) (.cons r0 (.cons r0 (.cons r0 (.cons r0 (.cons r0 (.cons r0 (.cons r0 (.cons r0 (.cons r0 (.cons r0 (.nil))))))))))) (by kernel_rfl) (by kernel_rfl) (m1 hs1 0 r0) (yA r0 (mv (v:=pB bb) r0) (yA r0 (nc r0) (yA r0 (fa 1 fo181_1 r0) (yB r0 (fun ⟨Lq,hsq,mh0,_⟩=>lM (sb gb l.length cbb) hsq mh0 r0 one39) (yA r0 (usd (a:=⟨gb,0,none⟩) r0 (by exact hlc)) (yA r0 (mv (v:=pB bb) r0) (yA r0 (nc r0) ?_)))))))
 refine yA r0 (fa 1 fo181_1 r0) (yB r0 (fun ⟨Lq,hsq,mh0,_⟩=>lM (sb gb l.length cbb) hsq mh0 r0 one39) (yA r0 (lnA (n:=l.length) sl39 r0) (.nil (a1 (i:=10) (by kernel_rfl) (one_ r0 (ust (l:=l) hs1 1 r0 tp197 (by kernel_rfl) r0 r0 (by omega) trivial r0 (fun w1 hs2=>?_)))))))
 refine nk (m1 hs2 0 r0) ?_
 refine tk (fuel:=0) (is:=[11]) (.cons r0 (.nil)) (by kernel_rfl) (by kernel_rfl) (m1 hs2 0 r0) (yA r0 (asg (v:=Str l) r0) (.nil (ad (by kernel_rfl) (nN (rt (fT (Str l) r0 ?_))))))
 exact⟨rfl,(hs2.pk [] r0)⟩
theorem bString {bb:Nat} {pb:Option Addr} {Abb:Option Addr} {cbb:Nat} (l:List UInt8) (w:World) (hbd:w.heap[bb]?=some (.cells [.pointer pb,.slice Abb l.length cbb].toArray 181 (0,0))) (hpb:pb=none∨pb=some ⟨bb,0,none⟩) (hbo:OwnR w Abb l.length cbb 5 1 (l.map U)) (hbx: ∀ k,(It.own Abb l.length cbb 5 1 (l.map U)).has k→ ¬ (It.blk bb 181 [.pointer pb,.slice Abb l.length cbb]).has k) (hA:l.length=0→Abb=none∧cbb=0):Does Tryz.prog 195 [pB bb] w (fun v w'=>v=Str l∧SH w w' ([bb]++(ownM Abb cbb++[])) []):=by
 rcases Nat.eq_zero_or_pos l.length with h0 | h0
 ·obtain ⟨rfl,rfl⟩:=hA h0
  have hl:l=[]:=List.eq_nil_of_length_eq_zero h0
  subst hl
  exact(bStringN w hbd).mono fun v w' h=>⟨h.1,h.2.monoM (by intro k hk; simp at hk; subst hk; simp)⟩
 ·obtain ⟨gb,rfl⟩:=ownR_form hbo h0
  exact bStringR l w hbd hbo hbx h0 (by have:=hbo.2.1; omega)
theorem iLetter (c:UInt8) (w:World):Does Tryz.prog 156 [.int .u8 (c.toNat:Int)] w (fun v w'=>v=.bool (decide (97≤(c.toNat:Int)∧(c.toNat:Int)≤122))∧SH w w' [] []):=by
 refine fE (N:=9) Tryz.func156 r0 (by kernel_rfl) r0 ?_
 have hs0:=SH.refl w []
 refine sr (tA (.bool false) r0 (nx (tm (.int .u8 (c.toNat:Int)) r0 ?_)))
 refine qt r0 (geq (k:=.u8) (a:=(c.toNat:Int)) (b:=97) r0 r0) (tm (.bool (decide ((97:Int)≤(c.toNat:Int)))) r0 ?_)
 refine spd (p:=(97:Int)≤(c.toNat:Int)) 5 r0 (fun h1=>?_) (fun h1=>?_)
 ·refine q ⟨_,rfl,rfl⟩ r0 r0 (mv (v:=.int .u8 (c.toNat:Int)) r0) (q ⟨_,rfl,rfl⟩ r0 r0 (leq (k:=.u8) (a:=(c.toNat:Int)) (b:=122) r0 r0) (qt r0 (pt (v:=.bool (decide ((c.toNat:Int)≤122))) r0 r0) (tA (.bool (decide ((c.toNat:Int)≤122))) r0 (nn (rt (fT (.bool (decide ((c.toNat:Int)≤122))) r0 ?_))))))
  have e1:(decide ((c.toNat:Int)≤122))=(decide (97≤(c.toNat:Int)∧(c.toNat:Int)≤122)):=by simp[h1]
  exact⟨(congrArg (Value.bool) e1),hs0⟩
 ·refine gf5 r0 (gf5 r0 (qt r0 (pf (v:=.bool false) r0 r0) (tA (.bool false) r0 (nn (rt (fT (.bool false) r0 ?_))))))
  have e2:false=(decide (97≤(c.toNat:Int)∧(c.toNat:Int)≤122)):=by simp[h1]
  exact⟨(congrArg (Value.bool) e2),hs0⟩
theorem iDigit (c:UInt8) (w:World):Does Tryz.prog 176 [.int .u8 (c.toNat:Int)] w (fun v w'=>v=.bool (decide (48≤(c.toNat:Int)∧(c.toNat:Int)≤57))∧SH w w' [] []):=by
 refine fE (N:=9) Tryz.func176 r0 (by kernel_rfl) r0 ?_
 have hs0:=SH.refl w []
 refine sr (tA (.bool false) r0 (nx (tm (.int .u8 (c.toNat:Int)) r0 ?_)))
 refine qt r0 (geq (k:=.u8) (a:=(c.toNat:Int)) (b:=48) r0 r0) (tm (.bool (decide ((48:Int)≤(c.toNat:Int)))) r0 ?_)
 refine spd (p:=(48:Int)≤(c.toNat:Int)) 5 r0 (fun h1=>?_) (fun h1=>?_)
 ·refine q ⟨_,rfl,rfl⟩ r0 r0 (mv (v:=.int .u8 (c.toNat:Int)) r0) (q ⟨_,rfl,rfl⟩ r0 r0 (leq (k:=.u8) (a:=(c.toNat:Int)) (b:=57) r0 r0) (qt r0 (pt (v:=.bool (decide ((c.toNat:Int)≤57))) r0 r0) (tA (.bool (decide ((c.toNat:Int)≤57))) r0 (nn (rt (fT (.bool (decide ((c.toNat:Int)≤57))) r0 ?_))))))
  have e1:(decide ((c.toNat:Int)≤57))=(decide (48≤(c.toNat:Int)∧(c.toNat:Int)≤57)):=by simp[h1]
  exact⟨(congrArg (Value.bool) e1),hs0⟩
 ·refine gf5 r0 (gf5 r0 (qt r0 (pf (v:=.bool false) r0 r0) (tA (.bool false) r0 (nn (rt (fT (.bool false) r0 ?_))))))
  have e2:false=(decide (48≤(c.toNat:Int)∧(c.toNat:Int)≤57)):=by simp[h1]
  exact⟨(congrArg (Value.bool) e2),hs0⟩
theorem sLetter (c:UInt8) (w:World):Does Tryz.prog 181 [.int .u8 (c.toNat:Int)] w (fun v w'=>v=.bool (letC c)∧SH w w' [] []):=by
 refine fE (N:=21) Tryz.func181 r0 (by kernel_rfl) r0 ?_
 have hs0:=SH.refl w []
 refine sr (tA (.bool false) r0 (nx (tm (.int .u8 (c.toNat:Int)) r0 ?_)))
 refine qt r0 (geq (k:=.u8) (a:=(c.toNat:Int)) (b:=97) r0 r0) (tm (.bool (decide ((97:Int)≤(c.toNat:Int)))) r0 ?_)
 refine spd (p:=(97:Int)≤(c.toNat:Int)) 5 r0 (fun h1=>?_) (fun h1=>?_)
 ·refine q ⟨_,rfl,rfl⟩ r0 r0 (mv (v:=.int .u8 (c.toNat:Int)) r0) (q ⟨_,rfl,rfl⟩ r0 r0 (leq (k:=.u8) (a:=(c.toNat:Int)) (b:=122) r0 r0) (qt r0 (pt (v:=.bool (decide ((c.toNat:Int)≤122))) r0 r0) (tm (.bool (decide ((c.toNat:Int)≤122))) r0 ?_)))
  refine spd (p:=(c.toNat:Int)≤122) 9 r0 (fun h2=>?_) (fun h2=>?_)
  ·refine gt5 r0 (gt5 r0 (gt5 r0 (gku r0 r0 r0 r0 r0 (gku r0 r0 r0 r0 r0 (gt5 r0 (qt r0 (pt (v:=.bool true) r0 r0) (tm (.bool true) r0 ?_)))))))
   refine gt5 r0 (gt5 r0 (qt r0 (pt (v:=.bool true) r0 r0) (tA (.bool true) r0 (nn (rt (fT (.bool true) r0 ?_))))))
   have e1:true=letC c:=by simp only[letC]; (simp; omega)
   exact⟨(congrArg (Value.bool) e1),hs0⟩
  ·refine q ⟨_,rfl,rfl⟩ r0 r0 (mv (v:=.int .u8 (c.toNat:Int)) r0) (q ⟨_,rfl,rfl⟩ r0 r0 (geq (k:=.u8) (a:=(c.toNat:Int)) (b:=48) r0 r0) (q ⟨_,rfl,rfl⟩ r0 r0 (mv (v:=.bool (decide ((48:Int)≤(c.toNat:Int)))) r0) ?_))
   refine spd (p:=(48:Int)≤(c.toNat:Int)) 12 r0 (fun h3=>?_) (fun h3=>?_)
   ·refine q ⟨_,rfl,rfl⟩ r0 r0 (mv (v:=.int .u8 (c.toNat:Int)) r0) (q ⟨_,rfl,rfl⟩ r0 r0 (leq (k:=.u8) (a:=(c.toNat:Int)) (b:=57) r0 r0) (q ⟨_,rfl,rfl⟩ r0 r0 (pt (v:=.bool (decide ((c.toNat:Int)≤57))) r0 r0) (qt r0 (pf (v:=.bool (decide ((c.toNat:Int)≤57))) r0 r0) (tm (.bool (decide ((c.toNat:Int)≤57))) r0 ?_))))
    refine spd (p:=(c.toNat:Int)≤57) 17 r0 (fun h4=>?_) (fun h4=>?_)
    ·refine gt5 r0 (gt5 r0 (qt r0 (pt (v:=.bool true) r0 r0) (tA (.bool true) r0 (nn (rt (fT (.bool true) r0 ?_))))))
     have e2:true=letC c:=by simp only[letC]; (simp; omega)
     exact⟨(congrArg (Value.bool) e2),hs0⟩
    ·refine q ⟨_,rfl,rfl⟩ r0 r0 (mv (v:=.int .u8 (c.toNat:Int)) r0) (q ⟨_,rfl,rfl⟩ r0 r0 (eqi (k:=.u8) (a:=(c.toNat:Int)) (b:=45) r0 r0) (qt r0 (pf (v:=.bool (decide ((c.toNat:Int)=45))) r0 r0) (tA (.bool (decide ((c.toNat:Int)=45))) r0 (nn (rt (fT (.bool (decide ((c.toNat:Int)=45))) r0 ?_))))))
     have e3:(decide ((c.toNat:Int)=45))=letC c:=by simp only[letC]; simp[h1,h2,h3,h4]
     exact⟨(congrArg (Value.bool) e3),hs0⟩
   ·refine gf5 r0 (gf5 r0 (q ⟨_,rfl,rfl⟩ r0 r0 (pf (v:=.bool false) r0 r0) (qt r0 (pf (v:=.bool false) r0 r0) (tm (.bool false) r0 (q ⟨_,rfl,rfl⟩ r0 r0 (mv (v:=.int .u8 (c.toNat:Int)) r0) (q ⟨_,rfl,rfl⟩ r0 r0 (eqi (k:=.u8) (a:=(c.toNat:Int)) (b:=45) r0 r0) (qt r0 (pf (v:=.bool (decide ((c.toNat:Int)=45))) r0 r0) ?_)))))))
    refine tA (.bool (decide ((c.toNat:Int)=45))) r0 (nn (rt (fT (.bool (decide ((c.toNat:Int)=45))) r0 ?_)))
    have e4:(decide ((c.toNat:Int)=45))=letC c:=by simp only[letC]; (simp; omega)
    exact⟨(congrArg (Value.bool) e4),hs0⟩
 ·refine gf5 r0 (gf5 r0 (qt r0 (pf (v:=.bool false) r0 r0) (tm (.bool false) r0 (q ⟨_,rfl,rfl⟩ r0 r0 (mv (v:=.int .u8 (c.toNat:Int)) r0) (q ⟨_,rfl,rfl⟩ r0 r0 (geq (k:=.u8) (a:=(c.toNat:Int)) (b:=48) r0 r0) (q ⟨_,rfl,rfl⟩ r0 r0 (mv (v:=.bool (decide ((48:Int)≤(c.toNat:Int)))) r0) ?_))))))
  refine spd (p:=(48:Int)≤(c.toNat:Int)) 12 r0 (fun h5=>?_) (fun h5=>?_)
  ·refine q ⟨_,rfl,rfl⟩ r0 r0 (mv (v:=.int .u8 (c.toNat:Int)) r0) (q ⟨_,rfl,rfl⟩ r0 r0 (leq (k:=.u8) (a:=(c.toNat:Int)) (b:=57) r0 r0) (q ⟨_,rfl,rfl⟩ r0 r0 (pt (v:=.bool (decide ((c.toNat:Int)≤57))) r0 r0) (qt r0 (pf (v:=.bool (decide ((c.toNat:Int)≤57))) r0 r0) (tm (.bool (decide ((c.toNat:Int)≤57))) r0 ?_))))
   refine spd (p:=(c.toNat:Int)≤57) 17 r0 (fun h6=>?_) (fun h6=>?_)
   ·refine gt5 r0 (gt5 r0 (qt r0 (pt (v:=.bool true) r0 r0) (tA (.bool true) r0 (nn (rt (fT (.bool true) r0 ?_))))))
    have e5:true=letC c:=by simp only[letC]; (simp; omega)
    exact⟨(congrArg (Value.bool) e5),hs0⟩
   ·refine q ⟨_,rfl,rfl⟩ r0 r0 (mv (v:=.int .u8 (c.toNat:Int)) r0) (q ⟨_,rfl,rfl⟩ r0 r0 (eqi (k:=.u8) (a:=(c.toNat:Int)) (b:=45) r0 r0) (qt r0 (pf (v:=.bool (decide ((c.toNat:Int)=45))) r0 r0) (tA (.bool (decide ((c.toNat:Int)=45))) r0 (nn (rt (fT (.bool (decide ((c.toNat:Int)=45))) r0 ?_))))))
    have e6:(decide ((c.toNat:Int)=45))=letC c:=by simp only[letC]; simp[h1,h5,h6]
    exact⟨(congrArg (Value.bool) e6),hs0⟩
  ·refine gf5 r0 (gf5 r0 (q ⟨_,rfl,rfl⟩ r0 r0 (pf (v:=.bool false) r0 r0) (qt r0 (pf (v:=.bool false) r0 r0) (tm (.bool false) r0 (q ⟨_,rfl,rfl⟩ r0 r0 (mv (v:=.int .u8 (c.toNat:Int)) r0) (q ⟨_,rfl,rfl⟩ r0 r0 (eqi (k:=.u8) (a:=(c.toNat:Int)) (b:=45) r0 r0) (qt r0 (pf (v:=.bool (decide ((c.toNat:Int)=45))) r0 r0) ?_)))))))
   refine tA (.bool (decide ((c.toNat:Int)=45))) r0 (nn (rt (fT (.bool (decide ((c.toNat:Int)=45))) r0 ?_)))
   have e7:(decide ((c.toNat:Int)=45))=letC c:=by simp only[letC]; simp[h1,h5]
   exact⟨(congrArg (Value.bool) e7),hs0⟩
theorem isPort (x:Int) (w:World):Does Tryz.prog 122 [I x] w (fun v w'=>v=.bool (decide (0≤x∧x≤65535))∧SH w w' [] []):=by
 refine fE (N:=5) Tryz.func122 r0 (by kernel_rfl) r0 ?_
 have hs0:=SH.refl w []
 refine sr (tA (.bool false) r0 (nx (tm (I x) r0 ?_)))
 refine cL r0 (iWithin (x:=x) (lo:=0) (hi:=65535) (w:=_)) ?_
 rintro _ w1 ⟨rfl,hs1⟩
 replace hs1:=hs0.call0 hs1
 refine tA (.bool (decide (0≤x∧x≤65535))) r0 (nn (rt (fT (.bool (decide (0≤x∧x≤65535))) r0 ?_)))
 exact⟨rfl,hs1⟩
theorem iConsists (l:List UInt8) (m:List UInt8) (w:World) (hl_n:l.length≤9223372036854775807):Does Tryz.prog 155 [Str l,Str m] w (fun v w'=>v=.bool (l.all (okC m))∧SH w w' [] []):=by
 refine fE (N:=32) Tryz.func155 r0 (by kernel_rfl) r0 ?_
 have hs0:=SH.refl w []
 refine sr (tA (.bool false) r0 (nn (sq (sr ?_))))
 refine tm (Str l) r0 (qt r0 (lnS (l:=l) st9 r0) (tm (I 0) r0 (nn (bl (lp (σ:=Nat) (fun(k:Nat) f w'=>Hz f [(0,Str l),(1,Str m),(7,I (l.length:Int)),(8,I (k:Int))]∧(k≤l.length)∧((l.take k).all (okC m)=true)∧SH w w' [] []) (fun k=>l.length-k) 0 ⟨(zR r0),(by simp),(by simp),hs0⟩ ?_)))))
 rintro k f w1 ⟨⟨g1,rfl⟩,hk,ha,hs1⟩
 refine sr (qt r0 (lss (k:=.i64) (a:=(k:Int)) (b:=(l.length:Int)) r0 r0) (nn (sq ?_)))
 refine cdd (p:=(k:Int)<(l.length:Int)) r0 (fun h1=>?_) (fun h1=>?_)
 ·refine sk (nN (sq (bl (sr (tm (I (k:Int)) r0 (tA (I (k:Int)) r0 ?_))))))
  refine nx (tm (Str l) r0 (tm (I (k:Int)) r0 (qt r0 (ixs (l:=l) k st9 r0 r0 (by omega)) (cL r0 (iLetter (c:=(l.getD k 0)) (w:=_)) ?_))))
  rintro _ w2 ⟨rfl,hs2⟩
  replace hs2:=hs1.call0 hs2
  refine qt r0 (nd (p:=97≤(((l.getD k 0).toNat:Nat):Int)∧(((l.getD k 0).toNat:Nat):Int)≤122) r0) (tm (.bool (decide (¬ (97≤(((l.getD k 0).toNat:Nat):Int)∧(((l.getD k 0).toNat:Nat):Int)≤122)))) r0 ?_)
  refine spd (p:=¬ (97≤(((l.getD k 0).toNat:Nat):Int)∧(((l.getD k 0).toNat:Nat):Int)≤122)) 16 r0 (fun h2=>?_) (fun h2=>?_)
  ·refine q ⟨_,rfl,rfl⟩ r0 r0 (mv (v:=Str l) r0) (q ⟨_,rfl,rfl⟩ r0 r0 (mv (v:=I (k:Int)) r0) (q ⟨_,rfl,rfl⟩ r0 r0 (ixs (l:=l) k st9 r0 r0 (by omega)) (cl ⟨_,rfl,rfl⟩ r0 (iDigit (c:=(l.getD k 0)) (w:=_)) ?_)))
   rintro _ w3 ⟨rfl,hs3⟩
   replace hs3:=hs2.call0 hs3
   refine q ⟨_,rfl,rfl⟩ r0 r0 (nd (p:=48≤(((l.getD k 0).toNat:Nat):Int)∧(((l.getD k 0).toNat:Nat):Int)≤57) r0) (qt r0 (pt (v:=.bool (decide (¬ (48≤(((l.getD k 0).toNat:Nat):Int)∧(((l.getD k 0).toNat:Nat):Int)≤57)))) r0 r0) (tm (.bool (decide (¬ (48≤(((l.getD k 0).toNat:Nat):Int)∧(((l.getD k 0).toNat:Nat):Int)≤57)))) r0 ?_))
   refine spd (p:=¬ (48≤(((l.getD k 0).toNat:Nat):Int)∧(((l.getD k 0).toNat:Nat):Int)≤57)) 23 r0 (fun h3=>?_) (fun h3=>?_)
   ·refine q ⟨_,rfl,rfl⟩ r0 r0 (mv (v:=Str m) r0) (q ⟨_,rfl,rfl⟩ r0 r0 (mv (v:=Str l) r0) (q ⟨_,rfl,rfl⟩ r0 r0 (mv (v:=I (k:Int)) r0) (q ⟨_,rfl,rfl⟩ r0 r0 (ixs (l:=l) k st9 r0 r0 (by omega)) (cl ⟨_,rfl,rfl⟩ r0 (stIndexByte (l:=m) (c:=(l.getD k 0)) (w:=_)) ?_))))
    rintro _ w4 ⟨rfl,hs4⟩
    replace hs4:=hs3.call0 hs4
    refine q ⟨_,rfl,rfl⟩ r0 r0 (lss (k:=.i64) (a:=idxB m (l.getD k 0)) (b:=0) r0 r0) (qt r0 (pt (v:=.bool (decide ((idxB m (l.getD k 0))<0))) r0 r0) (nn ?_))
    refine cdd (p:=(idxB m (l.getD k 0))<0) r0 (fun h4=>?_) (fun h4=>?_)
    ·refine sr (tA (.bool false) r0 (nn ?_))
     refine rt (bR (tR (tR (bR (tR ?_)))))
     refine fT (.bool false) r0 ?_
     have e1:false=l.all (okC m):=by exact(all_no (d:=0) (k:=k) (by omega) (by simp only[okC,decide_eq_false_iff_not]; omega)).symm
     exact⟨(congrArg (Value.bool) e1),hs4⟩
    ·refine sk (bN (nN (rg (qt r0 (add (a:=(k:Int)) (b:=1) r0 r0 (by exact⟨by omega,by omega⟩)) (tm (I ((k:Int)+1)) r0 (nn ?_))))))
     refine⟨(k+1),⟨(zR r0),(by omega),(all_step (d:=0) (by omega) ha (by simp only[okC,decide_eq_true_eq]; omega)),hs4⟩,?_⟩
     omega
   ·refine gf5 r0 (gf5 r0 (gf5 r0 (gf5 r0 (gf5 r0 (gf5 r0 (qt r0 (pf (v:=.bool false) r0 r0) (nl ?_)))))))
    refine nN (cdf r0 (sk (bN (nN (rg (qt r0 (add (a:=(k:Int)) (b:=1) r0 r0 (by exact⟨by omega,by omega⟩)) (tm (I ((k:Int)+1)) r0 ?_)))))))
    refine nn ?_
    refine⟨(k+1),⟨(zR r0),(by omega),(all_step (d:=0) (by omega) ha (by simp only[okC,decide_eq_true_eq]; omega)),hs3⟩,?_⟩
    omega
  ·refine gf5 r0 (gf5 r0 (gf5 r0 (gf5 r0 (gf5 r0 (qt r0 (pf (v:=.bool false) r0 r0) (tm (.bool false) r0 (gf5 r0 ?_)))))))
   refine gf5 r0 (gf5 r0 (gf5 r0 (gf5 r0 (gf5 r0 (qt r0 (pf (v:=.bool false) r0 r0) (nn ?_))))))
   refine cdf r0 (sk (bN (nN (rg (qt r0 (add (a:=(k:Int)) (b:=1) r0 r0 (by exact⟨by omega,by omega⟩)) (tm (I ((k:Int)+1)) r0 (nl ?_)))))))
   refine nN ?_
   refine⟨(k+1),⟨(zR r0),(by omega),(all_step (d:=0) (by omega) ha (by simp only[okC,decide_eq_true_eq]; omega)),hs2⟩,?_⟩
   omega
 ·refine ex (tE (tE (bE ?_)))
  refine nN (sr (tA (.bool true) r0 (nn (rt (fT (.bool true) r0 ?_)))))
  have e2:true=l.all (okC m):=by exact(all_yes (by omega) ha).symm
  exact⟨(congrArg (Value.bool) e2),hs1⟩
theorem slClone {Axs:Option Addr} {cxs:Nat} (xs:List Int) (w:World) (hxs:Sl w [] 1 Axs xs.length cxs (xs.map I)) (hxs_n:xs.length≤1099511627776):Does Tryz.prog 104 [.slice Axs xs.length cxs] w (fun v w'=>∃ Ar:Option Addr,∃ cr:Nat,v=.slice Ar xs.length cr∧SH w w' [] [.own Ar xs.length cr 3 1 (xs.map I)]):=by
 refine fE (N:=8) Tryz.func104 r0 (by kernel_rfl) r0 ?_
 have hs0:=SH.refl w []
 have hxs_m:xs.length≤9223372036854775807:=Nat.le_trans hxs.cap hxs.capMax
 refine sr (tA ns r0 (nn (sq (sr ?_))))
 refine tm (Z11 Axs xs cxs) r0 (qt r0 (slnil (A:=Axs) sl22 r0 r0) (nn ?_))
 refine cdd (p:=Axs=none) r0 (fun h1=>?_) (fun h1=>?_)
 ·refine sr (tA ns r0 (nn (rt (tR ?_))))
  refine fT ns r0 ?_
  have hs1:=hs0.nl [.own none (([]:List Int).length) 0 3 1 (([]:List Int).map I)] r0
  have e1:([]:List Int)=xs:=by exact(sl_none hxs (by assumption)).symm
  have e2:=congrArg List.length e1
  exact⟨none,0,(slv r0 e2 r0),(hs1.cast (lc (own_eq (g:=I) r0 e2 r0 e1) r0))⟩
 ·refine sk (nN (sr (bsk hs0 sl22 [] [] trivial r0 (fun b1 w1 hs2=>?_))))
  refine tm (Z11 Axs xs cxs) r0 (apm (g:=I) (ys:=([]:List Int)) (zs:=xs) hs2 0 r0 sl22 r0 r0 r0 (hxs.up0 hs2) (fun _=>rfl) (by unfold maxLen; (simp; omega)) (by(simp; omega)) trivial r0 (fun A1 c1 w2 hs3=>?_))
  refine tA (Z11 A1 xs c1) r0 (nn (rt (fT (Z11 A1 xs c1) r0 ?_)))
  exact⟨A1,c1,rfl,hs3⟩
theorem slGrow (n:Int) (w:World) (hn:0≤n∧n≤1099511627776):Does Tryz.prog 165 [ns,I n] w (fun v w'=>∃ Ar:Option Addr,∃ cr:Nat,v=.slice Ar ([]:List Int).length cr∧SH w w' [] [.own Ar (([]:List Int).length) cr 3 1 (([]:List Int).map I)]):=by
 refine fE (N:=27) Tryz.func165 r0 (by kernel_rfl) r0 ?_
 have hs0:=SH.refl w []
 refine sr (tA ns r0 (nn (sq (sr ?_))))
 refine tm (I n) r0 (qt r0 (lss (k:=.i64) (a:=n) (b:=0) r0 r0) (nn ?_))
 refine cdd (p:=n<0) r0 (fun h1=>absurd h1 (by omega)) (fun h1=>?_)
 refine sk (nN (sq (sr (tm (I n) r0 (tm ns r0 (qt r0 (lnC (c:=0) sl22 r0) ?_))))))
 refine tm ns r0 (qt r0 (lnA (n:=0) sl22 r0) (qt r0 (sub (a:=0) (b:=0) r0 r0 (by exact⟨by omega,by omega⟩)) (qt r0 (sub (a:=n) (b:=(0:Int)-0) r0 r0 (by exact⟨by omega,by omega⟩)) (tA (I (n-((0:Int)-0))) r0 (nn (sq ?_))))))
 refine rg (tm (I (n-((0:Int)-0))) r0 (qt r0 (gtr (k:=.i64) (a:=n-((0:Int)-0)) (b:=0) r0 r0) (nn ?_)))
 refine cdd (p:=(0:Int)<(n-((0:Int)-0))) r0 (fun h2=>?_) (fun h2=>?_)
 ·refine rg (tm ns r0 (tm ns r0 (qt r0 (lnC (c:=0) sl22 r0) (qt r0 (cun sl22 r0 r0) (tm (I (n-((0:Int)-0))) r0 (apz (g:=I) (zz:=0) (m:=(n-((0:Int)-0)).toNat) hs0 sl22 r0 ti3 r0 (ieq (x:=n-((0:Int)-0)) (by omega)) (by omega) (by unfold maxLen; omega) (by omega) trivial r0 (fun A1 c1 w1 hs1=>?_)))))))
  refine tm ns r0 (qt r0 (lnA (n:=0) sl22 r0) ?_)
  have e1:((List.replicate ((n-((0:Int)-0)).toNat) (0:Int)).map I).take (0*1)=((List.replicate ((n-((0:Int)-0)).toNat) (0:Int)).take 0).map I:=by rfl
  have hs2:SH w w1 [] [.own A1 0 c1 3 1 (((List.replicate ((n-((0:Int)-0)).toNat) (0:Int)).take 0).map I)]:=e1 ▸ SH.trunc hs1 0 (0) r0 (by omega)
  refine qt r0 (cuh 0 sl22 r0 r0 (Nat.le_trans (by omega) (own_cap hs1 0 r0).1)) (tA (.slice A1 0 c1) r0 ?_)
  have e2:0=((List.replicate ((n-((0:Int)-0)).toNat) (0:Int)).take 0).length:=by rfl
  have hs3:SH w w1 [] [.own A1 (((List.replicate ((n-((0:Int)-0)).toNat) (0:Int)).take 0).length) c1 3 1 (((List.replicate ((n-((0:Int)-0)).toNat) (0:Int)).take 0).map I)]:=(hs2.cast (lc (own_eq (g:=I) r0 e2 r0 r0) r0))
  refine re 0 (v:=.slice A1 (((List.replicate ((n-((0:Int)-0)).toNat) (0:Int)).take 0).length) c1) (show (.slice A1 0 c1:Value)=.slice A1 (((List.replicate ((n-((0:Int)-0)).toNat) (0:Int)).take 0).length) c1 from slv r0 e2 r0) (nx (tm (.slice A1 (((List.replicate ((n-((0:Int)-0)).toNat) (0:Int)).take 0).length) c1) r0 (tA (.slice A1 (((List.replicate ((n-((0:Int)-0)).toNat) (0:Int)).take 0).length) c1) r0 (nl ?_))))
  refine nN (rt (fT (.slice A1 (((List.replicate ((n-((0:Int)-0)).toNat) (0:Int)).take 0).length) c1) r0 ?_))
  have e3:(List.replicate ((n-((0:Int)-0)).toNat) (0:Int)).take 0=([]:List Int):=by rfl
  have e4:=congrArg List.length e3
  exact⟨A1,c1,(slv r0 e4 r0),(hs3.cast (lc (own_eq (g:=I) r0 e4 r0 e3) r0))⟩
 ·refine sk (nN (sr (tm ns r0 (tA ns r0 (nn ?_)))))
  refine rt (fT ns r0 ?_)
  have hs4:=hs0.nl [.own none (([]:List Int).length) 0 3 1 (([]:List Int).map I)] r0
  exact⟨none,0,rfl,hs4⟩
theorem slConcat {Ahs:Option Addr} {chs:Nat} (hs:List Hd) (w:World) (hhs:Sl w [] 1 Ahs hs.length chs (hs.map hv)) (hhs_in: ∀ u∈hs,HdOk w [] u) (hct:(catH hs).length≤1099511627776):Does Tryz.prog 130 [.slice Ahs hs.length chs] w (fun v w'=>∃ Ar:Option Addr,∃ cr:Nat,v=.slice Ar (catH hs).length cr∧SH w w' [] [.own Ar ((catH hs).length) cr 3 1 ((catH hs).map I)]):=by
 refine fE (N:=36) Tryz.func130 r0 (by kernel_rfl) r0 ?_
 have hs0:=SH.refl w []
 have hhs_m:hs.length≤9223372036854775807:=Nat.le_trans hhs.cap hhs.capMax
 refine sr (tA ns r0 (nx (tA (I 0) r0 ?_)))
 refine nn (sq (sr (tm (.slice Ahs hs.length chs) r0 (qt r0 (lnA (n:=hs.length) sl91 r0) (tm (I 0) r0 ?_)))))
 refine nn (bl (lp (σ:=Nat) (fun(k:Nat) f w'=>Hz f [(0,.slice Ahs hs.length chs),(3,I ((catH (hs.take k)).length:Int)),(9,.slice Ahs hs.length chs),(10,I (hs.length:Int)),(11,I (k:Int))]∧(k≤hs.length)∧SH w w' [] []) (fun k=>hs.length-k) 0 ⟨(zH ⟨rfl,(show (I 0:Value)=I ((catH (hs.take 0)).length:Int) from congrArg (Value.int .i64) (by simp[catH])),rfl,rfl,rfl,trivial⟩),(by simp),hs0⟩ ?_))
 rintro k f w1 ⟨⟨g1,rfl⟩,hk,hs1⟩
 refine sr (qt r0 (lss (k:=.i64) (a:=(k:Int)) (b:=(hs.length:Int)) r0 r0) (nn (sq ?_)))
 refine cdd (p:=(k:Int)<(hs.length:Int)) r0 (fun h1=>?_) (fun h1=>?_)
 ·refine sk (nN (sq (bl (sr (ixw1 k sl91 r0 r0 hhs (by omega) (getm hv hd0 (by omega)) trivial r0 (fun a1 ha1=>?_))))))
  refine qt r0 (lda (v:=.slice ((hs.getD k hd0).A) (((hs.getD k hd0).xs).length) ((hs.getD k hd0).c)) hs1 ha1 (fun _ h=>h) r0 r0 one22) (tA (.slice ((hs.getD k hd0).A) (((hs.getD k hd0).xs).length) ((hs.getD k hd0).c)) r0 (nx (tm (I ((catH (hs.take k)).length:Int)) r0 (tm (.slice ((hs.getD k hd0).A) (((hs.getD k hd0).xs).length) ((hs.getD k hd0).c)) r0 ?_))))
  refine qt r0 (lnA (n:=((hs.getD k hd0).xs).length) sl22 r0) (qt r0 (add (a:=((catH (hs.take k)).length:Int)) (b:=((((hs.getD k hd0).xs).length:Nat):Int)) r0 r0 (by have hq:=catH_len (l:=hs) (k:=k+1); rw[← catH_succ (by omega),List.length_append]at hq; exact⟨by omega,by omega⟩)) (tA (I (((catH (hs.take k)).length:Int)+((((hs.getD k hd0).xs).length:Nat):Int))) r0 (nx (tm (I (((catH (hs.take k)).length:Int)+((((hs.getD k hd0).xs).length:Nat):Int))) r0 ?_))))
  refine qt r0 (lss (k:=.i64) (a:=((catH (hs.take k)).length:Int)+((((hs.getD k hd0).xs).length:Nat):Int)) (b:=0) r0 r0) (nn ?_)
  refine cdd (p:=(((catH (hs.take k)).length:Int)+((((hs.getD k hd0).xs).length:Nat):Int))<0) r0 (fun h2=>absurd h2 (by omega)) (fun h2=>?_)
  refine sk (bN (nN (rg (qt r0 (add (a:=(k:Int)) (b:=1) r0 r0 (by exact⟨by omega,by omega⟩)) (tm (I ((k:Int)+1)) r0 (nn ?_))))))
  refine⟨(k+1),⟨(zH ⟨rfl,(show (I (((catH (hs.take k)).length:Int)+((((hs.getD k hd0).xs).length:Nat):Int)):Value)=I ((catH (hs.take (k+1))).length:Int) from congrArg (Value.int .i64) (by rw[← catH_succ (by omega)]; simp)),rfl,rfl,rfl,trivial⟩),(by omega),hs1⟩,?_⟩
  omega
 ·refine ex (tE (tE (bE ?_)))
  refine nN (sr (tm (I ((catH (hs.take k)).length:Int)) r0 (cL r0 (slGrow (n:=((catH (hs.take k)).length:Int)) (w:=_) (hn:=(by have hq:=catH_len (l:=hs) (k:=k); omega))) ?_)))
  rintro _ w2 ⟨A1,c1,rfl,hs2⟩
  replace hs2:=hs1.call0 hs2
  refine tA (.slice A1 (([]:List Int).length) c1) r0 (nn (sq (sr (tm (.slice Ahs hs.length chs) r0 (qt r0 (lnA (n:=hs.length) sl91 r0) ?_)))))
  refine tm (I 0) r0 (nn (bl ?_))
  have e1:([]:List Int)=catH (hs.take 0):=by simp[catH]
  have e2:([]:List Int).length=(catH (hs.take 0)).length:=by rw[e1]
  refine lp (σ:=(Option Addr)×Nat×Nat) (fun⟨Ag6,cg6,j⟩ f w'=>Hz f [(6,.slice Ag6 ((catH (hs.take j)).length) cg6),(25,.slice Ahs hs.length chs),(26,I (hs.length:Int)),(27,I (j:Int))]∧(j≤hs.length)∧SH w w' [] [.own Ag6 ((catH (hs.take j)).length) cg6 3 1 ((catH (hs.take j)).map I)]) (fun⟨Ag6,cg6,j⟩=>hs.length-j) (A1,c1,0) ⟨(zH ⟨(show (.slice A1 (([]:List Int).length) c1:Value)=.slice A1 ((catH (hs.take 0)).length) c1 from slv r0 e2 r0),rfl,rfl,rfl,trivial⟩),(by simp),(hs2.cast (lc (own_eq (g:=I) r0 e2 r0 e1) r0))⟩ ?_
  rintro ⟨Ag6,cg6,j⟩ f w3 ⟨⟨g2,rfl⟩,hj,hs3⟩
  refine sr (qt r0 (lss (k:=.i64) (a:=(j:Int)) (b:=(hs.length:Int)) r0 r0) (nn (sq ?_)))
  refine cdd (p:=(j:Int)<(hs.length:Int)) r0 (fun h3=>?_) (fun h3=>?_)
  ·refine sk (nN (sq (bl (sr (ixw1 j sl91 r0 r0 hhs (by omega) (getm hv hd0 (by omega)) trivial r0 (fun a2 ha2=>?_))))))
   refine qt r0 (lda (v:=.slice ((hs.getD j hd0).A) (((hs.getD j hd0).xs).length) ((hs.getD j hd0).c)) hs3 ha2 (fun _ h=>h) r0 r0 one22) (tA (.slice ((hs.getD j hd0).A) (((hs.getD j hd0).xs).length) ((hs.getD j hd0).c)) r0 (nn (rg (tm (.slice Ag6 ((catH (hs.take j)).length) cg6) r0 (tm (.slice ((hs.getD j hd0).A) (((hs.getD j hd0).xs).length) ((hs.getD j hd0).c)) r0 (apm (g:=I) (ys:=catH (hs.take j)) (zs:=(hs.getD j hd0).xs) hs3 0 r0 sl22 r0 r0 r0 (Sl.up0 (hhs_in _ (getD_mem' (by omega))) hs3) (fun _=>rfl) (by unfold maxLen; have hq:=catH_len (l:=hs) (k:=j+1); rw[← catH_succ (by omega),List.length_append]at hq; omega) (by have hq:=catH_len (l:=hs) (k:=j+1); rw[← catH_succ (by omega),List.length_append]at hq; omega) trivial r0 (fun A2 c2 w4 hs4=>?_)))))))
   refine tA (.slice A2 (((catH (hs.take j))++((hs.getD j hd0).xs)).length) c2) r0 (nl (bN (nN (rg (qt r0 (add (a:=(j:Int)) (b:=1) r0 r0 (by exact⟨by omega,by omega⟩)) (tm (I ((j:Int)+1)) r0 (nl ?_)))))))
   refine nN ?_
   have e3:(catH (hs.take j))++((hs.getD j hd0).xs)=catH (hs.take (j+1)):=by exact catH_succ (by omega)
   have e4:((catH (hs.take j))++((hs.getD j hd0).xs)).length=(catH (hs.take (j+1))).length:=by rw[e3]
   refine⟨(A2,c2,j+1),⟨(zH ⟨(show (.slice A2 (((catH (hs.take j))++((hs.getD j hd0).xs)).length) c2:Value)=.slice A2 ((catH (hs.take (j+1))).length) c2 from slv r0 e4 r0),rfl,rfl,rfl,trivial⟩),(by omega),(hs4.cast (lc (own_eq (g:=I) r0 e4 r0 e3) r0))⟩,?_⟩
   show hs.length-(j+1)<hs.length-j
   omega
  ·refine ex (tE (tE (bE ?_)))
   refine nN (sr (tm (.slice Ag6 ((catH (hs.take j)).length) cg6) r0 (tA (.slice Ag6 ((catH (hs.take j)).length) cg6) r0 (nn (rt ?_)))))
   refine fT (.slice Ag6 ((catH (hs.take j)).length) cg6) r0 ?_
   have e5:catH (hs.take j)=catH hs:=by have:j=hs.length:=(by omega); subst this; simp
   have e6:=congrArg List.length e5
   exact⟨Ag6,cg6,(slv r0 e6 r0),(hs3.cast (lc (own_eq (g:=I) r0 e6 r0 e5) r0))⟩
theorem szIntS {Axs:Option Addr} {cxs:Nat} (xs:List Int) (z:Int) (w:World) (hxs:Sl w [] 1 Axs xs.length cxs (xs.map I)) (hz:0≤z∧z≤1099511627776):Does Tryz.prog 38 [.slice Axs xs.length cxs,I z] w (fun v w'=>v=.int .i64 (szI xs.length z)∧SH w w' [] []):=by
 refine fE (N:=12) Tryz.func38 r0 (by kernel_rfl) r0 ?_
 have hs0:=SH.refl w []
 have hxs_m:xs.length≤9223372036854775807:=Nat.le_trans hxs.cap hxs.capMax
 refine sr (tA (I 0) r0 (nx (tm (I z) r0 ?_)))
 refine tm (Z11 Axs xs cxs) r0 (qt r0 (lnA (n:=xs.length) sl22 r0) (qt r0 (sub (a:=z) (b:=(xs.length:Int)) r0 r0 (by exact⟨by omega,by omega⟩)) (tA (I (z-(xs.length:Int))) r0 (nn (sq (sq ?_))))))
 refine rg (tm (I (z-(xs.length:Int))) r0 (qt r0 (lss (k:=.i64) (a:=z-(xs.length:Int)) (b:=0) r0 r0) (nn ?_)))
 refine cdd (p:=(z-(xs.length:Int))<0) r0 (fun h1=>?_) (fun h1=>?_)
 ·refine sr (tA (I (-1)) r0 (nn (rt (tR ?_))))
  refine fT (I (-1)) r0 ?_
  have e1:(-1)=szI xs.length z:=by simp[szI] <;> omega
  exact⟨(congrArg (Value.int .i64) e1),hs0⟩
 ·refine sk (nN (sr (tm (I (z-(xs.length:Int))) r0 (tA (I (z-(xs.length:Int))) r0 (nn ?_)))))
  refine rt (fT (I (z-(xs.length:Int))) r0 ?_)
  have e2:z-(xs.length:Int)=szI xs.length z:=by simp[szI] <;> omega
  exact⟨(congrArg (Value.int .i64) e2),hs0⟩
theorem slIndexS (l:List UInt8) (c:UInt8) (w:World):Does Tryz.prog 182 [Str l,Str [c]] w (fun v w'=>v=.int .i64 (idxB l c)∧SH w w' [] []):=by
 refine fE (N:=143) Tryz.func182 r0 (by kernel_rfl) r0 ?_
 have hs0:=SH.refl w []
 refine sr (tA (I 0) r0 (nx (tm (Str [c]) r0 ?_)))
 refine qt r0 (lnS (l:=[c]) st9 r0) (tA (I (([c].length:Nat):Int)) r0 (nn (sq (bl (sr ?_)))))
 refine tm (I (([c].length:Nat):Int)) r0 (qt r0 (eqi (k:=.i64) (a:=(([c].length:Nat):Int)) (b:=0) r0 r0) (tm (.bool (decide ((([c].length:Nat):Int)=0))) r0 ?_))
 refine spd (p:=(([c].length:Nat):Int)=0) 19 r0 (fun h1=>absurd h1 (by simp)) (fun h1=>?_)
 refine q ⟨_,rfl,rfl⟩ r0 r0 (mv (v:=Str [c]) r0) (q ⟨_,rfl,rfl⟩ r0 r0 (mv (v:=Str l) r0) (q ⟨_,rfl,rfl⟩ r0 r0 (eqs (l:=[c]) (m:=l) r0 r0) (qt r0 (pf (v:=.bool (decide ([c]=l))) r0 r0) (tA (.bool (decide ([c]=l))) r0 (nn ?_)))))
 refine cdd (p:=[c]=l) r0 (fun h2=>?_) (fun h2=>?_)
 ·refine sr (tA (I 0) r0 (nn ?_))
  refine rt (bR (tR ?_))
  refine fT (I 0) r0 ?_
  have e1:0=idxB l c:=by subst h2; exact(idxB_self c).symm
  exact⟨(congrArg (Value.int .i64) e1),hs0⟩
 ·refine sr (tm (I (([c].length:Nat):Int)) r0 (qt r0 (eqi (k:=.i64) (a:=(([c].length:Nat):Int)) (b:=1) r0 r0) (tA (.bool (decide ((([c].length:Nat):Int)=1))) r0 (nn ?_))))
  refine cdd (p:=(([c].length:Nat):Int)=1) r0 (fun h3=>?_) (fun h3=>absurd (by rfl) h3)
  refine sr (tm (Str l) r0 (tm (Str [c]) r0 (qt r0 (ixs (l:=[c]) 0 st9 r0 r0 (by omega)) (cL r0 (slIndexByte (l:=l) (c:=([c].getD 0 0)) (w:=_)) ?_))))
  rintro _ w1 ⟨rfl,hs1⟩
  replace hs1:=hs0.call0 hs1
  refine tA (I (idxB l ([c].getD 0 0))) r0 (nn ?_)
  refine rt (bR (tR ?_))
  refine fT (I (idxB l ([c].getD 0 0))) r0 ?_
  have e2:idxB l ([c].getD 0 0)=idxB l c:=by rfl
  exact⟨(congrArg (Value.int .i64) e2),hs1⟩
theorem stIndex (l:List UInt8) (c:UInt8) (w:World):Does Tryz.prog 191 [Str l,Str [c]] w (fun v w'=>v=.int .i64 (idxB l c)∧SH w w' [] []):=by
 refine fE (N:=8) Tryz.func191 r0 (by kernel_rfl) r0 ?_
 have hs0:=SH.refl w []
 refine sr (tA (I 0) r0 (nx (tm (Str l) r0 ?_)))
 refine tm (Str [c]) r0 (cL r0 (slIndexS (l:=l) (c:=c) (w:=_)) ?_)
 rintro _ w1 ⟨rfl,hs1⟩
 replace hs1:=hs0.call0 hs1
 refine tA (I (idxB l c)) r0 (nn (rt (fT (I (idxB l c)) r0 ?_)))
 exact⟨rfl,hs1⟩
theorem stCount (l:List UInt8) (c:UInt8) (w:World):Does Tryz.prog 190 [Str l,Str [c]] w (fun v w'=>v=.int .i64 ((l.count c:Nat):Int)∧SH w w' [] []):=by
 refine fE (N:=34) Tryz.func190 r0 (by kernel_rfl) r0 ?_
 have hs0:=SH.refl w []
 refine sr (tA (I 0) r0 (nn (sq (sr ?_))))
 refine tm (Str [c]) r0 (qt r0 (lnS (l:=[c]) st9 r0) (qt r0 (eqi (k:=.i64) (a:=(([c].length:Nat):Int)) (b:=0) r0 r0) (nn ?_)))
 refine cdd (p:=(([c].length:Nat):Int)=0) r0 (fun h1=>absurd h1 (by simp)) (fun h1=>?_)
 refine sk (nN (sq (sr (tm (Str [c]) r0 (qt r0 (lnS (l:=[c]) st9 r0) (qt r0 (eqi (k:=.i64) (a:=(([c].length:Nat):Int)) (b:=1) r0 r0) ?_))))))
 refine nn ?_
 refine cdd (p:=(([c].length:Nat):Int)=1) r0 (fun h2=>?_) (fun h2=>absurd (by rfl) h2)
 refine sr (tm (Str l) r0 (tm (Str [c]) r0 (qt r0 (ixs (l:=[c]) 0 st9 r0 r0 (by omega)) (qt r0 (csc (l:=l) (c:=([c].getD 0 0)) Tryz.func210 (by kernel_rfl) r0 (by kernel_rfl) (by kernel_rfl) r0 r0) (tA (I ((l.count ([c].getD 0 0):Nat):Int)) r0 (nl ?_))))))
 refine nN (rt (tR ?_))
 refine fT (I ((l.count ([c].getD 0 0):Nat):Int)) r0 ?_
 have e1:((l.count ([c].getD 0 0):Nat):Int)=((l.count c:Nat):Int):=by rfl
 exact⟨(congrArg (Value.int .i64) e1),hs0⟩
theorem genSplit (l:List UInt8) (c:UInt8) (w:World) (hl_n:l.length≤1099511627776):Does Tryz.prog 175 [Str l,Str [c],I 0,I (-1)] w (fun v w'=>∃ Ar:Option Addr,∃ cr:Nat,v=.slice Ar (splitB c l).length cr∧SH w w' [] [.own Ar ((splitB c l).length) cr 9 1 ((splitB c l).map Str)]):=by
 refine fE (N:=66) Tryz.func175 r0 (by kernel_rfl) r0 ?_
 have hs0:=SH.refl w []
 refine sr (tA ns r0 (nn (sq (sr ?_))))
 refine tm (I (-1)) r0 (qt r0 (eqi (k:=.i64) (a:=(-1)) (b:=0) r0 r0) (nn ?_))
 refine cdd (p:=((-1):Int)=0) r0 (fun h1=>absurd h1 (by decide)) (fun h1=>?_)
 refine sk (nN (sq (sr (tm (Str [c]) r0 (qt r0 (eqs (l:=[c]) (m:=[]) r0 r0) (nl ?_))))))
 refine nN ?_
 refine cdd (p:=[c]=[]) r0 (fun h2=>absurd h2 (by simp)) (fun h2=>?_)
 refine sk (nN (sq (sr (tm (I (-1)) r0 (qt r0 (lss (k:=.i64) (a:=(-1)) (b:=0) r0 r0) (nl ?_))))))
 refine nN ?_
 refine cdd (p:=(-1)<0) r0 (fun h3=>?_) (fun h3=>absurd (by decide) h3)
 refine rg (tm (Str l) r0 (tm (Str [c]) r0 (cL r0 (stCount (l:=l) (c:=c) (w:=_)) ?_)))
 rintro _ w1 ⟨rfl,hs1⟩
 replace hs1:=hs0.call0 hs1
 refine qt r0 (add (a:=((l.count c:Nat):Int)) (b:=1) r0 r0 (by(have hsl:=splitB_len c l; have hcl:=List.count_le_length (a:=c) (l:=l); exact⟨by omega,by omega⟩))) (tA (I (((l.count c:Nat):Int)+1)) r0 (nx (tm (I (((l.count c:Nat):Int)+1)) r0 (tm (Str l) r0 ?_))))
 refine qt r0 (lnS (l:=l) st9 r0) (qt r0 (add (a:=(l.length:Int)) (b:=1) r0 r0 (by(exact⟨by omega,by omega⟩))) (qt r0 (mnI (a:=((l.count c:Nat):Int)+1) (b:=(l.length:Int)+1) r0 r0) (tA (I (min (((l.count c:Nat):Int)+1) ((l.length:Int)+1))) r0 (nx ?_))))
 refine tm (I (min (((l.count c:Nat):Int)+1) ((l.length:Int)+1))) r0 (mkm (g:=Str) (z:=[]) (n:=(min (((l.count c:Nat):Int)+1) ((l.length:Int)+1)).toNat) hs1 sl147 r0 (ieq (x:=min (((l.count c:Nat):Int)+1) ((l.length:Int)+1)) (by(omega))) (ieq (x:=min (((l.count c:Nat):Int)+1) ((l.length:Int)+1)) (by(omega))) (by(omega)) (by unfold maxLen; (omega)) trivial r0 (fun b1 w2 hs2=>?_))
 refine tA (sb b1 ((List.replicate ((min (((l.count c:Nat):Int)+1) ((l.length:Int)+1)).toNat) ([]:List UInt8)).length) ((min (((l.count c:Nat):Int)+1) ((l.length:Int)+1)).toNat)) r0 (nx (tm (I (min (((l.count c:Nat):Int)+1) ((l.length:Int)+1))) r0 (qt r0 (sub (a:=min (((l.count c:Nat):Int)+1) ((l.length:Int)+1)) (b:=1) r0 r0 (by(exact⟨by omega,by omega⟩))) (tA (I ((min (((l.count c:Nat):Int)+1) ((l.length:Int)+1))-1)) r0 ?_))))
 refine nx (tA (I 0) r0 (nn (sq ?_)))
 refine bl ?_
 have e1:List.replicate ((min (((l.count c:Nat):Int)+1) ((l.length:Int)+1)).toNat) ([]:List UInt8)=(splitB c l).take 0++List.replicate ((splitB c l).length-0) ([]:List UInt8):=by have hsl:=splitB_len c l; have hcl:=List.count_le_length (a:=c) (l:=l); rw[show (min (((l.count c:Nat):Int)+1) ((l.length:Int)+1)).toNat=(splitB c l).length by omega]; simp
 have e2:(List.replicate ((min (((l.count c:Nat):Int)+1) ((l.length:Int)+1)).toNat) ([]:List UInt8)).length=(splitB c l).length:=by(have hsl:=splitB_len c l; have hcl:=List.count_le_length (a:=c) (l:=l); first | rfl | (simp; done) | (simp; omega) | omega)
 refine lp (σ:=(Option Addr)×Nat×Nat×(List UInt8)) (fun⟨Ag9,cg9,k,s⟩ f w'=>Hz f [(0,Str s),(1,Str [c]),(2,I 0),(3,I ((l.count c:Nat):Int)),(9,.slice Ag9 ((splitB c l).length) cg9),(10,I (k:Int))]∧(k<(splitB c l).length)∧(splitB c s=(splitB c l).drop k)∧(s.length≤l.length)∧SH w w' [] [.own Ag9 ((splitB c l).length) cg9 9 1 (((splitB c l).take k++List.replicate ((splitB c l).length-k) ([]:List UInt8)).map Str)]) (fun⟨Ag9,cg9,k,s⟩=>l.length+1-k) ((Z5 b1),(min (((l.count c:Nat):Int)+1) ((l.length:Int)+1)).toNat,0,l) ⟨(zH ⟨rfl,rfl,rfl,(show (I ((min (((l.count c:Nat):Int)+1) ((l.length:Int)+1))-1):Value)=I ((l.count c:Nat):Int) from congrArg (Value.int .i64) (by have hsl:=splitB_len c l; have hcl:=List.count_le_length (a:=c) (l:=l); omega)),(show (.slice (Z5 b1) ((List.replicate ((min (((l.count c:Nat):Int)+1) ((l.length:Int)+1)).toNat) ([]:List UInt8)).length) ((min (((l.count c:Nat):Int)+1) ((l.length:Int)+1)).toNat):Value)=.slice (Z5 b1) ((splitB c l).length) ((min (((l.count c:Nat):Int)+1) ((l.length:Int)+1)).toNat) from slv r0 e2 r0),rfl,trivial⟩),(by have hsl:=splitB_len c l; have hcl:=List.count_le_length (a:=c) (l:=l); omega),(by simp),(Nat.le_refl _),(hs2.cast (lc (own_eq (g:=Str) r0 e2 r0 e1) r0))⟩ ?_
 rintro ⟨Ag9,cg9,k,s⟩ f w3 ⟨⟨g1,rfl⟩,hk,hs_,hsn,hs3⟩
 refine sq (sr (tm (I (k:Int)) r0 (tm (I ((l.count c:Nat):Int)) r0 (qt r0 (lss (k:=.i64) (a:=(k:Int)) (b:=((l.count c:Nat):Int)) r0 r0) (nn ?_)))))
 refine cdd (p:=(k:Int)<((l.count c:Nat):Int)) r0 (fun h4=>?_) (fun h4=>?_)
 ·refine sk (nN (bl (sr (tm (Str s) r0 (tm (Str [c]) r0 (cL r0 (stIndex (l:=s) (c:=c) (w:=_)) ?_))))))
  rintro _ w4 ⟨rfl,hs4⟩
  replace hs4:=hs3.call0 hs4
  refine tA (I (idxB s c)) r0 (nn (sq (sr (tm (I (idxB s c)) r0 (qt r0 (lss (k:=.i64) (a:=idxB s c) (b:=0) r0 r0) ?_)))))
  refine nn ?_
  refine cdd (p:=(idxB s c)<0) r0 (fun h5=>?_) (fun h5=>?_)
  ·refine ex (tE (bX r0 (tE (bE ?_))))
   refine nN (sr (tm (.slice Ag9 ((splitB c l).length) cg9) r0 (tm (I (k:Int)) r0 (tm (Str s) r0 ?_))))
   obtain ⟨b2,rfl⟩:=own_form hs4 0 r0 (by(first | omega | (simp; done) | (simp; omega)))
   refine qt r0 (ixo k sl147 r0 r0 (by(first | omega | (simp; done) | (simp; omega)))) (stomn (g:=Str) (ys:=(splitB c l).take k++List.replicate ((splitB c l).length-k) ([]:List UInt8)) (o:=k) (u:=s) hs4 0 r0 r0 r0 r0 (by(first | omega | (simp; done) | (simp; omega))) r0 one9 trivial (fun w5 hs5=>?_))
   refine nx (tm (sb b2 ((splitB c l).length) cg9) r0 (tm (I (k:Int)) r0 (qt r0 (add (a:=(k:Int)) (b:=1) r0 r0 (by(have hsl:=splitB_len c l; have hcl:=List.count_le_length (a:=c) (l:=l); exact⟨by omega,by omega⟩))) ?_)))
   have e3:((((splitB c l).take k++List.replicate ((splitB c l).length-k) ([]:List UInt8)).set k s).map Str).take ((k+1)*1)=((((splitB c l).take k++List.replicate ((splitB c l).length-k) ([]:List UInt8)).set k s).take (k+1)).map Str:=by simp[List.map_take]
   have hs6:SH w w5 [] [.own (Z5 b2) (k+1) cg9 9 1 (((((splitB c l).take k++List.replicate ((splitB c l).length-k) ([]:List UInt8)).set k s).take (k+1)).map Str)]:=e3 ▸ SH.trunc hs5 0 (k+1) r0 (by(first | omega | (simp; omega)))
   refine qt r0 (cuh (k+1) sl147 r0 r0 (Nat.le_trans (by(first | omega | (simp; omega))) (own_cap hs5 0 r0).1)) (tA (sb b2 (k+1) cg9) r0 ?_)
   have e4:k+1=((((splitB c l).take k++List.replicate ((splitB c l).length-k) ([]:List UInt8)).set k s).take (k+1)).length:=by(first | rfl | (simp; done) | (simp; omega) | (simp at*; omega))
   have hs7:SH w w5 [] [.own (Z5 b2) (((((splitB c l).take k++List.replicate ((splitB c l).length-k) ([]:List UInt8)).set k s).take (k+1)).length) cg9 9 1 (((((splitB c l).take k++List.replicate ((splitB c l).length-k) ([]:List UInt8)).set k s).take (k+1)).map Str)]:=(hs6.cast (lc (own_eq (g:=Str) r0 e4 r0 r0) r0))
   refine re 8 (v:=sb b2 (((((splitB c l).take k++List.replicate ((splitB c l).length-k) ([]:List UInt8)).set k s).take (k+1)).length) cg9) (show (sb b2 (k+1) cg9:Value)=sb b2 (((((splitB c l).take k++List.replicate ((splitB c l).length-k) ([]:List UInt8)).set k s).take (k+1)).length) cg9 from slv r0 e4 r0) (nn (rt (fT (sb b2 (((((splitB c l).take k++List.replicate ((splitB c l).length-k) ([]:List UInt8)).set k s).take (k+1)).length) cg9) r0 ?_)))
   have e5:(((splitB c l).take k++List.replicate ((splitB c l).length-k) ([]:List UInt8)).set k s).take (k+1)=splitB c l:=by exact split_end (split_stop hs_ (by omega))
   have e6:=congrArg List.length e5
   exact⟨(Z5 b2),cg9,(slv r0 e6 r0),(hs7.cast (lc (own_eq (g:=Str) r0 e6 r0 e5) r0))⟩
  ·refine sk (nN (sr (tm (.slice Ag9 ((splitB c l).length) cg9) r0 (tm (I (k:Int)) r0 (tm (Str s) r0 (tm (I (idxB s c)) r0 ?_))))))
   refine tm (I 0) r0 (qt r0 (add (a:=idxB s c) (b:=0) r0 r0 (by(have hsl:=splitB_len c l; have hcl:=List.count_le_length (a:=c) (l:=l); have hib:=idxB_lt s c; (try have e1:[c].length=1:=rfl); exact⟨by omega,by omega⟩))) (qt r0 (cuhs (l:=s) (((idxB s c)+0).toNat) st9 r0 (ieq (x:=(idxB s c)+0) (by(omega))) (by(have hsl:=splitB_len c l; have hcl:=List.count_le_length (a:=c) (l:=l); have hib:=idxB_lt s c; (try have e1:[c].length=1:=rfl); first | omega | (simp; omega)))) ?_))
   obtain ⟨b3,rfl⟩:=own_form hs4 0 r0 (by(first | omega | (simp; done) | (simp; omega)))
   refine qt r0 (ixo k sl147 r0 r0 (by(first | omega | (simp; done) | (simp; omega)))) (stomn (g:=Str) (ys:=(splitB c l).take k++List.replicate ((splitB c l).length-k) ([]:List UInt8)) (o:=k) (u:=s.take (((idxB s c)+0).toNat)) hs4 0 r0 r0 r0 r0 (by(first | omega | (simp; done) | (simp; omega))) r0 one9 trivial (fun w6 hs8=>?_))
   refine nx (tm (Str s) r0 (tm (I (idxB s c)) r0 (tm (Str [c]) r0 (qt r0 (lnS (l:=[c]) st9 r0) ?_))))
   refine qt r0 (add (a:=idxB s c) (b:=(([c].length:Nat):Int)) r0 r0 (by(have hsl:=splitB_len c l; have hcl:=List.count_le_length (a:=c) (l:=l); have hib:=idxB_lt s c; (try have e1:[c].length=1:=rfl); exact⟨by omega,by omega⟩))) (qt r0 (culs (l:=s) (((idxB s c)+(([c].length:Nat):Int)).toNat) st9 r0 (ieq (x:=(idxB s c)+(([c].length:Nat):Int)) (by(omega))) (by(have hsl:=splitB_len c l; have hcl:=List.count_le_length (a:=c) (l:=l); have hib:=idxB_lt s c; (try have e1:[c].length=1:=rfl); first | omega | (simp; omega)))) (tA (Str (s.drop (((idxB s c)+(([c].length:Nat):Int)).toNat))) r0 (nn (rg (tm (I (k:Int)) r0 (qt r0 (add (a:=(k:Int)) (b:=1) r0 r0 (by(have hsl:=splitB_len c l; have hcl:=List.count_le_length (a:=c) (l:=l); exact⟨by omega,by omega⟩))) ?_))))))
   refine tA (I ((k:Int)+1)) r0 (nl (bN (nN ?_)))
   have e7:((splitB c l).take k++List.replicate ((splitB c l).length-k) ([]:List UInt8)).set k (s.take (((idxB s c)+0).toNat))=(splitB c l).take (k+1)++List.replicate ((splitB c l).length-(k+1)) ([]:List UInt8):=by exact split_set (split_take hs_ (by omega) (by omega))
   refine⟨((Z5 b3),cg9,k+1,(s.drop (((idxB s c)+(([c].length:Nat):Int)).toNat))),⟨(zR r0),(by have h_:=splitB_len c l; omega),(split_next hs_ (by omega) (by simp; omega)),(by simp; omega),(hs8.cast (lc (own_eq (g:=Str) r0 r0 r0 e7) r0))⟩,?_⟩
   show l.length+1-(k+1)<l.length+1-k
   (have hcl:=List.count_le_length (a:=c) (l:=l); omega)
 ·refine ex (tE (tE (bE ?_)))
  refine nN (sr (tm (.slice Ag9 ((splitB c l).length) cg9) r0 (tm (I (k:Int)) r0 (tm (Str s) r0 ?_))))
  obtain ⟨b4,rfl⟩:=own_form hs3 0 r0 (by(first | omega | (simp; done) | (simp; omega)))
  refine qt r0 (ixo k sl147 r0 r0 (by(first | omega | (simp; done) | (simp; omega)))) (stomn (g:=Str) (ys:=(splitB c l).take k++List.replicate ((splitB c l).length-k) ([]:List UInt8)) (o:=k) (u:=s) hs3 0 r0 r0 r0 r0 (by(first | omega | (simp; done) | (simp; omega))) r0 one9 trivial (fun w7 hs9=>?_))
  refine nx (tm (sb b4 ((splitB c l).length) cg9) r0 (tm (I (k:Int)) r0 (qt r0 (add (a:=(k:Int)) (b:=1) r0 r0 (by(have hsl:=splitB_len c l; have hcl:=List.count_le_length (a:=c) (l:=l); exact⟨by omega,by omega⟩))) ?_)))
  have e8:((((splitB c l).take k++List.replicate ((splitB c l).length-k) ([]:List UInt8)).set k s).map Str).take ((k+1)*1)=((((splitB c l).take k++List.replicate ((splitB c l).length-k) ([]:List UInt8)).set k s).take (k+1)).map Str:=by simp[List.map_take]
  have hs10:SH w w7 [] [.own (Z5 b4) (k+1) cg9 9 1 (((((splitB c l).take k++List.replicate ((splitB c l).length-k) ([]:List UInt8)).set k s).take (k+1)).map Str)]:=e8 ▸ SH.trunc hs9 0 (k+1) r0 (by(first | omega | (simp; omega)))
  refine qt r0 (cuh (k+1) sl147 r0 r0 (Nat.le_trans (by(first | omega | (simp; omega))) (own_cap hs9 0 r0).1)) (tA (sb b4 (k+1) cg9) r0 ?_)
  have e9:k+1=((((splitB c l).take k++List.replicate ((splitB c l).length-k) ([]:List UInt8)).set k s).take (k+1)).length:=by(first | rfl | (simp; done) | (simp; omega) | (simp at*; omega))
  have hs11:SH w w7 [] [.own (Z5 b4) (((((splitB c l).take k++List.replicate ((splitB c l).length-k) ([]:List UInt8)).set k s).take (k+1)).length) cg9 9 1 (((((splitB c l).take k++List.replicate ((splitB c l).length-k) ([]:List UInt8)).set k s).take (k+1)).map Str)]:=(hs10.cast (lc (own_eq (g:=Str) r0 e9 r0 r0) r0))
  refine re 8 (v:=sb b4 (((((splitB c l).take k++List.replicate ((splitB c l).length-k) ([]:List UInt8)).set k s).take (k+1)).length) cg9) (show (sb b4 (k+1) cg9:Value)=sb b4 (((((splitB c l).take k++List.replicate ((splitB c l).length-k) ([]:List UInt8)).set k s).take (k+1)).length) cg9 from slv r0 e9 r0) (nn (rt (fT (sb b4 (((((splitB c l).take k++List.replicate ((splitB c l).length-k) ([]:List UInt8)).set k s).take (k+1)).length) cg9) r0 ?_)))
  have e10:(((splitB c l).take k++List.replicate ((splitB c l).length-k) ([]:List UInt8)).set k s).take (k+1)=splitB c l:=by exact split_end (split_last hs_ hk (by omega))
  have e11:=congrArg List.length e10
  exact⟨(Z5 b4),cg9,(slv r0 e11 r0),(hs11.cast (lc (own_eq (g:=Str) r0 e11 r0 e10) r0))⟩
theorem stSplit (l:List UInt8) (c:UInt8) (w:World) (hl_n:l.length≤1099511627776):Does Tryz.prog 154 [Str l,Str [c]] w (fun v w'=>∃ Ar:Option Addr,∃ cr:Nat,v=.slice Ar (splitB c l).length cr∧SH w w' [] [.own Ar ((splitB c l).length) cr 9 1 ((splitB c l).map Str)]):=by
 refine fE (N:=8) Tryz.func154 r0 (by kernel_rfl) r0 ?_
 have hs0:=SH.refl w []
 refine sr (tA ns r0 (nx (tm (Str l) r0 ?_)))
 refine tm (Str [c]) r0 (cL r0 (genSplit (l:=l) (c:=c) (w:=_) (hl_n:=(by omega))) ?_)
 rintro _ w1 ⟨A1,c1,rfl,hs1⟩
 replace hs1:=hs0.call0 hs1
 refine tA (.slice A1 ((splitB c l).length) c1) r0 (nn (rt (fT (.slice A1 ((splitB c l).length) c1) r0 ?_)))
 exact⟨A1,c1,rfl,hs1⟩
theorem l2Cut (l:List UInt8) (c:UInt8) (w:World) (hl_n:l.length≤1099511627776):Does Tryz.prog 141 [Str l,.int .u8 (c.toNat:Int)] w (fun v w'=>∃ Ar:Option Addr,∃ cr:Nat,v=.slice Ar (splitB c l).length cr∧SH w w' [] [.own Ar ((splitB c l).length) cr 9 1 ((splitB c l).map Str)]):=by
 refine fE (N:=35) Tryz.func141 r0 (by kernel_rfl) r0 ?_
 have hs0:=SH.refl w []
 refine sr (tA ns r0 (nx (bsk hs0 sl147 [] [] trivial r0 (fun b1 w1 hs1=>?_))))
 refine tA (sb b1 (([]:List (List UInt8)).length) 0) r0 (nx (tA (I 0) r0 (nn ?_)))
 refine sq (sr (tA (I 0) r0 (nn (bl (lp (σ:=(Option Addr)×Nat×Nat×Nat×(List (List UInt8))) (fun⟨Ag5,cg5,i,a,zs⟩ f w'=>Hz f [(0,Str l),(1,.int .u8 (c.toNat:Int)),(5,.slice Ag5 zs.length cg5),(6,I (a:Int)),(7,I (i:Int))]∧(i≤l.length)∧(a≤i)∧(zs++splitB c (l.drop a)=splitB c l)∧(∀ j,a≤j→j<i→l.getD j 0≠c)∧SH w w' [] [.own Ag5 zs.length cg5 9 1 (zs.map Str)]) (fun⟨Ag5,cg5,i,a,zs⟩=>l.length-i) ((Z5 b1),0,0,0,([]:List (List UInt8))) ⟨(zR r0),(by omega),(by omega),(by simp),(by intro j _ hj; omega),hs1⟩ ?_)))))
 rintro ⟨Ag5,cg5,i,a,zs⟩ f w2 ⟨⟨g1,rfl⟩,hi,ha,hz,hn,hs2⟩
 refine sq (sr (tm (I (i:Int)) r0 (tm (Str l) r0 (qt r0 (lnS (l:=l) st9 r0) (qt r0 (lss (k:=.i64) (a:=(i:Int)) (b:=(l.length:Int)) r0 r0) (nl ?_))))))
 refine nN ?_
 refine cdd (p:=(i:Int)<(l.length:Int)) r0 (fun h1=>?_) (fun h1=>?_)
 ·refine sk (nN (sq (bl (sr (tm (Str l) r0 (tm (I (i:Int)) r0 ?_))))))
  refine qt r0 (ixs (l:=l) i st9 r0 r0 (by(first | omega | (simp; done) | (simp; omega)))) (tm (.int .u8 (c.toNat:Int)) r0 (qt r0 (eqi (k:=.u8) (a:=(((l.getD i 0).toNat:Nat):Int)) (b:=(c.toNat:Int)) r0 r0) (nn ?_)))
  refine cdd (p:=(((l.getD i 0).toNat:Nat):Int)=(c.toNat:Int)) r0 (fun h2=>?_) (fun h2=>?_)
  ·refine sr (tm (.slice Ag5 zs.length cg5) r0 (tm (Str l) r0 (tm (I (a:Int)) r0 (tm (I (i:Int)) r0 (qt r0 (cus (l:=l) a i st9 r0 r0 r0 (by(first | omega | (simp; done) | (simp; omega))) (by(first | omega | (simp; done) | (simp; omega)))) (bsk hs2 sl147 [Str ((l.take i).drop a)] [Str ((l.take i).drop a)] trivial r0 (fun b2 w3 hs3=>?_)))))))
   refine apm (g:=Str) (ys:=zs) (zs:=([(l.take i).drop a]:List (List UInt8))) hs3 0 r0 sl147 r0 r0 r0 (hs3.sl0 1 r0) (fun _=>rfl) (by unfold maxLen; (have hzl:=cut_len hz; first | omega | (simp; done) | (simp; omega))) (by(have hzl:=cut_len hz; first | omega | (simp; done) | (simp; omega))) trivial r0 (fun A1 c1 w4 hs4=>?_)
   refine tA (.slice A1 ((zs++([(l.take i).drop a]:List (List UInt8))).length) c1) r0 (nn (rg (tm (I (i:Int)) r0 (qt r0 (add (a:=(i:Int)) (b:=1) r0 r0 (by(exact⟨by omega,by omega⟩))) (tA (I ((i:Int)+1)) r0 (nl ?_))))))
   refine bN (nN (rg (tm (I (i:Int)) r0 (qt r0 (add (a:=(i:Int)) (b:=1) r0 r0 (by(exact⟨by omega,by omega⟩))) (tA (I ((i:Int)+1)) r0 (nn ?_))))))
   refine⟨(A1,c1,i+1,i+1,(zs++([(l.take i).drop a]:List (List UInt8)))),⟨(zR r0),(by omega),(by omega),(cut_step hz ha (by omega) hn (u8_eq (by omega))),(by intro j h_ hj; omega),(hs4.pk [1] r0)⟩,?_⟩
   show l.length-(i+1)<l.length-i
   omega
  ·refine sk (bN (nN (rg (tm (I (i:Int)) r0 (qt r0 (add (a:=(i:Int)) (b:=1) r0 r0 (by(exact⟨by omega,by omega⟩))) (tA (I ((i:Int)+1)) r0 (nl ?_)))))))
   refine nN ?_
   refine⟨(Ag5,cg5,i+1,a,zs),⟨(zR r0),(by omega),(by omega),(hz),(by intro j h_ hj; rcases Nat.lt_succ_iff_lt_or_eq.1 hj with h | h; exact hn j h_ h; subst h; intro he; exact absurd (congrArg (fun z=>((UInt8.toNat z:Nat):Int)) he) (by assumption)),hs2⟩,?_⟩
   show l.length-(i+1)<l.length-i
   omega
 ·refine ex (tE (tE (bE ?_)))
  refine nN (sr (tm (.slice Ag5 zs.length cg5) r0 (tm (Str l) r0 (tm (I (a:Int)) r0 (qt r0 (culs (l:=l) a st9 r0 r0 (by(first | omega | (simp; done) | (simp; omega)))) (bsk hs2 sl147 [Str (l.drop a)] [Str (l.drop a)] trivial r0 (fun b3 w5 hs5=>?_)))))))
  refine apm (g:=Str) (ys:=zs) (zs:=([l.drop a]:List (List UInt8))) hs5 0 r0 sl147 r0 r0 r0 (hs5.sl0 1 r0) (fun _=>rfl) (by unfold maxLen; (have hzl:=cut_len hz; first | omega | (simp; done) | (simp; omega))) (by(have hzl:=cut_len hz; first | omega | (simp; done) | (simp; omega))) trivial r0 (fun A2 c2 w6 hs6=>?_)
  refine tA (.slice A2 ((zs++([l.drop a]:List (List UInt8))).length) c2) r0 (nn (rt (fT (.slice A2 ((zs++([l.drop a]:List (List UInt8))).length) c2) r0 ?_)))
  have e1:zs++([l.drop a]:List (List UInt8))=splitB c l:=by exact cut_end hz (by omega) hn
  have e2:=congrArg List.length e1
  exact⟨A2,c2,(slv r0 e2 r0),((hs6.pq [1] r0).cast (lc (own_eq (g:=Str) r0 e2 r0 e1) r0))⟩
theorem iNameValid (l:List UInt8) (w:World) (hl_n:l.length≤1099511627776):Does Tryz.prog 123 [Str l] w (fun v w'=>v=.bool (nameOk l)∧SH w w' [] []):=by
 refine fE (N:=35) Tryz.func123 r0 (by kernel_rfl) r0 ?_
 have hs0:=SH.refl w []
 refine sr (tA (.bool false) r0 (nx (tm (Str l) r0 ?_)))
 refine cL r0 (stSplit (l:=l) (c:=46) (w:=_) (hl_n:=(by(first | omega | (simp; done) | (simp; omega))))) ?_
 rintro _ w1 ⟨A1,c1,rfl,hs1⟩
 replace hs1:=hs0.call0 hs1
 refine tA (.slice A1 ((splitB 46 l).length) c1) r0 (nn (sq (sr (tm (.slice A1 ((splitB 46 l).length) c1) r0 (qt r0 (lnA (n:=(splitB 46 l).length) sl147 r0) ?_)))))
 refine tm (I 0) r0 (nn (bl (lp (σ:=Nat) (fun(k:Nat) f w'=>Hz f [(0,Str l),(3,.slice A1 ((splitB 46 l).length) c1),(8,.slice A1 ((splitB 46 l).length) c1),(9,I (((splitB 46 l).length:Nat):Int)),(10,I (k:Int))]∧(k≤(splitB 46 l).length)∧(((splitB 46 l).take k).all partOk=true)∧SH w w' [] [.own A1 ((splitB 46 l).length) c1 9 1 ((splitB 46 l).map Str)]) (fun k=>(splitB 46 l).length-k) 0 ⟨(zR r0),(by simp),(by simp),hs1⟩ ?_)))
 rintro k f w2 ⟨⟨g1,rfl⟩,hk,ha,hs2⟩
 refine sr (qt r0 (lss (k:=.i64) (a:=(k:Int)) (b:=(((splitB 46 l).length:Nat):Int)) r0 r0) (nn (sq ?_)))
 refine cdd (p:=(k:Int)<(((splitB 46 l).length:Nat):Int)) r0 (fun h1=>?_) (fun h1=>?_)
 ·refine sk (nN (sq (bl (sr (ixw1 k sl147 r0 r0 (hs2.sl0 0 r0) (by(first | omega | (simp; done) | (simp; omega))) (getm Str [] (by(first | omega | (simp; done) | (simp; omega)))) trivial r0 (fun a1 ha1=>?_))))))
  refine qt r0 (lda (v:=Str ((splitB 46 l).getD k [])) (SH.refl w2 []) ha1 (fun _ h=>h) r0 r0 one9) (tA (Str ((splitB 46 l).getD k [])) r0 (nx (tm (Str ((splitB 46 l).getD k [])) r0 (qt r0 (eqs (l:=(splitB 46 l).getD k []) (m:=[]) r0 r0) ?_))))
  refine tm (.bool (decide ((splitB 46 l).getD k []=[]))) r0 ?_
  refine spd (p:=(splitB 46 l).getD k []=[]) 16 r0 (fun h2=>?_) (fun h2=>?_)
  ·refine gt5 r0 (gt5 r0 (gt5 r0 (qt r0 (pt (v:=.bool true) r0 r0) (nn (cdt r0 (sq ?_))))))
   refine rg (tA (.bool false) r0 (nn ?_))
   refine rt (bR (tR (tR (bR (tR ?_)))))
   refine fT (.bool false) r0 ?_
   have e1:false=nameOk l:=by(exact(name_bad (k:=k) (by omega) (part_nil (by assumption))).symm)
   exact⟨(congrArg (Value.bool) e1),(hs2.pk [] r0)⟩
  ·refine q ⟨_,rfl,rfl⟩ r0 r0 (mv (v:=Str ((splitB 46 l).getD k [])) r0) (cl ⟨_,rfl,rfl⟩ r0 (iConsists (l:=(splitB 46 l).getD k []) (m:=[45]) (w:=_) (hl_n:=(by(have hsb:=splitB_getD 46 l k; have hsl:=splitB_len 46 l; have hcl:=List.count_le_length (a:=(46:UInt8)) (l:=l); first | omega | (simp; done) | (simp; omega))))) ?_)
   rintro _ w3 ⟨rfl,hs3⟩
   replace hs3:=hs2.call0 hs3
   refine q ⟨_,rfl,rfl⟩ r0 r0 (nt (b:=((splitB 46 l).getD k []).all (okC [45])) r0) (qt r0 (pf (v:=.bool (!(((splitB 46 l).getD k []).all (okC [45])))) r0 r0) (nn ?_))
   refine cd (b:=!(((splitB 46 l).getD k []).all (okC [45]))) r0 (fun h3=>?_) (fun h3=>?_)
   ·have h4:(((splitB 46 l).getD k []).all (okC [45]))=false:=by simpa using h3
    refine sr (tA (.bool false) r0 (nn ?_))
    refine rt (bR (tR (tR (bR (tR ?_)))))
    refine fT (.bool false) r0 ?_
    have e2:false=nameOk l:=by(exact(name_bad (k:=k) (by omega) (part_bad (by assumption))).symm)
    exact⟨(congrArg (Value.bool) e2),(hs3.pk [] r0)⟩
   ·have h5:(((splitB 46 l).getD k []).all (okC [45]))=true:=by simpa using h3
    refine sk (bN (nN (rg (qt r0 (add (a:=(k:Int)) (b:=1) r0 r0 (by(have hsb:=splitB_getD 46 l k; have hsl:=splitB_len 46 l; have hcl:=List.count_le_length (a:=(46:UInt8)) (l:=l); exact⟨by omega,by omega⟩))) (tm (I ((k:Int)+1)) r0 (nn ?_))))))
    refine⟨(k+1),⟨(zR r0),(by omega),(all_step (d:=[]) (by omega) ha (part_mk (by assumption) (by assumption))),hs3⟩,?_⟩
    omega
 ·refine ex (tE (tE (bE ?_)))
  refine nN (sr (tm (Str l) r0 (qt r0 (lnS (l:=l) st9 r0) (qt r0 (leq (k:=.i64) (a:=(l.length:Int)) (b:=20) r0 r0) (tm (.bool (decide ((l.length:Int)≤20))) r0 ?_)))))
  refine spd (p:=(l.length:Int)≤20) 25 r0 (fun h6=>?_) (fun h6=>?_)
  ·refine q ⟨_,rfl,rfl⟩ r0 r0 (mv (v:=.slice A1 ((splitB 46 l).length) c1) r0) (q ⟨_,rfl,rfl⟩ r0 r0 (mv (v:=.slice A1 ((splitB 46 l).length) c1) r0) (q ⟨_,rfl,rfl⟩ r0 r0 (lnA (n:=(splitB 46 l).length) sl147 r0) (q ⟨_,rfl,rfl⟩ r0 r0 (subN (a:=(splitB 46 l).length) (b:=1) r0 r0 (by have hsb:=splitB_getD 46 l k; have hsl:=splitB_len 46 l; have hcl:=List.count_le_length (a:=(46:UInt8)) (l:=l); have:=splitB_pos 46 l; omega) (by have hsb:=splitB_getD 46 l k; have hsl:=splitB_len 46 l; have hcl:=List.count_le_length (a:=(46:UInt8)) (l:=l); have:=splitB_pos 46 l; omega)) (ixw1 (((splitB 46 l).length)-1) sl147 r0 r0 (hs2.sl0 0 r0) (by(have hsb:=splitB_getD 46 l k; have hsl:=splitB_len 46 l; have hcl:=List.count_le_length (a:=(46:UInt8)) (l:=l); first | omega | (simp; done) | (simp; omega))) (getm Str [] (by(have hsb:=splitB_getD 46 l k; have hsl:=splitB_len 46 l; have hcl:=List.count_le_length (a:=(46:UInt8)) (l:=l); first | omega | (simp; done) | (simp; omega)))) ⟨_,rfl,rfl⟩ r0 (fun a2 ha2=>?_)))))
   refine q ⟨_,rfl,rfl⟩ r0 r0 (lda (v:=Str ((splitB 46 l).getD (((splitB 46 l).length)-1) [])) (SH.refl w2 []) ha2 (fun _ h=>h) r0 r0 one9) (q ⟨_,rfl,rfl⟩ r0 r0 (ixs (l:=(splitB 46 l).getD (((splitB 46 l).length)-1) []) 0 st9 r0 r0 (by exact name_last (by omega) ha (by have:=splitB_pos 46 l; omega))) (cl ⟨_,rfl,rfl⟩ r0 (iLetter (c:=(((splitB 46 l).getD (((splitB 46 l).length)-1) []).getD 0 0)) (w:=_)) ?_))
   rintro _ w4 ⟨rfl,hs4⟩
   replace hs4:=hs2.call0 hs4
   refine qt r0 (pt (v:=.bool (decide (97≤(((((splitB 46 l).getD (((splitB 46 l).length)-1) []).getD 0 0).toNat:Nat):Int)∧(((((splitB 46 l).getD (((splitB 46 l).length)-1) []).getD 0 0).toNat:Nat):Int)≤122))) r0 r0) (tA (.bool (decide (97≤(((((splitB 46 l).getD (((splitB 46 l).length)-1) []).getD 0 0).toNat:Nat):Int)∧(((((splitB 46 l).getD (((splitB 46 l).length)-1) []).getD 0 0).toNat:Nat):Int)≤122))) r0 (nn (rt (fT (.bool (decide (97≤(((((splitB 46 l).getD (((splitB 46 l).length)-1) []).getD 0 0).toNat:Nat):Int)∧(((((splitB 46 l).getD (((splitB 46 l).length)-1) []).getD 0 0).toNat:Nat):Int)≤122))) r0 ?_))))
   have e3:(decide (97≤(((((splitB 46 l).getD (((splitB 46 l).length)-1) []).getD 0 0).toNat:Nat):Int)∧(((((splitB 46 l).getD (((splitB 46 l).length)-1) []).getD 0 0).toNat:Nat):Int)≤122))=nameOk l:=by(exact(name_end2 (by omega) ha (by omega)).symm)
   exact⟨(congrArg (Value.bool) e3),(hs4.pk [] r0)⟩
  ·refine gf5 r0 (gf5 r0 (gf5 r0 (gf5 r0 (gf5 r0 (gf5 r0 (gf5 r0 (gf5 r0 ?_)))))))
   refine qt r0 (pf (v:=.bool false) r0 r0) (tA (.bool false) r0 (nn (rt (fT (.bool false) r0 ?_))))
   have e4:false=nameOk l:=by(exact(name_end1 (by omega) ha (by omega)).symm)
   exact⟨(congrArg (Value.bool) e4),(hs2.pk [] r0)⟩
theorem sNameValid (l:List UInt8) (w:World) (hl_n:l.length≤1099511627776):Does Tryz.prog 163 [Str l] w (fun v w'=>v=.bool (nameOk l)∧SH w w' [] []):=by
 refine fE (N:=53) Tryz.func163 r0 (by kernel_rfl) r0 ?_
 have hs0:=SH.refl w []
 refine sr (tA (.bool false) r0 (nx (tm (Str l) r0 ?_)))
 refine cL r0 (l2Cut (l:=l) (c:=(46:UInt8)) (w:=_) (hl_n:=(by(first | omega | (simp; done) | (simp; omega))))) ?_
 rintro _ w1 ⟨A1,c1,rfl,hs1⟩
 replace hs1:=hs0.call0 hs1
 refine tA (.slice A1 ((splitB (46:UInt8) l).length) c1) r0 (nn (sq (sr (tA (I 0) r0 (nl ?_)))))
 refine nN (bl (lp (σ:=Nat) (fun(k:Nat) f w'=>Hz f [(0,Str l),(3,.slice A1 ((splitB (46:UInt8) l).length) c1),(4,I (k:Int))]∧(k≤(splitB 46 l).length)∧(((splitB 46 l).take k).all partOk=true)∧SH w w' [] [.own A1 ((splitB (46:UInt8) l).length) c1 9 1 ((splitB (46:UInt8) l).map Str)]) (fun k=>(splitB 46 l).length-k) 0 ⟨(zR r0),(by simp),(by simp),hs1⟩ ?_))
 rintro k f w2 ⟨⟨g1,rfl⟩,hk,ha,hs2⟩
 refine sq (sr (tm (I (k:Int)) r0 (tm (.slice A1 ((splitB (46:UInt8) l).length) c1) r0 (qt r0 (lnA (n:=(splitB (46:UInt8) l).length) sl147 r0) (qt r0 (lss (k:=.i64) (a:=(k:Int)) (b:=(((splitB (46:UInt8) l).length:Nat):Int)) r0 r0) (nl ?_))))))
 refine nN ?_
 refine cdd (p:=(k:Int)<(((splitB (46:UInt8) l).length:Nat):Int)) r0 (fun h1=>?_) (fun h1=>?_)
 ·refine sk (nN (sq (bl (sr (tm (.slice A1 ((splitB (46:UInt8) l).length) c1) r0 (tm (I (k:Int)) r0 ?_))))))
  refine ixw1 k sl147 r0 r0 (hs2.sl0 0 r0) (by(first | omega | (simp; done) | (simp; omega))) (getm Str [] (by(first | omega | (simp; done) | (simp; omega)))) trivial r0 (fun a1 ha1=>?_)
  refine qt r0 (lda (v:=Str ((splitB (46:UInt8) l).getD k [])) (SH.refl w2 []) ha1 (fun _ h=>h) r0 r0 one9) (tA (Str ((splitB (46:UInt8) l).getD k [])) r0 (nn (sq (sr (tm (Str ((splitB (46:UInt8) l).getD k [])) r0 ?_)))))
  refine qt r0 (lnS (l:=(splitB (46:UInt8) l).getD k []) st9 r0) (qt r0 (eqi (k:=.i64) (a:=((((splitB (46:UInt8) l).getD k []).length:Nat):Int)) (b:=0) r0 r0) (nn ?_))
  refine cdd (p:=((((splitB (46:UInt8) l).getD k []).length:Nat):Int)=0) r0 (fun h2=>?_) (fun h2=>?_)
  ·refine sr (tA (.bool false) r0 (nn ?_))
   refine rt (tR (bR (tR (tR (bR (tR ?_))))))
   refine fT (.bool false) r0 ?_
   have e1:false=nameOk l:=by(exact(name_bad (k:=k) (by omega) (part_len0 (by omega))).symm)
   exact⟨(congrArg (Value.bool) e1),(hs2.pk [] r0)⟩
  ·refine sk (nN (sr (tA (I 0) r0 (nn (bl ?_)))))
   refine lp (σ:=Nat) (fun(j:Nat) f w'=>Hz f [(0,Str l),(3,.slice A1 ((splitB (46:UInt8) l).length) c1),(4,I (k:Int)),(5,Str ((splitB (46:UInt8) l).getD k [])),(6,I (j:Int))]∧(j≤((splitB 46 l).getD k []).length)∧((((splitB 46 l).getD k []).take j).all letC=true)∧SH w w' [] [.own A1 ((splitB (46:UInt8) l).length) c1 9 1 ((splitB (46:UInt8) l).map Str)]) (fun j=>((splitB 46 l).getD k []).length-j) 0 ⟨(zR r0),(by simp),(by simp),hs2⟩ ?_
   rintro j f w3 ⟨⟨g2,rfl⟩,hj,hb,hs3⟩
   refine sq (sr (tm (I (j:Int)) r0 (tm (Str ((splitB (46:UInt8) l).getD k [])) r0 (qt r0 (lnS (l:=(splitB (46:UInt8) l).getD k []) st9 r0) (qt r0 (lss (k:=.i64) (a:=(j:Int)) (b:=((((splitB (46:UInt8) l).getD k []).length:Nat):Int)) r0 r0) (nl ?_))))))
   refine nN ?_
   refine cdd (p:=(j:Int)<((((splitB (46:UInt8) l).getD k []).length:Nat):Int)) r0 (fun h3=>?_) (fun h3=>?_)
   ·refine sk (nN (sq (bl (sr (tm (Str ((splitB (46:UInt8) l).getD k [])) r0 (tm (I (j:Int)) r0 ?_))))))
    refine qt r0 (ixs (l:=(splitB (46:UInt8) l).getD k []) j st9 r0 r0 (by omega)) (cL r0 (sLetter (c:=(((splitB (46:UInt8) l).getD k []).getD j 0)) (w:=_)) ?_)
    rintro _ w4 ⟨rfl,hs4⟩
    replace hs4:=hs3.call0 hs4
    refine qt r0 (nt (b:=letC (((splitB (46:UInt8) l).getD k []).getD j 0)) r0) (nn ?_)
    refine cd (b:=!(letC (((splitB (46:UInt8) l).getD k []).getD j 0))) r0 (fun h4=>?_) (fun h4=>?_)
    ·have h5:(letC (((splitB (46:UInt8) l).getD k []).getD j 0))=false:=by simpa using h4
     refine sr (tA (.bool false) r0 (nn ?_))
     refine rt (bR (tR (tR (bR (bR (tR (tR (bR (tR ?_)))))))))
     refine fT (.bool false) r0 ?_
     have e2:false=nameOk l:=by(exact(name_bad (k:=k) (by omega) (part_bad1 (j:=j) (by omega) (by assumption))).symm)
     exact⟨(congrArg (Value.bool) e2),(hs4.pk [] r0)⟩
    ·have h6:(letC (((splitB (46:UInt8) l).getD k []).getD j 0))=true:=by simpa using h4
     refine sk (bN (nN (rg (tm (I (j:Int)) r0 (qt r0 (add (a:=(j:Int)) (b:=1) r0 r0 (by(have hsb:=splitB_getD 46 l k; have hsl:=splitB_len 46 l; have hcl:=List.count_le_length (a:=(46:UInt8)) (l:=l); exact⟨by omega,by omega⟩))) (tA (I ((j:Int)+1)) r0 (nl ?_)))))))
     refine nN ?_
     refine⟨(j+1),⟨(zR r0),(by omega),(all_step (d:=0) (by omega) hb (by assumption)),hs4⟩,?_⟩
     omega
   ·refine ex (tE (tE (bE ?_)))
    refine bN (nN (rg (tm (I (k:Int)) r0 (qt r0 (add (a:=(k:Int)) (b:=1) r0 r0 (by(have hsb:=splitB_getD 46 l k; have hsl:=splitB_len 46 l; have hcl:=List.count_le_length (a:=(46:UInt8)) (l:=l); exact⟨by omega,by omega⟩))) (tA (I ((k:Int)+1)) r0 (nn ?_))))))
    refine⟨(k+1),⟨(zR r0),(by omega),(all_step (d:=[]) (by omega) ha (part_mk1 (j:=j) (by omega) (by omega) hb)),hs3⟩,?_⟩
    omega
 ·refine ex (tE (tE (bE ?_)))
  refine nN (sr (tm (.slice A1 ((splitB (46:UInt8) l).length) c1) r0 (tm (.slice A1 ((splitB (46:UInt8) l).length) c1) r0 (qt r0 (lnA (n:=(splitB (46:UInt8) l).length) sl147 r0) (qt r0 (subN (a:=(splitB (46:UInt8) l).length) (b:=1) r0 r0 (by have hsb:=splitB_getD 46 l k; have hsl:=splitB_len 46 l; have hcl:=List.count_le_length (a:=(46:UInt8)) (l:=l); have:=splitB_pos 46 l; omega) (by have hsb:=splitB_getD 46 l k; have hsl:=splitB_len 46 l; have hcl:=List.count_le_length (a:=(46:UInt8)) (l:=l); have:=splitB_pos 46 l; omega)) (ixw1 (((splitB (46:UInt8) l).length)-1) sl147 r0 r0 (hs2.sl0 0 r0) (by(have hsb:=splitB_getD 46 l k; have hsl:=splitB_len 46 l; have hcl:=List.count_le_length (a:=(46:UInt8)) (l:=l); first | omega | (simp; done) | (simp; omega))) (getm Str [] (by(have hsb:=splitB_getD 46 l k; have hsl:=splitB_len 46 l; have hcl:=List.count_le_length (a:=(46:UInt8)) (l:=l); first | omega | (simp; done) | (simp; omega)))) trivial r0 (fun a2 ha2=>?_)))))))
  refine qt r0 (lda (v:=Str ((splitB (46:UInt8) l).getD (((splitB (46:UInt8) l).length)-1) [])) (SH.refl w2 []) ha2 (fun _ h=>h) r0 r0 one9) (tA (Str ((splitB (46:UInt8) l).getD (((splitB (46:UInt8) l).length)-1) [])) r0 (nx (tm (Str l) r0 (qt r0 (lnS (l:=l) st9 r0) ?_))))
  refine qt r0 (leq (k:=.i64) (a:=(l.length:Int)) (b:=20) r0 r0) (tm (.bool (decide ((l.length:Int)≤20))) r0 ?_)
  refine spd (p:=(l.length:Int)≤20) 43 r0 (fun h7=>?_) (fun h7=>?_)
  ·refine q ⟨_,rfl,rfl⟩ r0 r0 (mv (v:=Str ((splitB (46:UInt8) l).getD (((splitB (46:UInt8) l).length)-1) [])) r0) (q ⟨_,rfl,rfl⟩ r0 r0 (ixs (l:=(splitB (46:UInt8) l).getD (((splitB (46:UInt8) l).length)-1) []) 0 st9 r0 r0 (by exact name_last (by omega) ha (by have:=splitB_pos 46 l; omega))) (q ⟨_,rfl,rfl⟩ r0 r0 (geq (k:=.u8) (a:=(((((splitB (46:UInt8) l).getD (((splitB (46:UInt8) l).length)-1) []).getD 0 0).toNat:Nat):Int)) (b:=97) r0 r0) (qt r0 (pt (v:=.bool (decide ((97:Int)≤(((((splitB (46:UInt8) l).getD (((splitB (46:UInt8) l).length)-1) []).getD 0 0).toNat:Nat):Int)))) r0 r0) (tm (.bool (decide ((97:Int)≤(((((splitB (46:UInt8) l).getD (((splitB (46:UInt8) l).length)-1) []).getD 0 0).toNat:Nat):Int)))) r0 ?_))))
   refine spd (p:=(97:Int)≤(((((splitB (46:UInt8) l).getD (((splitB (46:UInt8) l).length)-1) []).getD 0 0).toNat:Nat):Int)) 48 r0 (fun h8=>?_) (fun h8=>?_)
   ·refine q ⟨_,rfl,rfl⟩ r0 r0 (mv (v:=Str ((splitB (46:UInt8) l).getD (((splitB (46:UInt8) l).length)-1) [])) r0) (q ⟨_,rfl,rfl⟩ r0 r0 (ixs (l:=(splitB (46:UInt8) l).getD (((splitB (46:UInt8) l).length)-1) []) 0 st9 r0 r0 (by exact name_last (by omega) ha (by have:=splitB_pos 46 l; omega))) (q ⟨_,rfl,rfl⟩ r0 r0 (leq (k:=.u8) (a:=(((((splitB (46:UInt8) l).getD (((splitB (46:UInt8) l).length)-1) []).getD 0 0).toNat:Nat):Int)) (b:=122) r0 r0) (qt r0 (pt (v:=.bool (decide ((((((splitB (46:UInt8) l).getD (((splitB (46:UInt8) l).length)-1) []).getD 0 0).toNat:Nat):Int)≤122))) r0 r0) (tA (.bool (decide ((((((splitB (46:UInt8) l).getD (((splitB (46:UInt8) l).length)-1) []).getD 0 0).toNat:Nat):Int)≤122))) r0 (nn (rt ?_))))))
    refine fT (.bool (decide ((((((splitB (46:UInt8) l).getD (((splitB (46:UInt8) l).length)-1) []).getD 0 0).toNat:Nat):Int)≤122))) r0 ?_
    have e3:(decide ((((((splitB (46:UInt8) l).getD (((splitB (46:UInt8) l).length)-1) []).getD 0 0).toNat:Nat):Int)≤122))=nameOk l:=by exact name_end3 (by omega) ha (by omega) (by assumption)
    exact⟨(congrArg (Value.bool) e3),(hs2.pk [] r0)⟩
   ·refine gf5 r0 (gf5 r0 (gf5 r0 (qt r0 (pf (v:=.bool false) r0 r0) (tA (.bool false) r0 (nn (rt ?_))))))
    refine fT (.bool false) r0 ?_
    have e4:false=nameOk l:=by exact name_end4 (by omega) ha (by omega) (by assumption)
    exact⟨(congrArg (Value.bool) e4),(hs2.pk [] r0)⟩
  ·refine gf5 r0 (gf5 r0 (gf5 r0 (qt r0 (pf (v:=.bool false) r0 r0) (tm (.bool false) r0 (gf5 r0 (gf5 r0 (gf5 r0 ?_)))))))
   refine qt r0 (pf (v:=.bool false) r0 r0) (tA (.bool false) r0 (nn (rt (fT (.bool false) r0 ?_))))
   have e5:false=nameOk l:=by(exact(name_end1 (by omega) ha (by omega)).symm)
   exact⟨(congrArg (Value.bool) e5),(hs2.pk [] r0)⟩
theorem iQuadValid {Aqs:Option Addr} {cqs:Nat} (qs:List Int) (w:World) (hqs:Sl w [] 1 Aqs qs.length cqs (qs.map I)):Does Tryz.prog 121 [.slice Aqs qs.length cqs] w (fun v w'=>v=.bool (quadOk qs)∧SH w w' [] []):=by
 refine fE (N:=10) Tryz.func121 r0 (by kernel_rfl) r0 ?_
 have hs0:=SH.refl w []
 have hqs_m:qs.length≤9223372036854775807:=Nat.le_trans hqs.cap hqs.capMax
 refine sr (tA (.bool false) r0 (nx (tm (Z11 Aqs qs cqs) r0 ?_)))
 refine qt r0 (lnA (n:=qs.length) sl22 r0) (qt r0 (eqi (k:=.i64) (a:=(qs.length:Int)) (b:=4) r0 r0) (tm (.bool (decide ((qs.length:Int)=4))) r0 ?_))
 refine spd (p:=(qs.length:Int)=4) 6 r0 (fun h1=>?_) (fun h1=>?_)
 ·refine q ⟨_,rfl,rfl⟩ r0 r0 (mv (v:=.slice Aqs qs.length cqs) r0) (cl ⟨_,rfl,rfl⟩ r0 (iBytesValid (Azs:=Aqs) (czs:=cqs) (zs:=qs) (w:=_) (hzs:=(hqs.up0 hs0))) ?_)
  rintro _ w1 ⟨rfl,hs1⟩
  replace hs1:=hs0.call0 hs1
  refine qt r0 (pt (v:=.bool (isBytes qs)) r0 r0) (tA (.bool (isBytes qs)) r0 (nn (rt (fT (.bool (isBytes qs)) r0 ?_))))
  have e1:(isBytes qs)=quadOk qs:=by simp[quadOk,h1] <;> omega
  exact⟨(congrArg (Value.bool) e1),hs1⟩
 ·refine gf5 r0 (gf5 r0 (qt r0 (pf (v:=.bool false) r0 r0) (tA (.bool false) r0 (nn (rt (fT (.bool false) r0 ?_))))))
  have e2:false=quadOk qs:=by simp[quadOk,h1] <;> omega
  exact⟨(congrArg (Value.bool) e2),hs0⟩
theorem sQuadValid {Aqs:Option Addr} {cqs:Nat} (qs:List Int) (w:World) (hqs:Sl w [] 1 Aqs qs.length cqs (qs.map I)):Does Tryz.prog 162 [.slice Aqs qs.length cqs] w (fun v w'=>v=.bool (quadOk qs)∧SH w w' [] []):=by
 refine fE (N:=10) Tryz.func162 r0 (by kernel_rfl) r0 ?_
 have hs0:=SH.refl w []
 have hqs_m:qs.length≤9223372036854775807:=Nat.le_trans hqs.cap hqs.capMax
 refine sr (tA (.bool false) r0 (nx (tm (Z11 Aqs qs cqs) r0 ?_)))
 refine cL r0 (sBytesValid (Azs:=Aqs) (czs:=cqs) (zs:=qs) (w:=_) (hzs:=(hqs.up0 hs0))) ?_
 rintro _ w1 ⟨rfl,hs1⟩
 replace hs1:=hs0.call0 hs1
 refine tm (.bool (isBytes qs)) r0 ?_
 refine spl (b:=isBytes qs) 5 r0 (fun h1=>?_) (fun h1=>?_)
 ·refine q ⟨_,rfl,rfl⟩ r0 r0 (mv (v:=.slice Aqs qs.length cqs) r0) (q ⟨_,rfl,rfl⟩ r0 r0 (lnA (n:=qs.length) sl22 r0) (q ⟨_,rfl,rfl⟩ r0 r0 (eqi (k:=.i64) (a:=(qs.length:Int)) (b:=4) r0 r0) (qt r0 (pt (v:=.bool (decide ((qs.length:Int)=4))) r0 r0) (tA (.bool (decide ((qs.length:Int)=4))) r0 (nn (rt ?_))))))
  refine fT (.bool (decide ((qs.length:Int)=4))) r0 ?_
  have e1:(decide ((qs.length:Int)=4))=quadOk qs:=by simp[quadOk,h1] <;> omega
  exact⟨(congrArg (Value.bool) e1),hs1⟩
 ·refine gf5 r0 (gf5 r0 (gf5 r0 (qt r0 (pf (v:=.bool false) r0 r0) (tA (.bool false) r0 (nn (rt ?_))))))
  refine fT (.bool false) r0 ?_
  have e2:false=quadOk qs:=by simp[quadOk,h1] <;> omega
  exact⟨(congrArg (Value.bool) e2),hs1⟩
theorem iUserValid (s:List UInt8) (w:World) (hs_n:s.length≤9223372036854775807):Does Tryz.prog 135 [Str s] w (fun v w'=>v=.bool (userOk s)∧SH w w' [] []):=by
 refine fE (N:=10) Tryz.func135 r0 (by kernel_rfl) r0 ?_
 have hs0:=SH.refl w []
 refine sr (tA (.bool false) r0 (nx (tm (Str s) r0 ?_)))
 refine qt r0 (lnS (l:=s) st9 r0) (qt r0 (leq (k:=.i64) (a:=(s.length:Int)) (b:=8) r0 r0) (tm (.bool (decide ((s.length:Int)≤8))) r0 ?_))
 refine spd (p:=(s.length:Int)≤8) 6 r0 (fun h1=>?_) (fun h1=>?_)
 ·refine q ⟨_,rfl,rfl⟩ r0 r0 (mv (v:=Str s) r0) (cl ⟨_,rfl,rfl⟩ r0 (iConsists (l:=s) (m:=[]) (w:=_) (hl_n:=(by omega))) ?_)
  rintro _ w1 ⟨rfl,hs1⟩
  replace hs1:=hs0.call0 hs1
  refine qt r0 (pt (v:=.bool (s.all (okC []))) r0 r0) (tA (.bool (s.all (okC []))) r0 (nn (rt (fT (.bool (s.all (okC []))) r0 ?_))))
  have e1:(s.all (okC []))=userOk s:=by simp[userOk,h1] <;> omega
  exact⟨(congrArg (Value.bool) e1),hs1⟩
 ·refine gf5 r0 (gf5 r0 (qt r0 (pf (v:=.bool false) r0 r0) (tA (.bool false) r0 (nn (rt (fT (.bool false) r0 ?_))))))
  have e2:false=userOk s:=by simp[userOk,h1] <;> omega
  exact⟨(congrArg (Value.bool) e2),hs0⟩
theorem sUserValid (s:List UInt8) (w:World) (hs_n:s.length≤9223372036854775807):Does Tryz.prog 164 [Str s] w (fun v w'=>v=.bool (userOk s)∧SH w w' [] []):=by
 refine fE (N:=24) Tryz.func164 r0 (by kernel_rfl) r0 ?_
 have hs0:=SH.refl w []
 refine sr (tA (.bool false) r0 (nn (sq (sr ?_))))
 refine tA (I 0) r0 (nn (bl (lp (σ:=Nat) (fun(k:Nat) f w'=>Hz f [(0,Str s),(3,I (k:Int))]∧(k≤s.length)∧((s.take k).all (okC [])=true)∧SH w w' [] []) (fun k=>s.length-k) 0 ⟨(zR r0),(by simp),(by simp),hs0⟩ ?_)))
 rintro k f w1 ⟨⟨g1,rfl⟩,hk,ha,hs1⟩
 refine sq (sr (tm (I (k:Int)) r0 (tm (Str s) r0 (qt r0 (lnS (l:=s) st9 r0) (qt r0 (lss (k:=.i64) (a:=(k:Int)) (b:=(s.length:Int)) r0 r0) (nl ?_))))))
 refine nN ?_
 refine cdd (p:=(k:Int)<(s.length:Int)) r0 (fun h1=>?_) (fun h1=>?_)
 ·refine sk (nN (sq (bl (sr (tm (Str s) r0 (tm (I (k:Int)) r0 ?_))))))
  refine qt r0 (ixs (l:=s) k st9 r0 r0 (by omega)) (cL r0 (sLetter (c:=(s.getD k 0)) (w:=_)) ?_)
  rintro _ w2 ⟨rfl,hs2⟩
  replace hs2:=hs1.call0 hs2
  refine qt r0 (nt (b:=letC (s.getD k 0)) r0) (tm (.bool (!(letC (s.getD k 0)))) r0 ?_)
  refine spl (b:=!(letC (s.getD k 0))) 15 r0 (fun h2=>?_) (fun h2=>?_)
  ·have h3:(letC (s.getD k 0))=false:=by simpa using h2
   refine gt5 r0 (gt5 r0 (gt5 r0 (gt5 r0 (qt r0 (pt (v:=.bool true) r0 r0) (nn (cdt r0 ?_))))))
   refine sr (tA (.bool false) r0 (nn ?_))
   refine rt (bR (tR (tR (bR (tR ?_)))))
   refine fT (.bool false) r0 ?_
   have e1:false=userOk s:=by exact(user_bad (k:=k) (by omega) (.inl (by assumption))).symm
   exact⟨(congrArg (Value.bool) e1),hs2⟩
  ·have h4:(letC (s.getD k 0))=true:=by simpa using h2
   refine q ⟨_,rfl,rfl⟩ r0 r0 (mv (v:=Str s) r0) (q ⟨_,rfl,rfl⟩ r0 r0 (mv (v:=I (k:Int)) r0) (q ⟨_,rfl,rfl⟩ r0 r0 (ixs (l:=s) k st9 r0 r0 (by omega)) (q ⟨_,rfl,rfl⟩ r0 r0 (eqi (k:=.u8) (a:=(((s.getD k 0).toNat:Nat):Int)) (b:=45) r0 r0) (qt r0 (pf (v:=.bool (decide ((((s.getD k 0).toNat:Nat):Int)=45))) r0 r0) (nn ?_)))))
   refine cdd (p:=(((s.getD k 0).toNat:Nat):Int)=45) r0 (fun h5=>?_) (fun h5=>?_)
   ·refine sr (tA (.bool false) r0 (nn ?_))
    refine rt (bR (tR (tR (bR (tR ?_)))))
    refine fT (.bool false) r0 ?_
    have e2:false=userOk s:=by exact(user_bad (k:=k) (by omega) (.inr (by assumption))).symm
    exact⟨(congrArg (Value.bool) e2),hs2⟩
   ·refine sk (bN (nN (rg (tm (I (k:Int)) r0 (qt r0 (add (a:=(k:Int)) (b:=1) r0 r0 (by exact⟨by omega,by omega⟩)) (tA (I ((k:Int)+1)) r0 (nl ?_)))))))
    refine nN ?_
    refine⟨(k+1),⟨(zR r0),(by omega),(all_step (d:=0) (by omega) ha (user_mk (by assumption) (by assumption))),hs2⟩,?_⟩
    omega
 ·refine ex (tE (tE (bE ?_)))
  refine nN (sr (tm (Str s) r0 (qt r0 (lnS (l:=s) st9 r0) (qt r0 (leq (k:=.i64) (a:=(s.length:Int)) (b:=8) r0 r0) (tA (.bool (decide ((s.length:Int)≤8))) r0 (nl ?_))))))
  refine nN (rt (fT (.bool (decide ((s.length:Int)≤8))) r0 ?_))
  have e3:(decide ((s.length:Int)≤8))=userOk s:=by exact user_end (by omega) ha
  exact⟨(congrArg (Value.bool) e3),hs1⟩
theorem slIndex {Azs:Option Addr} {czs:Nat} (zs:List Int) (n:Int) (w:World) (hzs:Sl w [] 1 Azs zs.length czs (zs.map I)):Does Tryz.prog 136 [.slice Azs zs.length czs,I n] w (fun v w'=>v=.int .i64 (idxP (fun x=>decide (n=x)) zs)∧SH w w' [] []):=by
 refine fE (N:=19) Tryz.func136 r0 (by kernel_rfl) r0 ?_
 have hs0:=SH.refl w []
 have hzs_m:zs.length≤9223372036854775807:=Nat.le_trans hzs.cap hzs.capMax
 refine sr (tA (I 0) r0 (nn (sq (sr ?_))))
 refine tm (Z11 Azs zs czs) r0 (qt r0 (lnA (n:=zs.length) sl22 r0) (tm (I 0) r0 (nn (bl (lp (σ:=Nat) (fun(k:Nat) f w'=>Hz f [(0,.slice Azs zs.length czs),(1,I n),(7,I (zs.length:Int)),(8,I (k:Int))]∧(k≤zs.length)∧(∀ j,j<k→decide (n=zs.getD j 0)=false)∧SH w w' [] []) (fun k=>zs.length-k) 0 ⟨(zR r0),(by simp),(by intro j hj; omega),hs0⟩ ?_)))))
 rintro k f w1 ⟨⟨g1,rfl⟩,hk,hn,hs1⟩
 refine sr (qt r0 (lss (k:=.i64) (a:=(k:Int)) (b:=(zs.length:Int)) r0 r0) (nn (sq ?_)))
 refine cdd (p:=(k:Int)<(zs.length:Int)) r0 (fun h1=>?_) (fun h1=>?_)
 ·refine sk (nN (sq (bl (sr (tm (I (k:Int)) r0 (tA (I (k:Int)) r0 ?_))))))
  refine nx (tm (I n) r0 (tm (Z11 Azs zs czs) r0 (tm (I (k:Int)) r0 (ixw1 k sl22 r0 r0 hzs (by omega) (getm I 0 (by omega)) trivial r0 (fun a1 ha1=>?_)))))
  refine qt r0 (lda (v:=I (zs.getD k 0)) hs1 ha1 (fun _ h=>h) r0 r0 one3) (qt r0 (eqi (k:=.i64) (a:=n) (b:=zs.getD k 0) r0 r0) (nn ?_))
  refine cdd (p:=n=(zs.getD k 0)) r0 (fun h2=>?_) (fun h2=>?_)
  ·refine sr (tm (I (k:Int)) r0 (tA (I (k:Int)) r0 (nn ?_)))
   refine rt (bR (tR (tR (bR (tR ?_)))))
   refine fT (I (k:Int)) r0 ?_
   have e1:(k:Int)=idxP (fun x=>decide (n=x)) zs:=by exact idxP_eq (d:=0) (by omega) hn (decide_eq_true (by assumption))
   exact⟨(congrArg (Value.int .i64) e1),hs1⟩
  ·refine sk (bN (nN (rg (qt r0 (add (a:=(k:Int)) (b:=1) r0 r0 (by exact⟨by omega,by omega⟩)) (tm (I ((k:Int)+1)) r0 (nn ?_))))))
   refine⟨(k+1),⟨(zR r0),(by omega),(by intro j hj; rcases Nat.lt_succ_iff_lt_or_eq.1 hj with h | h; exact hn j h; subst h; exact decide_eq_false (by assumption)),hs1⟩,?_⟩
   omega
 ·refine ex (tE (tE (bE ?_)))
  refine nN (sr (tA (I (-1)) r0 (nn (rt (fT (I (-1)) r0 ?_)))))
  have e2:(-1)=idxP (fun x=>decide (n=x)) zs:=by exact idxP_none (d:=0) (fun j hj=>hn j (by omega))
  exact⟨(congrArg (Value.int .i64) e2),hs1⟩
theorem slContains {Azs:Option Addr} {czs:Nat} (zs:List Int) (n:Int) (w:World) (hzs:Sl w [] 1 Azs zs.length czs (zs.map I)):Does Tryz.prog 80 [.slice Azs zs.length czs,I n] w (fun v w'=>v=.bool (decide (n∈zs))∧SH w w' [] []):=by
 refine fE (N:=9) Tryz.func80 r0 (by kernel_rfl) r0 ?_
 have hs0:=SH.refl w []
 have hzs_m:zs.length≤9223372036854775807:=Nat.le_trans hzs.cap hzs.capMax
 refine sr (tA (.bool false) r0 (nx (tm (Z11 Azs zs czs) r0 ?_)))
 refine tm (I n) r0 (cL r0 (slIndex (Azs:=Azs) (czs:=czs) (zs:=zs) (n:=n) (w:=_) (hzs:=(hzs.up0 hs0))) ?_)
 rintro _ w1 ⟨rfl,hs1⟩
 replace hs1:=hs0.call0 hs1
 refine qt r0 (geq (k:=.i64) (a:=idxP (fun x=>decide (n=x)) zs) (b:=0) r0 r0) (tA (.bool (decide ((0:Int)≤(idxP (fun x=>decide (n=x)) zs)))) r0 (nn (rt (fT (.bool (decide ((0:Int)≤(idxP (fun x=>decide (n=x)) zs)))) r0 ?_))))
 have e1:(decide ((0:Int)≤(idxP (fun x=>decide (n=x)) zs)))=(decide (n∈zs)):=by exact idxP_int n zs
 exact⟨(congrArg (Value.bool) e1),hs1⟩
theorem l5Has {Azs:Option Addr} {czs:Nat} (zs:List Int) (n:Int) (w:World) (hzs:Sl w [] 1 Azs zs.length czs (zs.map I)):Does Tryz.prog 93 [.slice Azs zs.length czs,I n] w (fun v w'=>v=.bool (decide (n∈zs))∧SH w w' [] []):=by
 refine fE (N:=18) Tryz.func93 r0 (by kernel_rfl) r0 ?_
 have hs0:=SH.refl w []
 have hzs_m:zs.length≤9223372036854775807:=Nat.le_trans hzs.cap hzs.capMax
 refine sr (tA (.bool false) r0 (nn (sq (sr ?_))))
 refine tA (I 0) r0 (nn (bl (lp (σ:=Nat) (fun(k:Nat) f w'=>Hz f [(0,.slice Azs zs.length czs),(1,I n),(5,I (k:Int))]∧(k≤zs.length)∧(n ∉ zs.take k)∧SH w w' [] []) (fun k=>zs.length-k) 0 ⟨(zR r0),(by simp),(by simp),hs0⟩ ?_)))
 rintro k f w1 ⟨⟨g1,rfl⟩,hk,hn,hs1⟩
 refine sq (sr (tm (I (k:Int)) r0 (tm (Z11 Azs zs czs) r0 (qt r0 (lnA (n:=zs.length) sl22 r0) (qt r0 (lss (k:=.i64) (a:=(k:Int)) (b:=(zs.length:Int)) r0 r0) (nl ?_))))))
 refine nN ?_
 refine cdd (p:=(k:Int)<(zs.length:Int)) r0 (fun h1=>?_) (fun h1=>?_)
 ·refine sk (nN (sq (bl (sr (tm (Z11 Azs zs czs) r0 (tm (I (k:Int)) r0 ?_))))))
  refine ixw1 k sl22 r0 r0 hzs (by omega) (getm I 0 (by omega)) trivial r0 (fun a1 ha1=>?_)
  refine qt r0 (lda (v:=I (zs.getD k 0)) hs1 ha1 (fun _ h=>h) r0 r0 one3) (tm (I n) r0 (qt r0 (eqi (k:=.i64) (a:=zs.getD k 0) (b:=n) r0 r0) (nn ?_)))
  refine cdd (p:=(zs.getD k 0)=n) r0 (fun h2=>?_) (fun h2=>?_)
  ·refine sr (tA (.bool true) r0 (nn ?_))
   refine rt (bR (tR (tR (bR (tR ?_)))))
   refine fT (.bool true) r0 ?_
   have e1:true=(decide (n∈zs)):=by exact(decide_eq_true (has_yes (k:=k) (by omega) (by omega))).symm
   exact⟨(congrArg (Value.bool) e1),hs1⟩
  ·refine sk (bN (nN (rg (tm (I (k:Int)) r0 (qt r0 (add (a:=(k:Int)) (b:=1) r0 r0 (by exact⟨by omega,by omega⟩)) (tA (I ((k:Int)+1)) r0 (nl ?_)))))))
   refine nN ?_
   refine⟨(k+1),⟨(zR r0),(by omega),(has_step (by omega) hn (by omega)),hs1⟩,?_⟩
   omega
 ·refine ex (tE (tE (bE ?_)))
  refine nN (sr (tA (.bool false) r0 (nn (rt (fT (.bool false) r0 ?_)))))
  have e2:false=(decide (n∈zs)):=by exact(decide_eq_false (has_no (k:=k) (by omega) hn)).symm
  exact⟨(congrArg (Value.bool) e2),hs1⟩
theorem iAreMethods {Ams:Option Addr} {cms:Nat} (ms:List Int) (w:World) (hms:Sl w [] 1 Ams ms.length cms (ms.map I)):Does Tryz.prog 74 [.slice Ams ms.length cms] w (fun v w'=>v=.bool (methOk ms)∧SH w w' [] []):=by
 refine fE (N:=26) Tryz.func74 r0 (by kernel_rfl) r0 ?_
 have hs0:=SH.refl w []
 have hms_m:ms.length≤9223372036854775807:=Nat.le_trans hms.cap hms.capMax
 refine sr (tA (.bool false) r0 (nn (sq (sr ?_))))
 refine tm (Z11 Ams ms cms) r0 (qt r0 (lnA (n:=ms.length) sl22 r0) (tm (I 0) r0 (nn (bl (lp (σ:=Nat) (fun(k:Nat) f w'=>Hz f [(0,.slice Ams ms.length cms),(5,.slice Ams ms.length cms),(6,I (ms.length:Int)),(7,I (k:Int))]∧(k≤ms.length)∧(methT ms k)∧SH w w' [] []) (fun k=>ms.length-k) 0 ⟨(zR r0),(by simp),(methT0 ms),hs0⟩ ?_)))))
 rintro k f w1 ⟨⟨g1,rfl⟩,hk,ha,hs1⟩
 refine sr (qt r0 (lss (k:=.i64) (a:=(k:Int)) (b:=(ms.length:Int)) r0 r0) (nn (sq ?_)))
 refine cdd (p:=(k:Int)<(ms.length:Int)) r0 (fun h1=>?_) (fun h1=>?_)
 ·refine sk (nN (sq (bl (sr (tm (I (k:Int)) r0 (ixw1 k sl22 r0 r0 hms (by omega) (getm I 0 (by omega)) trivial r0 (fun a1 ha1=>?_)))))))
  refine qt r0 (lda (v:=I (ms.getD k 0)) hs1 ha1 (fun _ h=>h) r0 r0 one3) (tA (I (k:Int)) r0 (tA (I (ms.getD k 0)) r0 (nx (tm (I (ms.getD k 0)) r0 ?_))))
  refine cL r0 (iWithin (x:=ms.getD k 0) (lo:=0) (hi:=254) (w:=_)) ?_
  rintro _ w2 ⟨rfl,hs2⟩
  replace hs2:=hs1.call0 hs2
  refine qt r0 (nd (p:=0≤(ms.getD k 0)∧(ms.getD k 0)≤254) r0) (tm (.bool (decide (¬ (0≤(ms.getD k 0)∧(ms.getD k 0)≤254)))) r0 ?_)
  refine spd (p:=¬ (0≤(ms.getD k 0)∧(ms.getD k 0)≤254)) 15 r0 (fun h2=>?_) (fun h2=>?_)
  ·refine gt5 r0 (gt5 r0 (gt5 r0 (gt5 r0 (gt5 r0 (qt r0 (pt (v:=.bool true) r0 r0) (nn ?_))))))
   refine cdt r0 (sr (tA (.bool false) r0 (nn ?_)))
   refine rt (bR (tR (tR (bR (tR ?_)))))
   refine fT (.bool false) r0 ?_
   have e1:false=methOk ms:=by exact(meth_bad1 (k:=k) (by omega) (by assumption)).symm
   exact⟨(congrArg (Value.bool) e1),hs2⟩
  ·refine q ⟨_,rfl,rfl⟩ r0 r0 (mv (v:=.slice Ams ms.length cms) r0) (q ⟨_,rfl,rfl⟩ r0 r0 (mv (v:=I (k:Int)) r0) (q ⟨_,rfl,rfl⟩ r0 r0 (cuhm_ (zs:=ms) k sl22 r0 r0 (by omega) hms.cap) (q ⟨_,rfl,rfl⟩ r0 r0 (mv (v:=I (ms.getD k 0)) r0) (cl ⟨_,rfl,rfl⟩ r0 (slContains (Azs:=Ams) (czs:=cms) (zs:=ms.take k) (n:=ms.getD k 0) (w:=_) (hzs:=(Sl.cuthm (hms.up0 hs2) (by omega)))) ?_))))
   rintro _ w3 ⟨rfl,hs3⟩
   replace hs3:=hs2.call0 hs3
   refine qt r0 (pf (v:=.bool (decide ((ms.getD k 0)∈(ms.take k)))) r0 r0) (nn ?_)
   refine cdd (p:=(ms.getD k 0)∈(ms.take k)) r0 (fun h3=>?_) (fun h3=>?_)
   ·refine sr (tA (.bool false) r0 (nn ?_))
    refine rt (bR (tR (tR (bR (tR ?_)))))
    refine fT (.bool false) r0 ?_
    have e2:false=methOk ms:=by exact(meth_bad2 (k:=k) (by omega) (by assumption)).symm
    exact⟨(congrArg (Value.bool) e2),hs3⟩
   ·refine sk (bN (nN (rg (qt r0 (add (a:=(k:Int)) (b:=1) r0 r0 (by exact⟨by omega,by omega⟩)) (tm (I ((k:Int)+1)) r0 (nn ?_))))))
    refine⟨(k+1),⟨(zR r0),(by omega),(methT_step (by omega) ha (Decidable.not_not.1 (by assumption)) (by assumption)),hs3⟩,?_⟩
    omega
 ·refine ex (tE (tE (bE ?_)))
  refine nN (sr (tm (Z11 Ams ms cms) r0 (qt r0 (lnA (n:=ms.length) sl22 r0) (cL r0 (iWithin (x:=(ms.length:Int)) (lo:=1) (hi:=8) (w:=_)) ?_))))
  rintro _ w4 ⟨rfl,hs4⟩
  replace hs4:=hs1.call0 hs4
  refine tA (.bool (decide (1≤(ms.length:Int)∧(ms.length:Int)≤8))) r0 (nn (rt (fT (.bool (decide (1≤(ms.length:Int)∧(ms.length:Int)≤8))) r0 ?_)))
  have e3:(decide (1≤(ms.length:Int)∧(ms.length:Int)≤8))=methOk ms:=by exact meth_end (by omega) ha
  exact⟨(congrArg (Value.bool) e3),hs4⟩
theorem sL5Ok {Ams:Option Addr} {cms:Nat} (ms:List Int) (w:World) (hms:Sl w [] 1 Ams ms.length cms (ms.map I)):Does Tryz.prog 127 [.slice Ams ms.length cms] w (fun v w'=>v=.bool (methOk ms)∧SH w w' [] []):=by
 refine fE (N:=29) Tryz.func127 r0 (by kernel_rfl) r0 ?_
 have hs0:=SH.refl w []
 have hms_m:ms.length≤9223372036854775807:=Nat.le_trans hms.cap hms.capMax
 refine sr (tA (.bool false) r0 (nn (sq (sr ?_))))
 refine tA (I 0) r0 (nn (bl (lp (σ:=Nat) (fun(k:Nat) f w'=>Hz f [(0,.slice Ams ms.length cms),(3,I (k:Int))]∧(k≤ms.length)∧(methT ms k)∧SH w w' [] []) (fun k=>ms.length-k) 0 ⟨(zR r0),(by simp),(methT0 ms),hs0⟩ ?_)))
 rintro k f w1 ⟨⟨g1,rfl⟩,hk,ha,hs1⟩
 refine sq (sr (tm (I (k:Int)) r0 (tm (Z11 Ams ms cms) r0 (qt r0 (lnA (n:=ms.length) sl22 r0) (qt r0 (lss (k:=.i64) (a:=(k:Int)) (b:=(ms.length:Int)) r0 r0) (nl ?_))))))
 refine nN ?_
 refine cdd (p:=(k:Int)<(ms.length:Int)) r0 (fun h1=>?_) (fun h1=>?_)
 ·refine sk (nN (sq (bl (sq (rq (fun w'=>SH w w' [] []) mixed (by kernel_rfl) hs1.drew (qA r0 (mv (v:=.slice Ams ms.length cms) r0) (qA r0 (mv (v:=I (k:Int)) r0) ?_)))))))
  refine ixq1 k sl22 r0 r0 hms (by omega) (getm I 0 (by omega)) trivial r0 (fun a1 ha1=>?_)
  refine qB r0 (fun hsq=>lda (v:=I (ms.getD k 0)) hsq ha1 (fun _ h=>h) r0 r0 one3) (qc (.bool (decide (0≤(ms.getD k 0)∧(ms.getD k 0)≤254))) trivial r0 (fun wq hsq=>(sIn (x:=ms.getD k 0) (lo:=0) (hi:=254) (w:=_)).mono (fun v w' h=>⟨h.1,by simpa using hsq.call0 h.2⟩)) (qA r0 (nd (p:=0≤(ms.getD k 0)∧(ms.getD k 0)≤254) r0) (qA r0 (mv (v:=.bool (decide (¬ (0≤(ms.getD k 0)∧(ms.getD k 0)≤254)))) r0) ?_)))
  refine qspd (p:=¬ (0≤(ms.getD k 0)∧(ms.getD k 0)≤254)) 16 r0 (fun h2=>?_) (fun h2=>?_)
  ·refine kt5 r0 (kt5 r0 (kt5 r0 (kt5 r0 (kt5 r0 (kt5 r0 (kt5 r0 (kt5 r0 ?_)))))))
   refine qA r0 (pt (v:=.bool true) r0 r0) (qn (fun w2 hs2=>?_))
   refine nN (cdt r0 (sr (tA (.bool false) r0 (nn ?_))))
   refine rt (bR (tR (tR (bR (tR ?_)))))
   refine fT (.bool false) r0 ?_
   have e1:false=methOk ms:=by exact(meth_bad1 (k:=k) (by omega) (by assumption)).symm
   exact⟨(congrArg (Value.bool) e1),hs2⟩
  ·refine qq ⟨_,rfl,rfl⟩ r0 r0 (fun wq hsq=>mv (v:=.slice Ams ms.length cms) r0) (qq ⟨_,rfl,rfl⟩ r0 r0 (fun wq hsq=>mv (v:=I (k:Int)) r0) (qq ⟨_,rfl,rfl⟩ r0 r0 (fun wq hsq=>cuhm_ (zs:=ms) k sl22 r0 r0 (by omega) hms.cap) (qq ⟨_,rfl,rfl⟩ r0 r0 (fun wq hsq=>mv (v:=.slice Ams ms.length cms) r0) (qq ⟨_,rfl,rfl⟩ r0 r0 (fun wq hsq=>mv (v:=I (k:Int)) r0) (ixq1 k sl22 r0 r0 hms (by omega) (getm I 0 (by omega)) ⟨_,rfl,rfl⟩ r0 (fun a2 ha2=>?_))))))
   refine qq ⟨_,rfl,rfl⟩ r0 r0 (fun wq hsq=>lda (v:=I (ms.getD k 0)) hsq ha2 (fun _ h=>h) r0 r0 one3) (qc (.bool (decide ((ms.getD k 0)∈(ms.take k)))) ⟨_,rfl,rfl⟩ r0 (fun wq hsq=>(l5Has (Azs:=Ams) (czs:=cms) (zs:=ms.take k) (n:=ms.getD k 0) (w:=_) (hzs:=(Sl.cuthm (hms.up0 hsq) (by omega)))).mono (fun v w' h=>⟨h.1,by simpa using hsq.call0 h.2⟩)) (qA r0 (pf (v:=.bool (decide ((ms.getD k 0)∈(ms.take k)))) r0 r0) (qn (fun w3 hs3=>?_))))
   refine nN ?_
   refine cdd (p:=(ms.getD k 0)∈(ms.take k)) r0 (fun h3=>?_) (fun h3=>?_)
   ·refine sr (tA (.bool false) r0 (nn ?_))
    refine rt (bR (tR (tR (bR (tR ?_)))))
    refine fT (.bool false) r0 ?_
    have e2:false=methOk ms:=by exact(meth_bad2 (k:=k) (by omega) (by assumption)).symm
    exact⟨(congrArg (Value.bool) e2),hs3⟩
   ·refine sk (bN (nN (rg (tm (I (k:Int)) r0 (qt r0 (add (a:=(k:Int)) (b:=1) r0 r0 (by exact⟨by omega,by omega⟩)) (tA (I ((k:Int)+1)) r0 (nl ?_)))))))
    refine nN ?_
    refine⟨(k+1),⟨(zR r0),(by omega),(methT_step (by omega) ha (Decidable.not_not.1 (by assumption)) (by assumption)),hs3⟩,?_⟩
    omega
 ·refine ex (tE (tE (bE ?_)))
  refine nN (sr (tm (Z11 Ams ms cms) r0 (qt r0 (lnA (n:=ms.length) sl22 r0) (cL r0 (sIn (x:=(ms.length:Int)) (lo:=1) (hi:=8) (w:=_)) ?_))))
  rintro _ w4 ⟨rfl,hs4⟩
  replace hs4:=hs1.call0 hs4
  refine tA (.bool (decide (1≤(ms.length:Int)∧(ms.length:Int)≤8))) r0 (nn (rt (fT (.bool (decide (1≤(ms.length:Int)∧(ms.length:Int)≤8))) r0 ?_)))
  have e3:(decide (1≤(ms.length:Int)∧(ms.length:Int)≤8))=methOk ms:=by exact meth_end (by omega) ha
  exact⟨(congrArg (Value.bool) e3),hs4⟩
theorem iAddressValid (ak:Int) {Aaq:Option Addr} {caq:Nat} (aq:List Int) (an:List UInt8) (apt:Int) (w:World) (haq:Sl w [] 1 Aaq aq.length caq (aq.map I)) (han_n:an.length≤1099511627776):Does Tryz.prog 62 [.agg #[I ak,.slice Aaq aq.length caq,Str an,I apt]] w (fun v w'=>v=.bool (addrOk ak aq an apt)∧SH w w' [] []):=by
 refine fE (N:=36) Tryz.func62 r0 (by kernel_rfl) r0 ?_
 have hs0:=SH.refl w []
 have haq_m:aq.length≤9223372036854775807:=Nat.le_trans haq.cap haq.capMax
 refine sr (bx (v:=.agg #[I ak,(Z7 Aaq aq caq),Str an,I apt]) (cs:=[I ak,(Z7 Aaq aq caq),Str an,I apt]) hs0 r0 r0 trivial r0 (fun b1 w1 hs1=>?_))
 refine tA (.bool false) r0 (nn (sq (sr (qt r0 (fa 0 fo43_0 r0) (qt r0 (lD (I ak) hs1 0 r0 one3) ?_)))))
 refine nn (bl (sr (qt r0 (eqi (k:=.i64) (a:=ak) (b:=1) r0 r0) (tA (.bool (decide (ak=1))) r0 (nl ?_)))))
 refine nN ?_
 refine cdd (p:=ak=1) r0 (fun h1=>?_) (fun h1=>?_)
 ·refine sr (qt r0 (fa 1 fo43_1 r0) (qt r0 (lD (Z11 Aaq aq caq) hs1 0 r0 one22) (cL r0 (iQuadValid (Aqs:=Aaq) (cqs:=caq) (qs:=aq) (w:=_) (hqs:=(haq.up0 hs1))) ?_)))
  rintro _ w2 ⟨rfl,hs2⟩
  replace hs2:=hs1.call0 hs2
  refine tm (.bool (quadOk aq)) r0 ?_
  refine spl (b:=quadOk aq) 10 r0 (fun h2=>?_) (fun h2=>?_)
  ·refine q ⟨_,rfl,rfl⟩ r0 r0 (fa 2 fo43_2 r0) (q ⟨_,rfl,rfl⟩ r0 r0 (lD (Str an) hs2 0 r0 one9) (q ⟨_,rfl,rfl⟩ r0 r0 (eqs (l:=an) (m:=[]) r0 r0) (qt r0 (pt (v:=.bool (decide (an=[]))) r0 r0) (tm (.bool (decide (an=[]))) r0 ?_))))
   refine spd (p:=an=[]) 15 r0 (fun h3=>?_) (fun h3=>?_)
   ·refine q ⟨_,rfl,rfl⟩ r0 r0 (fa 3 fo43_3 r0) (q ⟨_,rfl,rfl⟩ r0 r0 (lD (I apt) hs2 0 r0 one3) (cl ⟨_,rfl,rfl⟩ r0 (isPort (x:=apt) (w:=_)) ?_))
    rintro _ w3 ⟨rfl,hs3⟩
    replace hs3:=hs2.call0 hs3
    refine qt r0 (pt (v:=.bool (decide (0≤apt∧apt≤65535))) r0 r0) (tA (.bool (decide (0≤apt∧apt≤65535))) r0 (nn ?_))
    refine rt (bR (tR ?_))
    refine fT (.bool (decide (0≤apt∧apt≤65535))) r0 ?_
    have e1:(decide (0≤apt∧apt≤65535))=addrOk ak aq an apt:=by(rw[addr_is1 (by assumption)]; simp[h1,h2,h3]; done)
    exact⟨(congrArg (Value.bool) e1),(hs3.pk [] r0)⟩
   ·refine gf5 r0 (gf5 r0 (gf5 r0 (qt r0 (pf (v:=.bool false) r0 r0) (tA (.bool false) r0 (nn ?_)))))
    refine rt (bR (tR ?_))
    refine fT (.bool false) r0 ?_
    have e2:false=addrOk ak aq an apt:=by(rw[addr_is1 (by assumption)]; simp[h1,h2,h3]; done)
    exact⟨(congrArg (Value.bool) e2),(hs2.pk [] r0)⟩
  ·refine gf5 r0 (gf5 r0 (gf5 r0 (qt r0 (pf (v:=.bool false) r0 r0) (tm (.bool false) r0 (gf5 r0 (gf5 r0 (gf5 r0 ?_)))))))
   refine qt r0 (pf (v:=.bool false) r0 r0) (tA (.bool false) r0 (nn ?_))
   refine rt (bR (tR ?_))
   refine fT (.bool false) r0 ?_
   have e3:false=addrOk ak aq an apt:=by(rw[addr_is1 (by assumption)]; simp[h1,h2]; done)
   exact⟨(congrArg (Value.bool) e3),(hs2.pk [] r0)⟩
 ·refine sr (qt r0 (eqi (k:=.i64) (a:=ak) (b:=3) r0 r0) (tA (.bool (decide (ak=3))) r0 (nn ?_)))
  refine cdd (p:=ak=3) r0 (fun h4=>?_) (fun h4=>?_)
  ·refine sr (qt r0 (fa 2 fo43_2 r0) (qt r0 (lD (Str an) hs1 0 r0 one9) (cL r0 (iNameValid (l:=an) (w:=_) (hl_n:=(by omega))) ?_)))
   rintro _ w4 ⟨rfl,hs4⟩
   replace hs4:=hs1.call0 hs4
   refine tm (.bool (nameOk an)) r0 ?_
   refine spl (b:=nameOk an) 25 r0 (fun h5=>?_) (fun h5=>?_)
   ·refine q ⟨_,rfl,rfl⟩ r0 r0 (fa 1 fo43_1 r0) (q ⟨_,rfl,rfl⟩ r0 r0 (lD (Z11 Aaq aq caq) hs4 0 r0 one22) (q ⟨_,rfl,rfl⟩ r0 r0 (lnA (n:=aq.length) sl22 r0) (q ⟨_,rfl,rfl⟩ r0 r0 (eqi (k:=.i64) (a:=(aq.length:Int)) (b:=0) r0 r0) (qt r0 (pt (v:=.bool (decide ((aq.length:Int)=0))) r0 r0) (tm (.bool (decide ((aq.length:Int)=0))) r0 ?_)))))
    refine spd (p:=(aq.length:Int)=0) 31 r0 (fun h6=>?_) (fun h6=>?_)
    ·refine q ⟨_,rfl,rfl⟩ r0 r0 (fa 3 fo43_3 r0) (q ⟨_,rfl,rfl⟩ r0 r0 (lD (I apt) hs4 0 r0 one3) (cl ⟨_,rfl,rfl⟩ r0 (isPort (x:=apt) (w:=_)) ?_))
     rintro _ w5 ⟨rfl,hs5⟩
     replace hs5:=hs4.call0 hs5
     refine qt r0 (pt (v:=.bool (decide (0≤apt∧apt≤65535))) r0 r0) (tA (.bool (decide (0≤apt∧apt≤65535))) r0 (nn ?_))
     refine rt (bR (tR ?_))
     refine fT (.bool (decide (0≤apt∧apt≤65535))) r0 ?_
     have e4:(decide (0≤apt∧apt≤65535))=addrOk ak aq an apt:=by(rw[addr_is3 (by assumption)]; have hq0:aq=[]:=List.eq_nil_of_length_eq_zero (by omega); simp[hq0,h1,h4,h5,h6]; done)
     exact⟨(congrArg (Value.bool) e4),(hs5.pk [] r0)⟩
    ·refine gf5 r0 (gf5 r0 (gf5 r0 (qt r0 (pf (v:=.bool false) r0 r0) (tA (.bool false) r0 (nn ?_)))))
     refine rt (bR (tR ?_))
     refine fT (.bool false) r0 ?_
     have e5:false=addrOk ak aq an apt:=by(rw[addr_is3 (by assumption)]; have hq0: ¬ aq=[]:=fun he=>absurd (by rw[he]; rfl:(aq.length:Int)=0) (by assumption); simp[hq0,h1,h4,h5,h6]; done)
     exact⟨(congrArg (Value.bool) e5),(hs4.pk [] r0)⟩
   ·refine gf5 r0 (gf5 r0 (gf5 r0 (gf5 r0 (qt r0 (pf (v:=.bool false) r0 r0) (tm (.bool false) r0 (gf5 r0 (gf5 r0 ?_)))))))
    refine gf5 r0 (qt r0 (pf (v:=.bool false) r0 r0) (tA (.bool false) r0 (nn ?_)))
    refine rt (bR (tR ?_))
    refine fT (.bool false) r0 ?_
    have e6:false=addrOk ak aq an apt:=by(rw[addr_is3 (by assumption)]; simp[h1,h4,h5]; done)
    exact⟨(congrArg (Value.bool) e6),(hs4.pk [] r0)⟩
  ·refine sk (bN (nN (sr (tA (.bool false) r0 (nn ?_)))))
   refine rt (fT (.bool false) r0 ?_)
   have e7:false=addrOk ak aq an apt:=by exact(addr_no _ _ _ (by assumption) (by assumption)).symm
   exact⟨(congrArg (Value.bool) e7),(hs1.pk [] r0)⟩
theorem sAddressValid (ak:Int) {Aaq:Option Addr} {caq:Nat} (aq:List Int) (an:List UInt8) (apt:Int) (w:World) (haq:Sl w [] 1 Aaq aq.length caq (aq.map I)) (han_n:an.length≤1099511627776):Does Tryz.prog 128 [.agg #[I ak,.slice Aaq aq.length caq,Str an,I apt]] w (fun v w'=>v=.bool (addrOk ak aq an apt)∧SH w w' [] []):=by
 refine fE (N:=30) Tryz.func128 r0 (by kernel_rfl) r0 ?_
 have hs0:=SH.refl w []
 have haq_m:aq.length≤9223372036854775807:=Nat.le_trans haq.cap haq.capMax
 refine sr (bx (v:=.agg #[I ak,(Z7 Aaq aq caq),Str an,I apt]) (cs:=[I ak,(Z7 Aaq aq caq),Str an,I apt]) hs0 r0 r0 trivial r0 (fun b1 w1 hs1=>?_))
 refine tA (.bool false) r0 (nn (sq (sr (qt r0 (fa 3 fo43_3 r0) (qt r0 (lD (I apt) hs1 0 r0 one3) ?_)))))
 refine cL r0 (sIn (x:=apt) (lo:=0) (hi:=65535) (w:=_)) ?_
 rintro _ w2 ⟨rfl,hs2⟩
 replace hs2:=hs1.call0 hs2
 refine qt r0 (nd (p:=0≤apt∧apt≤65535) r0) (nn ?_)
 refine cdd (p:=¬ (0≤apt∧apt≤65535)) r0 (fun h1=>?_) (fun h1=>?_)
 ·refine sr (tA (.bool false) r0 (nn (rt (tR ?_))))
  refine fT (.bool false) r0 ?_
  have e1:false=addrOk ak aq an apt:=by exact(addr_port _ _ (by assumption)).symm
  exact⟨(congrArg (Value.bool) e1),(hs2.pk [] r0)⟩
 ·refine sk (nN (sq (sr (qt r0 (fa 0 fo43_0 r0) (qt r0 (lD (I ak) hs2 0 r0 one3) (nl ?_))))))
  refine nN (bl (sr (qt r0 (eqi (k:=.i64) (a:=ak) (b:=1) r0 r0) (tA (.bool (decide (ak=1))) r0 (nn ?_)))))
  refine cdd (p:=ak=1) r0 (fun h2=>?_) (fun h2=>?_)
  ·refine sr (qt r0 (fa 1 fo43_1 r0) (qt r0 (lD (Z11 Aaq aq caq) hs2 0 r0 one22) (cL r0 (sQuadValid (Aqs:=Aaq) (cqs:=caq) (qs:=aq) (w:=_) (hqs:=(haq.up0 hs2))) ?_)))
   rintro _ w3 ⟨rfl,hs3⟩
   replace hs3:=hs2.call0 hs3
   refine tm (.bool (quadOk aq)) r0 ?_
   refine spl (b:=quadOk aq) 14 r0 (fun h3=>?_) (fun h3=>?_)
   ·refine q ⟨_,rfl,rfl⟩ r0 r0 (fa 2 fo43_2 r0) (q ⟨_,rfl,rfl⟩ r0 r0 (lD (Str an) hs3 0 r0 one9) (q ⟨_,rfl,rfl⟩ r0 r0 (eqs (l:=an) (m:=[]) r0 r0) (qt r0 (pt (v:=.bool (decide (an=[]))) r0 r0) (tA (.bool (decide (an=[]))) r0 (nn ?_)))))
    refine rt (bR (tR ?_))
    refine fT (.bool (decide (an=[]))) r0 ?_
    have e2:(decide (an=[]))=addrOk ak aq an apt:=by(rw[addr_is1 (by assumption)]; have hp0:0≤apt∧apt≤65535:=Decidable.not_not.1 (by assumption); simp[hp0.1,hp0.2,h1,h2,h3]; done)
    exact⟨(congrArg (Value.bool) e2),(hs3.pk [] r0)⟩
   ·refine gf5 r0 (gf5 r0 (gf5 r0 (qt r0 (pf (v:=.bool false) r0 r0) (tA (.bool false) r0 (nn ?_)))))
    refine rt (bR (tR ?_))
    refine fT (.bool false) r0 ?_
    have e3:false=addrOk ak aq an apt:=by(rw[addr_is1 (by assumption)]; simp[h1,h2,h3]; done)
    exact⟨(congrArg (Value.bool) e3),(hs3.pk [] r0)⟩
  ·refine sr (qt r0 (eqi (k:=.i64) (a:=ak) (b:=3) r0 r0) (tA (.bool (decide (ak=3))) r0 (nn ?_)))
   refine cdd (p:=ak=3) r0 (fun h4=>?_) (fun h4=>?_)
   ·refine sr (qt r0 (fa 2 fo43_2 r0) (qt r0 (lD (Str an) hs2 0 r0 one9) (cL r0 (sNameValid (l:=an) (w:=_) (hl_n:=(by omega))) ?_)))
    rintro _ w4 ⟨rfl,hs4⟩
    replace hs4:=hs2.call0 hs4
    refine tm (.bool (nameOk an)) r0 ?_
    refine spl (b:=nameOk an) 24 r0 (fun h5=>?_) (fun h5=>?_)
    ·refine q ⟨_,rfl,rfl⟩ r0 r0 (fa 1 fo43_1 r0) (q ⟨_,rfl,rfl⟩ r0 r0 (lD (Z11 Aaq aq caq) hs4 0 r0 one22) (q ⟨_,rfl,rfl⟩ r0 r0 (lnA (n:=aq.length) sl22 r0) (q ⟨_,rfl,rfl⟩ r0 r0 (eqi (k:=.i64) (a:=(aq.length:Int)) (b:=0) r0 r0) (qt r0 (pt (v:=.bool (decide ((aq.length:Int)=0))) r0 r0) (tA (.bool (decide ((aq.length:Int)=0))) r0 (nn ?_))))))
     refine rt (bR (tR ?_))
     refine fT (.bool (decide ((aq.length:Int)=0))) r0 ?_
     have e4:(decide ((aq.length:Int)=0))=addrOk ak aq an apt:=by(rw[addr_is3 (by assumption)]; have hp0:0≤apt∧apt≤65535:=Decidable.not_not.1 (by assumption); simp[hp0.1,hp0.2,h1,h2,h4,h5]; done)
     exact⟨(congrArg (Value.bool) e4),(hs4.pk [] r0)⟩
    ·refine gf5 r0 (gf5 r0 (gf5 r0 (gf5 r0 (qt r0 (pf (v:=.bool false) r0 r0) (tA (.bool false) r0 (nn ?_))))))
     refine rt (bR (tR ?_))
     refine fT (.bool false) r0 ?_
     have e5:false=addrOk ak aq an apt:=by(rw[addr_is3 (by assumption)]; simp[h1,h2,h4,h5]; done)
     exact⟨(congrArg (Value.bool) e5),(hs4.pk [] r0)⟩
   ·refine sk (bN (nN (sr (tA (.bool false) r0 (nn ?_)))))
    refine rt (fT (.bool false) r0 ?_)
    have e6:false=addrOk ak aq an apt:=by exact(addr_no _ _ _ (by assumption) (by assumption)).symm
    exact⟨(congrArg (Value.bool) e6),(hs2.pk [] r0)⟩
theorem iIsLogin (lu:List UInt8) (lw:List UInt8) (w:World) (hlu_n:lu.length≤9223372036854775807) (hlw_n:lw.length≤9223372036854775807):Does Tryz.prog 79 [.agg #[Str lu,Str lw]] w (fun v w'=>v=.bool (loginOk lu lw)∧SH w w' [] []):=by
 refine fE (N:=21) Tryz.func79 r0 (by kernel_rfl) r0 ?_
 have hs0:=SH.refl w []
 refine sr (bx (v:=.agg #[Str lu,Str lw]) (cs:=[Str lu,Str lw]) hs0 r0 r0 trivial r0 (fun b1 w1 hs1=>?_))
 refine tA (.bool false) r0 (nx (qt r0 (fa 0 fo51_0 r0) (qt r0 (lD (Str lu) hs1 0 r0 one9) (qt r0 (nes (l:=lu) (m:=[]) r0 r0) ?_))))
 refine tm (.bool (decide (lu≠[]))) r0 ?_
 refine spd (p:=lu≠[]) 6 r0 (fun h1=>?_) (fun h1=>?_)
 ·refine q ⟨_,rfl,rfl⟩ r0 r0 (fa 1 fo51_1 r0) (q ⟨_,rfl,rfl⟩ r0 r0 (lD (Str lw) hs1 0 r0 one9) (q ⟨_,rfl,rfl⟩ r0 r0 (nes (l:=lw) (m:=[]) r0 r0) (qt r0 (pt (v:=.bool (decide (lw≠[]))) r0 r0) (tm (.bool (decide (lw≠[]))) r0 ?_))))
  refine spd (p:=lw≠[]) 11 r0 (fun h2=>?_) (fun h2=>?_)
  ·refine q ⟨_,rfl,rfl⟩ r0 r0 (fa 0 fo51_0 r0) (q ⟨_,rfl,rfl⟩ r0 r0 (lD (Str lu) hs1 0 r0 one9) (cl ⟨_,rfl,rfl⟩ r0 (iUserValid (s:=lu) (w:=_) (hs_n:=(by omega))) ?_))
   rintro _ w2 ⟨rfl,hs2⟩
   replace hs2:=hs1.call0 hs2
   refine qt r0 (pt (v:=.bool (userOk lu)) r0 r0) (tm (.bool (userOk lu)) r0 ?_)
   refine spl (b:=userOk lu) 16 r0 (fun h3=>?_) (fun h3=>?_)
   ·refine q ⟨_,rfl,rfl⟩ r0 r0 (fa 1 fo51_1 r0) (q ⟨_,rfl,rfl⟩ r0 r0 (lD (Str lw) hs2 0 r0 one9) (cl ⟨_,rfl,rfl⟩ r0 (iUserValid (s:=lw) (w:=_) (hs_n:=(by omega))) ?_))
    rintro _ w3 ⟨rfl,hs3⟩
    replace hs3:=hs2.call0 hs3
    refine qt r0 (pt (v:=.bool (userOk lw)) r0 r0) (tA (.bool (userOk lw)) r0 (nn (rt (fT (.bool (userOk lw)) r0 ?_))))
    have e1:(userOk lw)=loginOk lu lw:=by simp[loginOk,h1,h2,h3]
    exact⟨(congrArg (Value.bool) e1),(hs3.pk [] r0)⟩
   ·refine gf5 r0 (gf5 r0 (gf5 r0 (qt r0 (pf (v:=.bool false) r0 r0) (tA (.bool false) r0 (nn (rt ?_))))))
    refine fT (.bool false) r0 ?_
    have e2:false=loginOk lu lw:=by simp[loginOk,h1,h2,h3]
    exact⟨(congrArg (Value.bool) e2),(hs2.pk [] r0)⟩
  ·refine gf5 r0 (gf5 r0 (gf5 r0 (qt r0 (pf (v:=.bool false) r0 r0) (tm (.bool false) r0 (gf5 r0 (gf5 r0 (gf5 r0 ?_)))))))
   refine qt r0 (pf (v:=.bool false) r0 r0) (tA (.bool false) r0 (nn (rt (fT (.bool false) r0 ?_))))
   have e3:false=loginOk lu lw:=by simp[loginOk,h1,h2]
   exact⟨(congrArg (Value.bool) e3),(hs1.pk [] r0)⟩
 ·refine gf5 r0 (gf5 r0 (gf5 r0 (qt r0 (pf (v:=.bool false) r0 r0) (tm (.bool false) r0 (gf5 r0 (gf5 r0 (gf5 r0 ?_)))))))
  refine qt r0 (pf (v:=.bool false) r0 r0) (tm (.bool false) r0 (gf5 r0 (gf5 r0 (gf5 r0 (qt r0 (pf (v:=.bool false) r0 r0) (tA (.bool false) r0 (nl ?_)))))))
  refine nN (rt (fT (.bool false) r0 ?_))
  have e4:false=loginOk lu lw:=by simp[loginOk,h1]
  exact⟨(congrArg (Value.bool) e4),(hs1.pk [] r0)⟩
theorem sL11Ok (lu:List UInt8) (lw:List UInt8) (w:World) (hlu_n:lu.length≤9223372036854775807) (hlw_n:lw.length≤9223372036854775807):Does Tryz.prog 129 [.agg #[Str lu,Str lw]] w (fun v w'=>v=.bool (loginOk lu lw)∧SH w w' [] []):=by
 refine fE (N:=23) Tryz.func129 r0 (by kernel_rfl) r0 ?_
 have hs0:=SH.refl w []
 refine sr (bx (v:=.agg #[Str lu,Str lw]) (cs:=[Str lu,Str lw]) hs0 r0 r0 trivial r0 (fun b1 w1 hs1=>?_))
 refine tA (.bool false) r0 (nx (qt r0 (fa 0 fo51_0 r0) (qt r0 (lD (Str lu) hs1 0 r0 one9) (cL r0 (sUserValid (s:=lu) (w:=_) (hs_n:=(by omega))) ?_))))
 rintro _ w2 ⟨rfl,hs2⟩
 replace hs2:=hs1.call0 hs2
 refine tm (.bool (userOk lu)) r0 ?_
 refine spl (b:=userOk lu) 6 r0 (fun h1=>?_) (fun h1=>?_)
 ·refine q ⟨_,rfl,rfl⟩ r0 r0 (fa 1 fo51_1 r0) (q ⟨_,rfl,rfl⟩ r0 r0 (lD (Str lw) hs2 0 r0 one9) (cl ⟨_,rfl,rfl⟩ r0 (sUserValid (s:=lw) (w:=_) (hs_n:=(by omega))) ?_))
  rintro _ w3 ⟨rfl,hs3⟩
  replace hs3:=hs2.call0 hs3
  refine qt r0 (pt (v:=.bool (userOk lw)) r0 r0) (tm (.bool (userOk lw)) r0 ?_)
  refine spl (b:=userOk lw) 11 r0 (fun h2=>?_) (fun h2=>?_)
  ·refine q ⟨_,rfl,rfl⟩ r0 r0 (fa 0 fo51_0 r0) (q ⟨_,rfl,rfl⟩ r0 r0 (lD (Str lu) hs3 0 r0 one9) (q ⟨_,rfl,rfl⟩ r0 r0 (lnS (l:=lu) st9 r0) (q ⟨_,rfl,rfl⟩ r0 r0 (gtr (k:=.i64) (a:=(lu.length:Int)) (b:=0) r0 r0) (qt r0 (pt (v:=.bool (decide ((0:Int)<(lu.length:Int)))) r0 r0) (tm (.bool (decide ((0:Int)<(lu.length:Int)))) r0 ?_)))))
   refine spd (p:=(0:Int)<(lu.length:Int)) 17 r0 (fun h3=>?_) (fun h3=>?_)
   ·refine q ⟨_,rfl,rfl⟩ r0 r0 (fa 1 fo51_1 r0) (q ⟨_,rfl,rfl⟩ r0 r0 (lD (Str lw) hs3 0 r0 one9) (q ⟨_,rfl,rfl⟩ r0 r0 (lnS (l:=lw) st9 r0) (q ⟨_,rfl,rfl⟩ r0 r0 (gtr (k:=.i64) (a:=(lw.length:Int)) (b:=0) r0 r0) (qt r0 (pt (v:=.bool (decide ((0:Int)<(lw.length:Int)))) r0 r0) (tA (.bool (decide ((0:Int)<(lw.length:Int)))) r0 (nn ?_))))))
    refine rt (fT (.bool (decide ((0:Int)<(lw.length:Int)))) r0 ?_)
    have e1:(decide ((0:Int)<(lw.length:Int)))=loginOk lu lw:=by simp only[loginOk_len]; simp only[h1,h2,h3,decide_true,decide_false,Bool.and_true,Bool.true_and,Bool.and_false,Bool.false_and]
    exact⟨(congrArg (Value.bool) e1),(hs3.pk [] r0)⟩
   ·refine gf5 r0 (gf5 r0 (gf5 r0 (gf5 r0 (qt r0 (pf (v:=.bool false) r0 r0) (tA (.bool false) r0 (nn ?_))))))
    refine rt (fT (.bool false) r0 ?_)
    have e2:false=loginOk lu lw:=by simp only[loginOk_len]; simp only[h1,h2,h3,decide_true,decide_false,Bool.and_true,Bool.true_and,Bool.and_false,Bool.false_and]
    exact⟨(congrArg (Value.bool) e2),(hs3.pk [] r0)⟩
  ·refine gf5 r0 (gf5 r0 (gf5 r0 (gf5 r0 (qt r0 (pf (v:=.bool false) r0 r0) (tm (.bool false) r0 (gf5 r0 (gf5 r0 ?_)))))))
   refine gf5 r0 (gf5 r0 (qt r0 (pf (v:=.bool false) r0 r0) (tA (.bool false) r0 (nn (rt (fT (.bool false) r0 ?_))))))
   have e3:false=loginOk lu lw:=by simp only[loginOk_len]; simp only[h1,h2,decide_true,decide_false,Bool.and_true,Bool.true_and,Bool.and_false,Bool.false_and]
   exact⟨(congrArg (Value.bool) e3),(hs3.pk [] r0)⟩
 ·refine gf5 r0 (gf5 r0 (gf5 r0 (qt r0 (pf (v:=.bool false) r0 r0) (tm (.bool false) r0 (gf5 r0 (gf5 r0 (gf5 r0 ?_)))))))
  refine gf5 r0 (qt r0 (pf (v:=.bool false) r0 r0) (tm (.bool false) r0 (gf5 r0 (gf5 r0 (gf5 r0 (gf5 r0 (qt r0 (pf (v:=.bool false) r0 r0) ?_)))))))
  refine tA (.bool false) r0 (nn (rt (fT (.bool false) r0 ?_)))
  have e4:false=loginOk lu lw:=by simp only[loginOk_len]; simp only[h1,decide_true,decide_false,Bool.and_true,Bool.true_and,Bool.and_false,Bool.false_and]
  exact⟨(congrArg (Value.bool) e4),(hs2.pk [] r0)⟩
theorem iClientValid {Ams:Option Addr} {cms:Nat} (ms:List Int) (lu:List UInt8) (lw:List UInt8) (ak:Int) {Aaq:Option Addr} {caq:Nat} (aq:List Int) (an:List UInt8) (apt:Int) (w:World) (hms:Sl w [] 1 Ams ms.length cms (ms.map I)) (hlu_n:lu.length≤2147483648) (hlw_n:lw.length≤2147483648) (haq:Sl w [] 1 Aaq aq.length caq (aq.map I)) (han_n:an.length≤1099511627776):Does Tryz.prog 66 [.agg #[.slice Ams ms.length cms,Str lu,Str lw,I ak,.slice Aaq aq.length caq,Str an,I apt]] w (fun v w'=>v=.bool (clientOk ms lu lw ak aq an apt)∧SH w w' [] []):=by
 refine fE (N:=23) Tryz.func66 r0 (by kernel_rfl) r0 ?_
 have hs0:=SH.refl w []
 have hms_m:ms.length≤9223372036854775807:=Nat.le_trans hms.cap hms.capMax
 have haq_m:aq.length≤9223372036854775807:=Nat.le_trans haq.cap haq.capMax
 refine sr (bx (v:=.agg #[(Z7 Ams ms cms),Str lu,Str lw,I ak,(Z7 Aaq aq caq),Str an,I apt]) (cs:=(Z1 Ams ms cms lu lw ak Aaq aq caq an apt)) hs0 r0 r0 trivial r0 (fun b1 w1 hs1=>?_))
 refine tA (.bool false) r0 (nn (sq (sr (qt r0 (fa 0 fo53_0 r0) (qt r0 (lD (Z11 Ams ms cms) hs1 0 r0 one22) ?_)))))
 refine cL r0 (iAreMethods (Ams:=Ams) (cms:=cms) (ms:=ms) (w:=_) (hms:=(hms.up0 hs1))) ?_
 rintro _ w2 ⟨rfl,hs2⟩
 replace hs2:=hs1.call0 hs2
 refine qt r0 (nt (b:=methOk ms) r0) (tm (.bool (!(methOk ms))) r0 ?_)
 refine spl (b:=!(methOk ms)) 7 r0 (fun h1=>?_) (fun h1=>?_)
 ·have h2:(methOk ms)=false:=by simpa using h1
  refine gt5 r0 (gt5 r0 (gt5 r0 (gt5 r0 (qt r0 (pt (v:=.bool true) r0 r0) (nn (cdt r0 ?_))))))
  refine sr (tA (.bool false) r0 (nn (rt (tR ?_))))
  refine fT (.bool false) r0 ?_
  have e1:false=clientOk ms lu lw ak aq an apt:=by simp[clientOk,h2]
  exact⟨(congrArg (Value.bool) e1),(hs2.pk [] r0)⟩
 ·have h3:(methOk ms)=true:=by simpa using h1
  refine q ⟨_,rfl,rfl⟩ r0 r0 (fa 3 fo53_2 r0) (q ⟨_,rfl,rfl⟩ r0 r0 (lG [I ak,(Z7 Aaq aq caq),Str an,I apt] hs2 0 r0 ag43) (cl ⟨_,rfl,rfl⟩ r0 (iAddressValid (ak:=ak) (Aaq:=Aaq) (caq:=caq) (aq:=aq) (an:=an) (apt:=apt) (w:=_) (haq:=(haq.up0 hs2)) (han_n:=(by omega))) ?_))
  rintro _ w3 ⟨rfl,hs3⟩
  replace hs3:=hs2.call0 hs3
  refine q ⟨_,rfl,rfl⟩ r0 r0 (nt (b:=addrOk ak aq an apt) r0) (qt r0 (pf (v:=.bool (!(addrOk ak aq an apt))) r0 r0) (nn ?_))
  refine cd (b:=!(addrOk ak aq an apt)) r0 (fun h4=>?_) (fun h4=>?_)
  ·have h5:(addrOk ak aq an apt)=false:=by simpa using h4
   refine sr (tA (.bool false) r0 (nn (rt (tR ?_))))
   refine fT (.bool false) r0 ?_
   have e2:false=clientOk ms lu lw ak aq an apt:=by simp[clientOk,h3,h5]
   exact⟨(congrArg (Value.bool) e2),(hs3.pk [] r0)⟩
  ·have h6:(addrOk ak aq an apt)=true:=by simpa using h4
   refine sk (nN (sq (sr (qt r0 (fa 0 fo53_0 r0) (qt r0 (lD (Z11 Ams ms cms) hs3 0 r0 one22) (cL r0 (slContains (Azs:=Ams) (czs:=cms) (zs:=ms) (n:=2) (w:=_) (hzs:=(hms.up0 hs3))) ?_))))))
   rintro _ w4 ⟨rfl,hs4⟩
   replace hs4:=hs3.call0 hs4
   refine nn ?_
   refine cdd (p:=2∈ms) r0 (fun h7=>?_) (fun h7=>?_)
   ·refine sr (qt r0 (fa 1 fo53_1 r0) (qt r0 (lG [Str lu,Str lw] hs4 0 r0 ag51) (cL r0 (iIsLogin (lu:=lu) (lw:=lw) (w:=_) (hlu_n:=(by omega)) (hlw_n:=(by omega))) ?_)))
    rintro _ w5 ⟨rfl,hs5⟩
    replace hs5:=hs4.call0 hs5
    refine tA (.bool (loginOk lu lw)) r0 (nn (rt (tR ?_)))
    refine fT (.bool (loginOk lu lw)) r0 ?_
    have e3:(loginOk lu lw)=clientOk ms lu lw ak aq an apt:=by simp[clientOk,h3,h6,h7]
    exact⟨(congrArg (Value.bool) e3),(hs5.pk [] r0)⟩
   ·refine sk (nN (sr (qt r0 (fa 1 fo53_1 r0) (qt r0 (lG [Str lu,Str lw] hs4 0 r0 ag51) (qt r0 (bdv (v:=.agg #[Str [],Str []]) [] r0 (fun _=>by kernel_rfl)) (qt r0 (eq2 (a:=lu) (b:=lw) (c:=[]) (e:=[]) s2_51 r0 r0) ?_))))))
    refine tA (.bool (decide (lu=[]∧lw=[]))) r0 (nn (rt (fT (.bool (decide (lu=[]∧lw=[]))) r0 ?_)))
    have e4:(decide (lu=[]∧lw=[]))=clientOk ms lu lw ak aq an apt:=by simp[clientOk,h3,h6,h7]
    exact⟨(congrArg (Value.bool) e4),(hs4.pk [] r0)⟩
theorem sClientValid {Ams:Option Addr} {cms:Nat} (ms:List Int) (lu:List UInt8) (lw:List UInt8) (ak:Int) {Aaq:Option Addr} {caq:Nat} (aq:List Int) (an:List UInt8) (apt:Int) (w:World) (hms:Sl w [] 1 Ams ms.length cms (ms.map I)) (hlu_n:lu.length≤2147483648) (hlw_n:lw.length≤2147483648) (haq:Sl w [] 1 Aaq aq.length caq (aq.map I)) (han_n:an.length≤1099511627776):Does Tryz.prog 67 [.agg #[.slice Ams ms.length cms,Str lu,Str lw,I ak,.slice Aaq aq.length caq,Str an,I apt]] w (fun v w'=>v=.bool (clientOk ms lu lw ak aq an apt)∧SH w w' [] []):=by
 refine fE (N:=23) Tryz.func67 r0 (by kernel_rfl) r0 ?_
 have hs0:=SH.refl w []
 have hms_m:ms.length≤9223372036854775807:=Nat.le_trans hms.cap hms.capMax
 have haq_m:aq.length≤9223372036854775807:=Nat.le_trans haq.cap haq.capMax
 refine sr (bx (v:=.agg #[(Z7 Ams ms cms),Str lu,Str lw,I ak,(Z7 Aaq aq caq),Str an,I apt]) (cs:=(Z1 Ams ms cms lu lw ak Aaq aq caq an apt)) hs0 r0 r0 trivial r0 (fun b1 w1 hs1=>?_))
 refine tA (.bool false) r0 (nn (sq (sr (qt r0 (fa 0 fo53_0 r0) (qt r0 (lD (Z11 Ams ms cms) hs1 0 r0 one22) ?_)))))
 refine cL r0 (sL5Ok (Ams:=Ams) (cms:=cms) (ms:=ms) (w:=_) (hms:=(hms.up0 hs1))) ?_
 rintro _ w2 ⟨rfl,hs2⟩
 replace hs2:=hs1.call0 hs2
 refine qt r0 (nt (b:=methOk ms) r0) (tm (.bool (!(methOk ms))) r0 ?_)
 refine spl (b:=!(methOk ms)) 7 r0 (fun h1=>?_) (fun h1=>?_)
 ·have h2:(methOk ms)=false:=by simpa using h1
  refine gt5 r0 (gt5 r0 (gt5 r0 (gt5 r0 (qt r0 (pt (v:=.bool true) r0 r0) (nn (cdt r0 ?_))))))
  refine sr (tA (.bool false) r0 (nn (rt (tR ?_))))
  refine fT (.bool false) r0 ?_
  have e1:false=clientOk ms lu lw ak aq an apt:=by simp[clientOk,h2]
  exact⟨(congrArg (Value.bool) e1),(hs2.pk [] r0)⟩
 ·have h3:(methOk ms)=true:=by simpa using h1
  refine q ⟨_,rfl,rfl⟩ r0 r0 (fa 3 fo53_2 r0) (q ⟨_,rfl,rfl⟩ r0 r0 (lG [I ak,(Z7 Aaq aq caq),Str an,I apt] hs2 0 r0 ag43) (cl ⟨_,rfl,rfl⟩ r0 (sAddressValid (ak:=ak) (Aaq:=Aaq) (caq:=caq) (aq:=aq) (an:=an) (apt:=apt) (w:=_) (haq:=(haq.up0 hs2)) (han_n:=(by omega))) ?_))
  rintro _ w3 ⟨rfl,hs3⟩
  replace hs3:=hs2.call0 hs3
  refine q ⟨_,rfl,rfl⟩ r0 r0 (nt (b:=addrOk ak aq an apt) r0) (qt r0 (pf (v:=.bool (!(addrOk ak aq an apt))) r0 r0) (nn ?_))
  refine cd (b:=!(addrOk ak aq an apt)) r0 (fun h4=>?_) (fun h4=>?_)
  ·have h5:(addrOk ak aq an apt)=false:=by simpa using h4
   refine sr (tA (.bool false) r0 (nn (rt (tR ?_))))
   refine fT (.bool false) r0 ?_
   have e2:false=clientOk ms lu lw ak aq an apt:=by simp[clientOk,h3,h5]
   exact⟨(congrArg (Value.bool) e2),(hs3.pk [] r0)⟩
  ·have h6:(addrOk ak aq an apt)=true:=by simpa using h4
   refine sk (nN (sq (sr (qt r0 (fa 0 fo53_0 r0) (qt r0 (lD (Z11 Ams ms cms) hs3 0 r0 one22) (cL r0 (l5Has (Azs:=Ams) (czs:=cms) (zs:=ms) (n:=2) (w:=_) (hzs:=(hms.up0 hs3))) ?_))))))
   rintro _ w4 ⟨rfl,hs4⟩
   replace hs4:=hs3.call0 hs4
   refine nn ?_
   refine cdd (p:=2∈ms) r0 (fun h7=>?_) (fun h7=>?_)
   ·refine sr (qt r0 (fa 1 fo53_1 r0) (qt r0 (lG [Str lu,Str lw] hs4 0 r0 ag51) (cL r0 (sL11Ok (lu:=lu) (lw:=lw) (w:=_) (hlu_n:=(by omega)) (hlw_n:=(by omega))) ?_)))
    rintro _ w5 ⟨rfl,hs5⟩
    replace hs5:=hs4.call0 hs5
    refine tA (.bool (loginOk lu lw)) r0 (nn (rt (tR ?_)))
    refine fT (.bool (loginOk lu lw)) r0 ?_
    have e3:(loginOk lu lw)=clientOk ms lu lw ak aq an apt:=by simp[clientOk,h3,h6,h7]
    exact⟨(congrArg (Value.bool) e3),(hs5.pk [] r0)⟩
   ·refine sk (nN (sr (qt r0 (fa 1 fo53_1 r0) (qt r0 (lG [Str lu,Str lw] hs4 0 r0 ag51) (qt r0 (bdv (v:=.agg #[Str [],Str []]) [] r0 (fun _=>by kernel_rfl)) (qt r0 (eq2 (a:=lu) (b:=lw) (c:=[]) (e:=[]) s2_51 r0 r0) ?_))))))
    refine tA (.bool (decide (lu=[]∧lw=[]))) r0 (nn (rt (fT (.bool (decide (lu=[]∧lw=[]))) r0 ?_)))
    have e4:(decide (lu=[]∧lw=[]))=clientOk ms lu lw ak aq an apt:=by simp[clientOk,h3,h6,h7]
    exact⟨(congrArg (Value.bool) e4),(hs4.pk [] r0)⟩
theorem szLogin (lu:List UInt8) (lw:List UInt8) (z:Int) (w:World) (hlu_n:lu.length≤9223372036854775807) (hlw_n:lw.length≤9223372036854775807) (hz:0≤z∧z≤1099511627776):Does Tryz.prog 83 [.agg #[Str lu,Str lw],I z] w (fun v w'=>∃ r:Int,v=.int .i64 r∧(-1≤r∧r≤z)∧(r<0∨((lu.length:Int)≤z∧(lw.length:Int)≤z))∧SH w w' [] []):=by
 refine fE (N:=20) Tryz.func83 r0 (by kernel_rfl) r0 ?_
 have hs0:=SH.refl w []
 refine sr (bx (v:=.agg #[Str lu,Str lw]) (cs:=[Str lu,Str lw]) hs0 r0 r0 trivial r0 (fun b1 w1 hs1=>?_))
 refine tA (I 0) r0 (nx (tm (I z) r0 (qt r0 (fa 0 fo63_0 r0) (qt r0 (lD (Str lu) hs1 0 r0 one9) ?_))))
 refine qt r0 (lnS (l:=lu) st9 r0) (qt r0 (sub (a:=z) (b:=(lu.length:Int)) r0 r0 (by exact⟨by omega,by omega⟩)) (tA (I (z-(lu.length:Int))) r0 (nn (sq (sr ?_)))))
 refine tm (I (z-(lu.length:Int))) r0 (qt r0 (lss (k:=.i64) (a:=z-(lu.length:Int)) (b:=0) r0 r0) (nn ?_))
 refine cdd (p:=(z-(lu.length:Int))<0) r0 (fun h1=>?_) (fun h1=>?_)
 ·refine sr (tA (I (-1)) r0 (nn (rt (tR ?_))))
  refine fT (I (-1)) r0 ?_
  exact⟨(-1),rfl,(by omega),(by omega),(hs1.pk [] r0)⟩
 ·refine sk (nN (sr (tm (I (z-(lu.length:Int))) r0 (qt r0 (fa 1 fo63_1 r0) (qt r0 (lD (Str lw) hs1 0 r0 one9) (qt r0 (lnS (l:=lw) st9 r0) ?_))))))
  refine qt r0 (sub (a:=z-(lu.length:Int)) (b:=(lw.length:Int)) r0 r0 (by exact⟨by omega,by omega⟩)) (tA (I ((z-(lu.length:Int))-(lw.length:Int))) r0 (nn (sq (sr (tm (I ((z-(lu.length:Int))-(lw.length:Int))) r0 ?_)))))
  refine qt r0 (lss (k:=.i64) (a:=(z-(lu.length:Int))-(lw.length:Int)) (b:=0) r0 r0) (nn ?_)
  refine cdd (p:=((z-(lu.length:Int))-(lw.length:Int))<0) r0 (fun h2=>?_) (fun h2=>?_)
  ·refine sr (tA (I (-1)) r0 (nn (rt (tR ?_))))
   refine fT (I (-1)) r0 ?_
   exact⟨(-1),rfl,(by omega),(by omega),(hs1.pk [] r0)⟩
  ·refine sk (nN (sr (tm (I ((z-(lu.length:Int))-(lw.length:Int))) r0 (tA (I ((z-(lu.length:Int))-(lw.length:Int))) r0 (nn ?_)))))
   refine rt (fT (I ((z-(lu.length:Int))-(lw.length:Int))) r0 ?_)
   exact⟨(z-(lu.length:Int))-(lw.length:Int),rfl,(by omega),(by omega),(hs1.pk [] r0)⟩
theorem szAddress (ak:Int) {Aaq:Option Addr} {caq:Nat} (aq:List Int) (an:List UInt8) (apt:Int) (z:Int) (w:World) (haq:Sl w [] 1 Aaq aq.length caq (aq.map I)) (han_n:an.length≤9223372036854775807) (hz:0≤z∧z≤1099511627776):Does Tryz.prog 84 [.agg #[I ak,.slice Aaq aq.length caq,Str an,I apt],I z] w (fun v w'=>∃ r:Int,v=.int .i64 r∧(-1≤r∧r≤z)∧(r<0∨((aq.length:Int)≤z∧(an.length:Int)≤z))∧SH w w' [] []):=by
 refine fE (N:=19) Tryz.func84 r0 (by kernel_rfl) r0 ?_
 have hs0:=SH.refl w []
 have haq_m:aq.length≤9223372036854775807:=Nat.le_trans haq.cap haq.capMax
 refine sr (bx (v:=.agg #[I ak,(Z7 Aaq aq caq),Str an,I apt]) (cs:=[I ak,(Z7 Aaq aq caq),Str an,I apt]) hs0 r0 r0 trivial r0 (fun b1 w1 hs1=>?_))
 refine tA (I 0) r0 (nx (qt r0 (fa 1 fo64_1 r0) (qt r0 (lD (Z11 Aaq aq caq) hs1 0 r0 one22) (tm (I z) r0 ?_))))
 refine cL r0 (szIntS (Axs:=Aaq) (cxs:=caq) (xs:=aq) (z:=z) (w:=_) (hxs:=(haq.up0 hs1)) (hz:=(by(first | omega | assumption | (simp; done) | (simp; omega))))) ?_
 rintro _ w2 ⟨rfl,hs2⟩
 replace hs2:=hs1.call0 hs2
 refine tA (I (szI aq.length z)) r0 (nn (sq (sr (tm (I (szI aq.length z)) r0 (qt r0 (lss (k:=.i64) (a:=szI aq.length z) (b:=0) r0 r0) ?_)))))
 refine nn ?_
 refine cdd (p:=(szI aq.length z)<0) r0 (fun h1=>?_) (fun h1=>?_)
 ·refine sr (tA (I (-1)) r0 (nn (rt (tR ?_))))
  refine fT (I (-1)) r0 ?_
  exact⟨(-1),rfl,(by have hsz1:=szI_bd (n:=aq.length) (z:=z) (by omega); omega),(by have hsz1:=szI_bd (n:=aq.length) (z:=z) (by omega); omega),(hs2.pk [] r0)⟩
 ·refine sk (nN (sr (tm (I (szI aq.length z)) r0 (qt r0 (fa 2 fo64_2 r0) (qt r0 (lD (Str an) hs2 0 r0 one9) (qt r0 (lnS (l:=an) st9 r0) ?_))))))
  refine qt r0 (sub (a:=szI aq.length z) (b:=(an.length:Int)) r0 r0 (by(have hsz1:=szI_bd (n:=aq.length) (z:=z) (by omega); have hsz2:=szI_nn (n:=aq.length) (z:=z) (by omega); exact⟨by omega,by omega⟩))) (tA (I ((szI aq.length z)-(an.length:Int))) r0 (nn (sq (sr (tm (I ((szI aq.length z)-(an.length:Int))) r0 ?_)))))
  refine qt r0 (lss (k:=.i64) (a:=(szI aq.length z)-(an.length:Int)) (b:=0) r0 r0) (nn ?_)
  refine cdd (p:=((szI aq.length z)-(an.length:Int))<0) r0 (fun h2=>?_) (fun h2=>?_)
  ·refine sr (tA (I (-1)) r0 (nn (rt (tR ?_))))
   refine fT (I (-1)) r0 ?_
   exact⟨(-1),rfl,(by have hsz1:=szI_bd (n:=aq.length) (z:=z) (by omega); omega),(by have hsz1:=szI_bd (n:=aq.length) (z:=z) (by omega); omega),(hs2.pk [] r0)⟩
  ·refine sk (nN (sr (tm (I ((szI aq.length z)-(an.length:Int))) r0 (tA (I ((szI aq.length z)-(an.length:Int))) r0 (nn ?_)))))
   refine rt (fT (I ((szI aq.length z)-(an.length:Int))) r0 ?_)
   exact⟨(szI aq.length z)-(an.length:Int),rfl,(by have hsz1:=szI_bd (n:=aq.length) (z:=z) (by omega); omega),(by have hsz1:=szI_bd (n:=aq.length) (z:=z) (by omega); (have hsz2:=szI_nn (n:=aq.length) (z:=z) (by omega); omega)),(hs2.pk [] r0)⟩
theorem szClient {Ams:Option Addr} {cms:Nat} (ms:List Int) (lu:List UInt8) (lw:List UInt8) (ak:Int) {Aaq:Option Addr} {caq:Nat} (aq:List Int) (an:List UInt8) (apt:Int) (z:Int) (w:World) (hms:Sl w [] 1 Ams ms.length cms (ms.map I)) (hlu_n:lu.length≤9223372036854775807) (hlw_n:lw.length≤9223372036854775807) (haq:Sl w [] 1 Aaq aq.length caq (aq.map I)) (han_n:an.length≤9223372036854775807) (hz:0≤z∧z≤1099511627776):Does Tryz.prog 34 [.agg #[.slice Ams ms.length cms,Str lu,Str lw,I ak,.slice Aaq aq.length caq,Str an,I apt],I z] w (fun v w'=>∃ r:Int,v=.int .i64 r∧(-1≤r∧r≤z)∧(r<0∨((ms.length:Int)≤z∧(lu.length:Int)≤z∧(lw.length:Int)≤z∧(aq.length:Int)≤z∧(an.length:Int)≤z))∧SH w w' [] []):=by
 refine fE (N:=24) Tryz.func34 r0 (by kernel_rfl) r0 ?_
 have hs0:=SH.refl w []
 have hms_m:ms.length≤9223372036854775807:=Nat.le_trans hms.cap hms.capMax
 have haq_m:aq.length≤9223372036854775807:=Nat.le_trans haq.cap haq.capMax
 refine sr (bx (v:=.agg #[(Z7 Ams ms cms),Str lu,Str lw,I ak,(Z7 Aaq aq caq),Str an,I apt]) (cs:=(Z1 Ams ms cms lu lw ak Aaq aq caq an apt)) hs0 r0 r0 trivial r0 (fun b1 w1 hs1=>?_))
 refine tA (I 0) r0 (nx (qt r0 (fa 0 fo66_0 r0) (qt r0 (lD (Z11 Ams ms cms) hs1 0 r0 one22) (tm (I z) r0 ?_))))
 refine cL r0 (szIntS (Axs:=Ams) (cxs:=cms) (xs:=ms) (z:=z) (w:=_) (hxs:=(hms.up0 hs1)) (hz:=(by(first | omega | assumption | (simp; done) | (simp; omega))))) ?_
 rintro _ w2 ⟨rfl,hs2⟩
 replace hs2:=hs1.call0 hs2
 refine tA (I (szI ms.length z)) r0 (nn (sq (sr (tm (I (szI ms.length z)) r0 (qt r0 (lss (k:=.i64) (a:=szI ms.length z) (b:=0) r0 r0) ?_)))))
 refine nn ?_
 refine cdd (p:=(szI ms.length z)<0) r0 (fun h1=>?_) (fun h1=>?_)
 ·refine sr (tA (I (-1)) r0 (nn (rt (tR ?_))))
  refine fT (I (-1)) r0 ?_
  exact⟨(-1),rfl,(by have hsz1:=szI_bd (n:=ms.length) (z:=z) (by omega); omega),(by have hsz1:=szI_bd (n:=ms.length) (z:=z) (by omega); omega),(hs2.pk [] r0)⟩
 ·refine sk (nN (sr (qt r0 (fa 1 fo66_1 r0) (qt r0 (lG [Str lu,Str lw] hs2 0 r0 ag63) (tm (I (szI ms.length z)) r0 (cL r0 (szLogin (lu:=lu) (lw:=lw) (z:=szI ms.length z) (w:=_) (hlu_n:=(by(first | omega | (simp; done) | (simp; omega)))) (hlw_n:=(by(first | omega | (simp; done) | (simp; omega)))) (hz:=(by(have hsz1:=szI_bd (n:=ms.length) (z:=z) (by omega); first | omega | assumption | (simp; done) | (simp; omega))))) ?_))))))
  rintro _ w3 ⟨r1,rfl,p1,p2,hs3⟩
  replace hs3:=hs2.call0 hs3
  refine tA (I r1) r0 (nn (sq (sr (tm (I r1) r0 (qt r0 (lss (k:=.i64) (a:=r1) (b:=0) r0 r0) ?_)))))
  refine nn ?_
  refine cdd (p:=r1<0) r0 (fun h2=>?_) (fun h2=>?_)
  ·refine sr (tA (I (-1)) r0 (nn (rt (tR ?_))))
   refine fT (I (-1)) r0 ?_
   exact⟨(-1),rfl,(by have hsz1:=szI_bd (n:=ms.length) (z:=z) (by omega); omega),(by have hsz1:=szI_bd (n:=ms.length) (z:=z) (by omega); omega),(hs3.pk [] r0)⟩
  ·refine sk (nN (sr (qt r0 (fa 3 fo66_2 r0) (qt r0 (lG [I ak,(Z7 Aaq aq caq),Str an,I apt] hs3 0 r0 ag64) (tm (I r1) r0 (cL r0 (szAddress (ak:=ak) (Aaq:=Aaq) (caq:=caq) (aq:=aq) (an:=an) (apt:=apt) (z:=r1) (w:=_) (haq:=(haq.up0 hs3)) (han_n:=(by(first | omega | (simp; done) | (simp; omega)))) (hz:=(by(have hsz1:=szI_bd (n:=ms.length) (z:=z) (by omega); first | omega | assumption | (simp; done) | (simp; omega))))) ?_))))))
   rintro _ w4 ⟨r2,rfl,p3,p4,hs4⟩
   replace hs4:=hs3.call0 hs4
   refine tA (I r2) r0 (nn (sq (sr (tm (I r2) r0 (qt r0 (lss (k:=.i64) (a:=r2) (b:=0) r0 r0) ?_)))))
   refine nn ?_
   refine cdd (p:=r2<0) r0 (fun h3=>?_) (fun h3=>?_)
   ·refine sr (tA (I (-1)) r0 (nn (rt (tR ?_))))
    refine fT (I (-1)) r0 ?_
    exact⟨(-1),rfl,(by have hsz1:=szI_bd (n:=ms.length) (z:=z) (by omega); omega),(by have hsz1:=szI_bd (n:=ms.length) (z:=z) (by omega); omega),(hs4.pk [] r0)⟩
   ·refine sk (nN (sr (tm (I r2) r0 (tA (I r2) r0 (nn ?_)))))
    refine rt (fT (I r2) r0 ?_)
    exact⟨r2,rfl,(by have hsz1:=szI_bd (n:=ms.length) (z:=z) (by omega); omega),(by have hsz1:=szI_bd (n:=ms.length) (z:=z) (by omega); (have hsz2:=szI_nn (n:=ms.length) (z:=z) (by omega); omega)),(hs4.pk [] r0)⟩
theorem toLogin (lu:List UInt8) (lw:List UInt8) (w:World):Does Tryz.prog 85 [.agg #[Str lu,Str lw]] w (fun v w'=>v=.agg #[Str lu,Str lw]∧SH w w' [] []):=by
 refine fE (N:=11) Tryz.func85 r0 (by kernel_rfl) r0 ?_
 have hs0:=SH.refl w []
 refine sr (bx (v:=.agg #[Str lu,Str lw]) (cs:=[Str lu,Str lw]) hs0 r0 r0 trivial r0 (fun b1 w1 hs1=>?_))
 refine al (v:=.agg #[Str [],Str []]) (cs:=[Str [],Str []]) hs1 tz51 r0 trivial r0 (fun b2 w2 hs2=>?_)
 refine nx (al (v:=.agg #[Str [],Str []]) (cs:=[Str [],Str []]) hs2 tz51 r0 trivial r0 (fun b3 w3 hs3=>?_))
 refine nx (qt r0 (fa 0 fo63_0 r0) (qt r0 (lD (Str lu) hs3 0 r0 one9) (qt r0 (fa 0 fo51_0 r0) (sT (Str lu) hs3 2 r0 one9 (fun w4 hs4=>?_)))))
 refine nx (qt r0 (fa 1 fo63_1 r0) (qt r0 (lD (Str lw) hs4 0 r0 one9) (qt r0 (fa 1 fo51_1 r0) (sT (Str lw) hs4 2 r0 one9 (fun w5 hs5=>?_)))))
 refine nx (qt r0 (lG [Str lu,Str lw] hs5 2 r0 ag51) (sG [Str lu,Str lw] hs5 1 r0 ag51 (fun w6 hs6=>?_)))
 refine nn (rt (fret (v:=.agg #[Str lu,Str lw]) (resC hs6 2 r0 r0 ag51 r0 .nil) r0 ?_))
 exact⟨rfl,(hs6.pk [] r0)⟩
theorem toAddress (ak:Int) {Aaq:Option Addr} {caq:Nat} (aq:List Int) (an:List UInt8) (apt:Int) (w:World) (haq:Sl w [] 1 Aaq aq.length caq (aq.map I)) (haq_n:aq.length≤1099511627776):Does Tryz.prog 86 [.agg #[I ak,.slice Aaq aq.length caq,Str an,I apt]] w (fun v w'=>∃ Aqr:Option Addr,∃ cqr:Nat,v=.agg #[.int .i64 ak,.slice Aqr aq.length cqr,Str an,.int .i64 apt]∧SH w w' [] [.own Aqr aq.length cqr 3 1 (aq.map I)]):=by
 refine fE (N:=18) Tryz.func86 r0 (by kernel_rfl) r0 ?_
 have hs0:SH w w [] []:=SH.refl w []
 have haq_m:aq.length≤9223372036854775807:=Nat.le_trans haq.cap haq.capMax
 refine sr (bx (v:=.agg #[I ak,(Z7 Aaq aq caq),Str an,I apt]) (cs:=[I ak,(Z7 Aaq aq caq),Str an,I apt]) hs0 r0 r0 trivial r0 (fun b1 w1 (hs1:SH w w1 [] [.blk b1 64 [I ak,(Z7 Aaq aq caq),Str an,I apt]])=>?_))
 refine al (v:=.agg #[I 0,ns,Str [],I 0]) (cs:=[I 0,ns,Str [],I 0]) hs1 tz43 r0 trivial r0 (fun b2 w2 (hs2:SH w w2 [] [.blk b1 64 [I ak,(Z7 Aaq aq caq),Str an,I apt],(Z6 b2)])=>?_)
 refine nx (al (v:=.agg #[I 0,ns,Str [],I 0]) (cs:=[I 0,ns,Str [],I 0]) hs2 tz43 r0 trivial r0 (fun b3 w3 (hs3:SH w w3 [] [.blk b1 64 [I ak,(Z7 Aaq aq caq),Str an,I apt],(Z6 b2),(Z6 b3)])=>?_))
 refine nx (qt r0 (fa 0 fo64_0 r0) (qt r0 (lD (I ak) hs3 0 r0 one3) (qt r0 (fa 0 fo43_0 r0) (sT (I ak) hs3 2 r0 one3 (fun w4 (hs4:SH w w4 [] [.blk b1 64 [I ak,(Z7 Aaq aq caq),Str an,I apt],(Z6 b2),.blk b3 43 [I ak,ns,Str [],I 0]])=>?_)))))
 refine nx (qt r0 (fa 1 fo64_1 r0) (qt r0 (lD (Z11 Aaq aq caq) hs4 0 r0 one22) (cL r0 (toIntS (Axs:=Aaq) (cxs:=caq) (xs:=aq) (w:=_) (hxs:=(haq.up0 hs4)) (hxs_n:=(by omega))) ?_)))
 rintro _ w5 ⟨A1,c1,rfl,hs5⟩
 replace hs5:=hs4.call0 hs5
 refine qt r0 (fa 1 fo43_1 r0) (sT (Z11 A1 aq c1) hs5 2 r0 one22 (fun w6 (hs6:SH w w6 [] [.blk b1 64 [I ak,(Z7 Aaq aq caq),Str an,I apt],(Z6 b2),(Z4 A1 aq c1),.blk b3 43 [I ak,(Z7 A1 aq c1),Str [],I 0]])=>?_))
 refine nx (qt r0 (fa 2 fo64_2 r0) (qt r0 (lD (Str an) hs6 0 r0 one9) (qt r0 (fa 2 fo43_2 r0) (sT (Str an) hs6 3 r0 one9 (fun w7 (hs7:SH w w7 [] [.blk b1 64 [I ak,(Z7 Aaq aq caq),Str an,I apt],(Z6 b2),(Z4 A1 aq c1),.blk b3 43 [I ak,(Z7 A1 aq c1),Str an,I 0]])=>?_)))))
 refine nx (qt r0 (fa 3 fo64_3 r0) (qt r0 (lD (I apt) hs7 0 r0 one3) (qt r0 (fa 3 fo43_3 r0) (sT (I apt) hs7 3 r0 one3 (fun w8 (hs8:SH w w8 [] [.blk b1 64 [I ak,(Z7 Aaq aq caq),Str an,I apt],(Z6 b2),(Z4 A1 aq c1),.blk b3 43 [I ak,(Z7 A1 aq c1),Str an,I apt]])=>?_)))))
 refine nx (qt r0 (lG [I ak,(Z7 A1 aq c1),Str an,I apt] hs8 3 r0 ag43) (sG [I ak,(Z7 A1 aq c1),Str an,I apt] hs8 1 r0 ag43 (fun w9 (hs9:SH w w9 [] [.blk b1 64 [I ak,(Z7 Aaq aq caq),Str an,I apt],(Z4 A1 aq c1),.blk b3 43 [I ak,(Z7 A1 aq c1),Str an,I apt],.blk b2 43 [I ak,(Z7 A1 aq c1),Str an,I apt]])=>?_)))
 refine nn ?_
 have hs10:SH w w9 [] [(Z4 A1 aq c1),.blk b2 43 [I ak,(Z7 A1 aq c1),Str an,I apt]]:=hs9.pk [1,3] r0
 refine rt (fret (v:=.agg #[I ak,(Z7 A1 aq c1),Str an,I apt]) (resC hs10 1 r0 r0 ag43 r0 .nil) r0 ?_)
 exact⟨A1,c1,rfl,(hs10.pk [0] r0)⟩
theorem toClient {Ams:Option Addr} {cms:Nat} (ms:List Int) (lu:List UInt8) (lw:List UInt8) (ak:Int) {Aaq:Option Addr} {caq:Nat} (aq:List Int) (an:List UInt8) (apt:Int) (w:World) (hms:Sl w [] 1 Ams ms.length cms (ms.map I)) (hms_n:ms.length≤1099511627776) (haq:Sl w [] 1 Aaq aq.length caq (aq.map I)) (haq_n:aq.length≤1099511627776):Does Tryz.prog 35 [.agg #[.slice Ams ms.length cms,Str lu,Str lw,I ak,.slice Aaq aq.length caq,Str an,I apt]] w (fun v w'=>∃ Amr:Option Addr,∃ cmr:Nat,∃ Aqr:Option Addr,∃ cqr:Nat,v=.agg #[.slice Amr ms.length cmr,Str lu,Str lw,.int .i64 ak,.slice Aqr aq.length cqr,Str an,.int .i64 apt]∧SH w w' [] [.own Amr ms.length cmr 3 1 (ms.map I),.own Aqr aq.length cqr 3 1 (aq.map I)]):=by
 refine fE (N:=17) Tryz.func35 r0 (by kernel_rfl) r0 ?_
 have hs0:SH w w [] []:=SH.refl w []
 have hms_m:ms.length≤9223372036854775807:=Nat.le_trans hms.cap hms.capMax
 have haq_m:aq.length≤9223372036854775807:=Nat.le_trans haq.cap haq.capMax
 refine sr (bx (v:=.agg #[(Z7 Ams ms cms),Str lu,Str lw,I ak,(Z7 Aaq aq caq),Str an,I apt]) (cs:=(Z1 Ams ms cms lu lw ak Aaq aq caq an apt)) hs0 r0 r0 trivial r0 (fun b1 w1 (hs1:SH w w1 [] [.blk b1 66 (Z1 Ams ms cms lu lw ak Aaq aq caq an apt)])=>?_))
 refine al (v:=.agg #[ns,Str [],Str [],I 0,ns,Str [],I 0]) (cs:=[ns,Str [],Str [],I 0,ns,Str [],I 0]) hs1 tz53 r0 trivial r0 (fun b2 w2 (hs2:SH w w2 [] [.blk b1 66 (Z1 Ams ms cms lu lw ak Aaq aq caq an apt),.blk b2 53 [ns,Str [],Str [],I 0,ns,Str [],I 0]])=>?_)
 refine nx (al (v:=.agg #[ns,Str [],Str [],I 0,ns,Str [],I 0]) (cs:=[ns,Str [],Str [],I 0,ns,Str [],I 0]) hs2 tz53 r0 trivial r0 (fun b3 w3 (hs3:SH w w3 [] [.blk b1 66 (Z1 Ams ms cms lu lw ak Aaq aq caq an apt),.blk b2 53 [ns,Str [],Str [],I 0,ns,Str [],I 0],.blk b3 53 [ns,Str [],Str [],I 0,ns,Str [],I 0]])=>?_))
 refine nx (qt r0 (fa 0 fo66_0 r0) (qt r0 (lD (Z11 Ams ms cms) hs3 0 r0 one22) (cL r0 (toIntS (Axs:=Ams) (cxs:=cms) (xs:=ms) (w:=_) (hxs:=(hms.up0 hs3)) (hxs_n:=(by omega))) ?_)))
 rintro _ w4 ⟨A1,c1,rfl,hs4⟩
 replace hs4:=hs3.call0 hs4
 refine qt r0 (fa 0 fo53_0 r0) (sT (Z11 A1 ms c1) hs4 2 r0 one22 (fun w5 (hs5:SH w w5 [] [.blk b1 66 (Z1 Ams ms cms lu lw ak Aaq aq caq an apt),.blk b2 53 [ns,Str [],Str [],I 0,ns,Str [],I 0],(Z4 A1 ms c1),.blk b3 53 [(Z7 A1 ms c1),Str [],Str [],I 0,ns,Str [],I 0]])=>?_))
 refine nx (qt r0 (fa 1 fo66_1 r0) (qt r0 (lG [Str lu,Str lw] hs5 0 r0 ag63) (cL r0 (toLogin (lu:=lu) (lw:=lw) (w:=_)) ?_)))
 rintro _ w6 ⟨rfl,hs6⟩
 replace hs6:=hs5.call0 hs6
 refine qt r0 (fa 1 fo53_1 r0) (sG [Str lu,Str lw] hs6 3 r0 ag51 (fun w7 (hs7:SH w w7 [] [.blk b1 66 (Z1 Ams ms cms lu lw ak Aaq aq caq an apt),.blk b2 53 [ns,Str [],Str [],I 0,ns,Str [],I 0],(Z4 A1 ms c1),.blk b3 53 [(Z7 A1 ms c1),Str lu,Str lw,I 0,ns,Str [],I 0]])=>?_))
 refine nx (qt r0 (fa 3 fo66_2 r0) (qt r0 (lG [I ak,(Z7 Aaq aq caq),Str an,I apt] hs7 0 r0 ag64) (cL r0 (toAddress (ak:=ak) (Aaq:=Aaq) (caq:=caq) (aq:=aq) (an:=an) (apt:=apt) (w:=_) (haq:=(haq.up0 hs7)) (haq_n:=(by omega))) ?_)))
 rintro _ w8 ⟨Aq1,cq1,rfl,hs8⟩
 replace hs8:=hs7.call0 hs8
 refine qt r0 (fa 3 fo53_2 r0) (sG [I ak,(Z7 Aq1 aq cq1),Str an,I apt] hs8 3 r0 ag43 (fun w9 (hs9:SH w w9 [] [.blk b1 66 (Z1 Ams ms cms lu lw ak Aaq aq caq an apt),.blk b2 53 [ns,Str [],Str [],I 0,ns,Str [],I 0],(Z4 A1 ms c1),(Z4 Aq1 aq cq1),.blk b3 53 (Z1 A1 ms c1 lu lw ak Aq1 aq cq1 an apt)])=>?_))
 refine nx (qt r0 (lG (Z1 A1 ms c1 lu lw ak Aq1 aq cq1 an apt) hs9 4 r0 ag53) (sG (Z1 A1 ms c1 lu lw ak Aq1 aq cq1 an apt) hs9 1 r0 ag53 (fun w10 (hs10:SH w w10 [] [.blk b1 66 (Z1 Ams ms cms lu lw ak Aaq aq caq an apt),(Z4 A1 ms c1),(Z4 Aq1 aq cq1),.blk b3 53 (Z1 A1 ms c1 lu lw ak Aq1 aq cq1 an apt),.blk b2 53 (Z1 A1 ms c1 lu lw ak Aq1 aq cq1 an apt)])=>?_)))
 refine nn ?_
 have hs11:SH w w10 [] [(Z4 A1 ms c1),(Z4 Aq1 aq cq1),.blk b2 53 (Z1 A1 ms c1 lu lw ak Aq1 aq cq1 an apt)]:=hs10.pk [1,2,4] r0
 refine rt (fret (v:=.agg #[(Z7 A1 ms c1),Str lu,Str lw,I ak,(Z7 Aq1 aq cq1),Str an,I apt]) (resC hs11 2 r0 r0 ag53 r0 .nil) r0 ?_)
 exact⟨A1,c1,Aq1,cq1,rfl,(hs11.pk [0,1] r0)⟩
theorem eqLogin (u1:List UInt8) (p1:List UInt8) (u2:List UInt8) (p2:List UInt8) (w:World):Does Tryz.prog 87 [.agg #[Str u1,Str p1],.agg #[Str u2,Str p2]] w (fun v w'=>v=.bool (decide (u1=u2∧p1=p2))∧SH w w' [] []):=by
 refine fE (N:=15) Tryz.func87 r0 (by kernel_rfl) r0 ?_
 have hs0:=SH.refl w []
 refine sr (bx (v:=.agg #[Str u1,Str p1]) (cs:=[Str u1,Str p1]) hs0 r0 r0 trivial r0 (fun b1 w1 hs1=>?_))
 refine bx (v:=.agg #[Str u2,Str p2]) (cs:=[Str u2,Str p2]) hs1 r0 r0 trivial r0 (fun b2 w2 hs2=>?_)
 refine tA (.bool false) r0 (nn (sq (sr (qt r0 (fa 0 fo51_0 r0) (qt r0 (lD (Str u1) hs2 0 r0 one9) ?_)))))
 refine qt r0 (fa 0 fo51_0 r0) (qt r0 (lD (Str u2) hs2 1 r0 one9) (qt r0 (nes (l:=u1) (m:=u2) r0 r0) (nn ?_)))
 refine cdd (p:=u1≠u2) r0 (fun h1=>?_) (fun h1=>?_)
 ·refine sr (tA (.bool false) r0 (nn (rt (tR ?_))))
  refine fT (.bool false) r0 ?_
  have e1:false=(decide (u1=u2∧p1=p2)):=by simp[h1] <;> simp_all
  exact⟨(congrArg (Value.bool) e1),(hs2.pk [] r0)⟩
 ·refine sk (nN (sq (sr (qt r0 (fa 1 fo51_1 r0) (qt r0 (lD (Str p1) hs2 0 r0 one9) (qt r0 (fa 1 fo51_1 r0) ?_))))))
  refine qt r0 (lD (Str p2) hs2 1 r0 one9) (qt r0 (nes (l:=p1) (m:=p2) r0 r0) (nn ?_))
  refine cdd (p:=p1≠p2) r0 (fun h2=>?_) (fun h2=>?_)
  ·refine sr (tA (.bool false) r0 (nn (rt (tR ?_))))
   refine fT (.bool false) r0 ?_
   have e2:false=(decide (u1=u2∧p1=p2)):=by simp[h1,h2] <;> simp_all
   exact⟨(congrArg (Value.bool) e2),(hs2.pk [] r0)⟩
  ·refine sk (nN (sr (tA (.bool true) r0 (nn (rt ?_)))))
   refine fT (.bool true) r0 ?_
   have e3:true=(decide (u1=u2∧p1=p2)):=by simp[h1,h2] <;> simp_all
   exact⟨(congrArg (Value.bool) e3),(hs2.pk [] r0)⟩
theorem eqAddress (ka:Int) {Aqa:Option Addr} {cqa:Nat} (qa:List Int) (na:List UInt8) (pa:Int) (kb:Int) {Aqb:Option Addr} {cqb:Nat} (qb:List Int) (nb:List UInt8) (pb:Int) (w:World) (hqa:Sl w [] 1 Aqa qa.length cqa (qa.map I)) (hqb:Sl w [] 1 Aqb qb.length cqb (qb.map I)):Does Tryz.prog 88 [.agg #[I ka,.slice Aqa qa.length cqa,Str na,I pa],.agg #[I kb,.slice Aqb qb.length cqb,Str nb,I pb]] w (fun v w'=>v=.bool (decide (ka=kb∧qa=qb∧na=nb∧pa=pb))∧SH w w' [] []):=by
 refine fE (N:=26) Tryz.func88 r0 (by kernel_rfl) r0 ?_
 have hs0:=SH.refl w []
 have hqa_m:qa.length≤9223372036854775807:=Nat.le_trans hqa.cap hqa.capMax
 have hqb_m:qb.length≤9223372036854775807:=Nat.le_trans hqb.cap hqb.capMax
 refine sr (bx (v:=.agg #[I ka,(Z7 Aqa qa cqa),Str na,I pa]) (cs:=[I ka,(Z7 Aqa qa cqa),Str na,I pa]) hs0 r0 r0 trivial r0 (fun b1 w1 hs1=>?_))
 refine bx (v:=.agg #[I kb,(Z7 Aqb qb cqb),Str nb,I pb]) (cs:=[I kb,(Z7 Aqb qb cqb),Str nb,I pb]) hs1 r0 r0 trivial r0 (fun b2 w2 hs2=>?_)
 refine tA (.bool false) r0 (nn (sq (sr (qt r0 (fa 0 fo43_0 r0) (qt r0 (lD (I ka) hs2 0 r0 one3) ?_)))))
 refine qt r0 (fa 0 fo43_0 r0) (qt r0 (lD (I kb) hs2 1 r0 one3) (qt r0 (nei (k:=.i64) (a:=ka) (b:=kb) r0 r0) (nn ?_)))
 refine cdd (p:=ka≠kb) r0 (fun h1=>?_) (fun h1=>?_)
 ·refine sr (tA (.bool false) r0 (nn (rt (tR ?_))))
  refine fT (.bool false) r0 ?_
  have e1:false=(decide (ka=kb∧qa=qb∧na=nb∧pa=pb)):=by simp[h1] <;> simp_all
  exact⟨(congrArg (Value.bool) e1),(hs2.pk [] r0)⟩
 ·refine sk (nN (sq (sr (qt r0 (fa 1 fo43_1 r0) (qt r0 (lD (Z11 Aqa qa cqa) hs2 0 r0 one22) (qt r0 (fa 1 fo43_1 r0) ?_))))))
  refine qt r0 (lD (Z11 Aqb qb cqb) hs2 1 r0 one22) (cL r0 (eqIntS (Axs:=Aqa) (cxs:=cqa) (xs:=qa) (Abs:=Aqb) (cbs:=cqb) (bs:=qb) (w:=_) (hxs:=(hqa.up0 hs2)) (hbs:=(hqb.up0 hs2))) ?_)
  rintro _ w3 ⟨rfl,hs3⟩
  replace hs3:=hs2.call0 hs3
  refine qt r0 (nd (p:=qa=qb) r0) (nn ?_)
  refine cdd (p:=¬ (qa=qb)) r0 (fun h2=>?_) (fun h2=>?_)
  ·refine sr (tA (.bool false) r0 (nn (rt (tR ?_))))
   refine fT (.bool false) r0 ?_
   have e2:false=(decide (ka=kb∧qa=qb∧na=nb∧pa=pb)):=by simp[h1,h2] <;> simp_all
   exact⟨(congrArg (Value.bool) e2),(hs3.pk [] r0)⟩
  ·refine sk (nN (sq (sr (qt r0 (fa 2 fo43_2 r0) (qt r0 (lD (Str na) hs3 0 r0 one9) (qt r0 (fa 2 fo43_2 r0) ?_))))))
   refine qt r0 (lD (Str nb) hs3 1 r0 one9) (qt r0 (nes (l:=na) (m:=nb) r0 r0) (nn ?_))
   refine cdd (p:=na≠nb) r0 (fun h3=>?_) (fun h3=>?_)
   ·refine sr (tA (.bool false) r0 (nn (rt (tR ?_))))
    refine fT (.bool false) r0 ?_
    have e3:false=(decide (ka=kb∧qa=qb∧na=nb∧pa=pb)):=by simp[h1,h2,h3] <;> simp_all
    exact⟨(congrArg (Value.bool) e3),(hs3.pk [] r0)⟩
   ·refine sk (nN (sq (sr (qt r0 (fa 3 fo43_3 r0) (qt r0 (lD (I pa) hs3 0 r0 one3) (qt r0 (fa 3 fo43_3 r0) ?_))))))
    refine qt r0 (lD (I pb) hs3 1 r0 one3) (qt r0 (nei (k:=.i64) (a:=pa) (b:=pb) r0 r0) (nn ?_))
    refine cdd (p:=pa≠pb) r0 (fun h4=>?_) (fun h4=>?_)
    ·refine sr (tA (.bool false) r0 (nn (rt (tR ?_))))
     refine fT (.bool false) r0 ?_
     have e4:false=(decide (ka=kb∧qa=qb∧na=nb∧pa=pb)):=by simp[h1,h2,h3,h4] <;> simp_all
     exact⟨(congrArg (Value.bool) e4),(hs3.pk [] r0)⟩
    ·refine sk (nN (sr (tA (.bool true) r0 (nn (rt ?_)))))
     refine fT (.bool true) r0 ?_
     have e5:true=(decide (ka=kb∧qa=qb∧na=nb∧pa=pb)):=by simp[h1,h2,h3,h4] <;> simp_all
     exact⟨(congrArg (Value.bool) e5),(hs3.pk [] r0)⟩
theorem eqClient {Ama:Option Addr} {cma:Nat} (ma:List Int) (ua:List UInt8) (wa:List UInt8) (ka:Int) {Aqa:Option Addr} {cqa:Nat} (qa:List Int) (na:List UInt8) (pa:Int) {Amb:Option Addr} {cmb:Nat} (mb:List Int) (ub:List UInt8) (wb:List UInt8) (kb:Int) {Aqb:Option Addr} {cqb:Nat} (qb:List Int) (nb:List UInt8) (pb:Int) (w:World) (hma:Sl w [] 1 Ama ma.length cma (ma.map I)) (hqa:Sl w [] 1 Aqa qa.length cqa (qa.map I)) (hmb:Sl w [] 1 Amb mb.length cmb (mb.map I)) (hqb:Sl w [] 1 Aqb qb.length cqb (qb.map I)):Does Tryz.prog 36 [.agg #[.slice Ama ma.length cma,Str ua,Str wa,I ka,.slice Aqa qa.length cqa,Str na,I pa],.agg #[.slice Amb mb.length cmb,Str ub,Str wb,I kb,.slice Aqb qb.length cqb,Str nb,I pb]] w (fun v w'=>v=.bool (decide (ma=mb∧(ua=ub∧wa=wb)∧(ka=kb∧qa=qb∧na=nb∧pa=pb)))∧SH w w' [] []):=by
 refine fE (N:=23) Tryz.func36 r0 (by kernel_rfl) r0 ?_
 have hs0:=SH.refl w []
 have hma_m:ma.length≤9223372036854775807:=Nat.le_trans hma.cap hma.capMax
 have hqa_m:qa.length≤9223372036854775807:=Nat.le_trans hqa.cap hqa.capMax
 have hmb_m:mb.length≤9223372036854775807:=Nat.le_trans hmb.cap hmb.capMax
 have hqb_m:qb.length≤9223372036854775807:=Nat.le_trans hqb.cap hqb.capMax
 refine sr (bx (v:=.agg #[(Z7 Ama ma cma),Str ua,Str wa,I ka,(Z7 Aqa qa cqa),Str na,I pa]) (cs:=(Z1 Ama ma cma ua wa ka Aqa qa cqa na pa)) hs0 r0 r0 trivial r0 (fun b1 w1 hs1=>?_))
 refine bx (v:=.agg #[(Z7 Amb mb cmb),Str ub,Str wb,I kb,(Z7 Aqb qb cqb),Str nb,I pb]) (cs:=(Z1 Amb mb cmb ub wb kb Aqb qb cqb nb pb)) hs1 r0 r0 trivial r0 (fun b2 w2 hs2=>?_)
 refine tA (.bool false) r0 (nn (sq (sr (qt r0 (fa 0 fo53_0 r0) (qt r0 (lD (Z11 Ama ma cma) hs2 0 r0 one22) ?_)))))
 refine qt r0 (fa 0 fo53_0 r0) (qt r0 (lD (Z11 Amb mb cmb) hs2 1 r0 one22) (cL r0 (eqIntS (Axs:=Ama) (cxs:=cma) (xs:=ma) (Abs:=Amb) (cbs:=cmb) (bs:=mb) (w:=_) (hxs:=(hma.up0 hs2)) (hbs:=(hmb.up0 hs2))) ?_))
 rintro _ w3 ⟨rfl,hs3⟩
 replace hs3:=hs2.call0 hs3
 refine qt r0 (nd (p:=ma=mb) r0) (nn ?_)
 refine cdd (p:=¬ (ma=mb)) r0 (fun h1=>?_) (fun h1=>?_)
 ·refine sr (tA (.bool false) r0 (nn (rt (tR ?_))))
  refine fT (.bool false) r0 ?_
  have e1:false=(decide (ma=mb∧(ua=ub∧wa=wb)∧(ka=kb∧qa=qb∧na=nb∧pa=pb))):=by simp[h1] <;> simp_all
  exact⟨(congrArg (Value.bool) e1),(hs3.pk [] r0)⟩
 ·refine sk (nN (sq (sr (qt r0 (fa 1 fo53_1 r0) (qt r0 (lG [Str ua,Str wa] hs3 0 r0 ag51) (qt r0 (fa 1 fo53_1 r0) ?_))))))
  refine qt r0 (lG [Str ub,Str wb] hs3 1 r0 ag51) (cL r0 (eqLogin (u1:=ua) (p1:=wa) (u2:=ub) (p2:=wb) (w:=_)) ?_)
  rintro _ w4 ⟨rfl,hs4⟩
  replace hs4:=hs3.call0 hs4
  refine qt r0 (nd (p:=ua=ub∧wa=wb) r0) (nn ?_)
  refine cdd (p:=¬ (ua=ub∧wa=wb)) r0 (fun h2=>?_) (fun h2=>?_)
  ·refine sr (tA (.bool false) r0 (nn (rt (tR ?_))))
   refine fT (.bool false) r0 ?_
   have e2:false=(decide (ma=mb∧(ua=ub∧wa=wb)∧(ka=kb∧qa=qb∧na=nb∧pa=pb))):=by simp[h1,h2] <;> simp_all
   exact⟨(congrArg (Value.bool) e2),(hs4.pk [] r0)⟩
  ·refine sk (nN (sq (sr (qt r0 (fa 3 fo53_2 r0) (qt r0 (lG [I ka,(Z7 Aqa qa cqa),Str na,I pa] hs4 0 r0 ag43) (qt r0 (fa 3 fo53_2 r0) ?_))))))
   refine qt r0 (lG [I kb,(Z7 Aqb qb cqb),Str nb,I pb] hs4 1 r0 ag43) (cL r0 (eqAddress (ka:=ka) (Aqa:=Aqa) (cqa:=cqa) (qa:=qa) (na:=na) (pa:=pa) (kb:=kb) (Aqb:=Aqb) (cqb:=cqb) (qb:=qb) (nb:=nb) (pb:=pb) (w:=_) (hqa:=(hqa.up0 hs4)) (hqb:=(hqb.up0 hs4))) ?_)
   rintro _ w5 ⟨rfl,hs5⟩
   replace hs5:=hs4.call0 hs5
   refine qt r0 (nd (p:=ka=kb∧qa=qb∧na=nb∧pa=pb) r0) (nn ?_)
   refine cdd (p:=¬ (ka=kb∧qa=qb∧na=nb∧pa=pb)) r0 (fun h3=>?_) (fun h3=>?_)
   ·refine sr (tA (.bool false) r0 (nn (rt (tR ?_))))
    refine fT (.bool false) r0 ?_
    have e3:false=(decide (ma=mb∧(ua=ub∧wa=wb)∧(ka=kb∧qa=qb∧na=nb∧pa=pb))):=by simp[h1,h2,h3] <;> simp_all
    exact⟨(congrArg (Value.bool) e3),(hs5.pk [] r0)⟩
   ·refine sk (nN (sr (tA (.bool true) r0 (nn (rt ?_)))))
    refine fT (.bool true) r0 ?_
    have e4:true=(decide (ma=mb∧(ua=ub∧wa=wb)∧(ka=kb∧qa=qb∧na=nb∧pa=pb))):=by simp[h1,h2,h3] <;> simp_all
    exact⟨(congrArg (Value.bool) e4),(hs5.pk [] r0)⟩
theorem iTextBytes (s:List UInt8) (w:World) (hs_n:s.length≤2147483648):Does Tryz.prog 131 [Str s] w (fun v w'=>∃ Ar:Option Addr,∃ cr:Nat,v=.slice Ar (textI s).length cr∧SH w w' [] [.own Ar ((textI s).length) cr 3 1 ((textI s).map I)]):=by
 refine fE (N:=22) Tryz.func131 r0 (by kernel_rfl) r0 ?_
 have hs0:=SH.refl w []
 refine sr (tA ns r0 (nx (tm (Str s) r0 ?_)))
 refine qt r0 (lnS (l:=s) st9 r0) (mkm (g:=I) (z:=0) (n:=s.length) hs0 sl22 r0 r0 r0 (by omega) (by unfold maxLen; omega) trivial r0 (fun b1 w1 hs1=>?_))
 refine tA (sb b1 ((List.replicate s.length (0:Int)).length) s.length) r0 (nn (sq (sr (tm (sb b1 ((List.replicate s.length (0:Int)).length) s.length) r0 (qt r0 (lnA (n:=(List.replicate s.length (0:Int)).length) sl22 r0) ?_)))))
 refine tm (I 0) r0 (nn (bl ?_))
 have e1:List.replicate s.length (0:Int)=(textI s).take 0++List.replicate (s.length-0) (0:Int):=by simp
 have e2:(List.replicate s.length (0:Int)).length=s.length:=by(simp; done)
 refine lp (σ:=(Option Addr)×Nat×Nat) (fun⟨Ag3,cg3,k⟩ f w'=>Hz f [(0,Str s),(3,.slice Ag3 s.length cg3),(9,I (((List.replicate s.length (0:Int)).length:Nat):Int)),(10,I (k:Int))]∧(k≤s.length)∧SH w w' [] [.own Ag3 s.length cg3 3 1 (((textI s).take k++List.replicate (s.length-k) (0:Int)).map I)]) (fun⟨Ag3,cg3,k⟩=>s.length-k) ((Z5 b1),s.length,0) ⟨(zH ⟨rfl,(show (.slice (Z5 b1) ((List.replicate s.length (0:Int)).length) s.length:Value)=.slice (Z5 b1) s.length s.length from slv r0 e2 r0),rfl,rfl,trivial⟩),(by simp),(hs1.cast (lc (own_eq (g:=I) r0 e2 r0 e1) r0))⟩ ?_
 rintro ⟨Ag3,cg3,k⟩ f w2 ⟨⟨g1,rfl⟩,hk,hs2⟩
 refine sr (qt r0 (lss (k:=.i64) (a:=(k:Int)) (b:=(((List.replicate s.length (0:Int)).length:Nat):Int)) r0 r0) (nn (sq ?_)))
 refine cdd (p:=(k:Int)<(((List.replicate s.length (0:Int)).length:Nat):Int)) r0 (fun h1=>?_) (fun h1=>?_)
 ·refine sk (nN (sq (bl (sr (tm (I (k:Int)) r0 (tA (I (k:Int)) r0 ?_))))))
  refine nn (rg (tm (.slice Ag3 s.length cg3) r0 (tm (I (k:Int)) r0 (tm (Str s) r0 (tm (I (k:Int)) r0 (qt r0 (ixs (l:=s) k st9 r0 r0 (by omega)) ?_))))))
  refine qt r0 (cvI (a:=(((s.getD k 0).toNat:Nat):Int)) (s:=.u8) ti5 ti3 r0 (by have:=u8_bd ((s.getD k 0)); exact⟨by omega,by omega⟩)) ?_
  obtain ⟨b2,rfl⟩:=own_form hs2 0 r0 (by omega)
  refine qt r0 (ixo k sl22 r0 r0 (by omega)) (stomn (g:=I) (ys:=(textI s).take k++List.replicate (s.length-k) (0:Int)) (o:=k) (u:=(((s.getD k 0).toNat:Nat):Int)) hs2 0 r0 r0 r0 r0 (by omega) r0 one3 trivial (fun w3 hs3=>?_))
  refine nl (bN (nN (rg (qt r0 (add (a:=(k:Int)) (b:=1) r0 r0 (by exact⟨by omega,by omega⟩)) (tm (I ((k:Int)+1)) r0 (nn ?_))))))
  have e3:((textI s).take k++List.replicate (s.length-k) (0:Int)).set k (((s.getD k 0).toNat:Nat):Int)=(textI s).take (k+1)++List.replicate (s.length-(k+1)) (0:Int):=by exact textI_set (by omega)
  refine⟨((Z5 b2),cg3,k+1),⟨(zR r0),(by omega),(hs3.cast (lc (own_eq (g:=I) r0 r0 r0 e3) r0))⟩,?_⟩
  show s.length-(k+1)<s.length-k
  omega
 ·refine ex (tE (tE (bE ?_)))
  refine nN (sr (tm (.slice Ag3 s.length cg3) r0 (tA (.slice Ag3 s.length cg3) r0 (nn (rt ?_)))))
  refine fT (.slice Ag3 s.length cg3) r0 ?_
  have e4:(textI s).take k++List.replicate (s.length-k) (0:Int)=textI s:=by have:k=s.length:=(by omega); subst this; rw[textI_all (Nat.le_refl _)]; simp
  have e5:s.length=(textI s).length:=by exact(show s.length=((textI s).take k++List.replicate (s.length-k) (0:Int)).length by(simp[textI_len]; omega)).trans (congrArg List.length e4)
  exact⟨Ag3,cg3,(slv r0 e5 r0),(hs2.cast (lc (own_eq (g:=I) r0 e5 r0 e4) r0))⟩
theorem sL1Text (s:List UInt8) (w:World) (hs_n:s.length≤2147483648):Does Tryz.prog 151 [Str s] w (fun v w'=>∃ Ar:Option Addr,∃ cr:Nat,v=.slice Ar (textI s).length cr∧SH w w' [] [.own Ar ((textI s).length) cr 3 1 ((textI s).map I)]):=by
 refine fE (N:=20) Tryz.func151 r0 (by kernel_rfl) r0 ?_
 have hs0:=SH.refl w []
 refine sr (tA ns r0 (nx (bsk hs0 sl22 [] [] trivial r0 (fun b1 w1 hs1=>?_))))
 refine tA (sb b1 (([]:List Int).length) 0) r0 (nn (sq (sr (tA (I 0) r0 (nl ?_)))))
 refine nN (bl ?_)
 have e1:([]:List Int)=(textI s).take 0:=by simp
 have e2:([]:List Int).length=((textI s).take 0).length:=by rw[e1]
 refine lp (σ:=(Option Addr)×Nat×Nat) (fun⟨Ag3,cg3,k⟩ f w'=>Hz f [(0,Str s),(3,.slice Ag3 (((textI s).take k).length) cg3),(4,I (k:Int))]∧(k≤s.length)∧SH w w' [] [.own Ag3 (((textI s).take k).length) cg3 3 1 (((textI s).take k).map I)]) (fun⟨Ag3,cg3,k⟩=>s.length-k) ((Z5 b1),0,0) ⟨(zH ⟨rfl,(show (.slice (Z5 b1) (([]:List Int).length) 0:Value)=.slice (Z5 b1) (((textI s).take 0).length) 0 from slv r0 e2 r0),rfl,trivial⟩),(by simp),(hs1.cast (lc (own_eq (g:=I) r0 e2 r0 e1) r0))⟩ ?_
 rintro ⟨Ag3,cg3,k⟩ f w2 ⟨⟨g1,rfl⟩,hk,hs2⟩
 refine sq (sr (tm (I (k:Int)) r0 (tm (Str s) r0 (qt r0 (lnS (l:=s) st9 r0) (qt r0 (lss (k:=.i64) (a:=(k:Int)) (b:=(s.length:Int)) r0 r0) (nl ?_))))))
 refine nN ?_
 refine cdd (p:=(k:Int)<(s.length:Int)) r0 (fun h1=>?_) (fun h1=>?_)
 ·refine sk (nN (sq (bl (rg (tm (.slice Ag3 (((textI s).take k).length) cg3) r0 (tm (Str s) r0 (tm (I (k:Int)) r0 ?_)))))))
  refine qt r0 (ixs (l:=s) k st9 r0 r0 (by(first | omega | (simp; done) | (simp; omega)))) (qt r0 (cvI (a:=(((s.getD k 0).toNat:Nat):Int)) (s:=.u8) ti5 ti3 r0 (by have:=u8_bd ((s.getD k 0)); exact⟨by omega,by omega⟩)) (bsk hs2 sl22 [I (((s.getD k 0).toNat:Nat):Int)] [I (((s.getD k 0).toNat:Nat):Int)] trivial r0 (fun b2 w3 hs3=>?_)))
  refine apm (g:=I) (ys:=(textI s).take k) (zs:=([(((s.getD k 0).toNat:Nat):Int)]:List Int)) hs3 0 r0 sl22 r0 r0 r0 (hs3.sl0 1 r0) (fun _=>rfl) (by unfold maxLen; have htl:=textI_len s; simp only[List.length_take,List.length_cons,List.length_nil]; omega) (by have htl:=textI_len s; simp only[List.length_take,List.length_cons,List.length_nil]; omega) trivial r0 (fun A1 c1 w4 hs4=>?_)
  refine tA (.slice A1 ((((textI s).take k)++([(((s.getD k 0).toNat:Nat):Int)]:List Int)).length) c1) r0 (nl (bN (nN (rg (tm (I (k:Int)) r0 (qt r0 (add (a:=(k:Int)) (b:=1) r0 r0 (by(exact⟨by omega,by omega⟩))) (tA (I ((k:Int)+1)) r0 ?_)))))))
  refine nn ?_
  have e3:((textI s).take k)++([(((s.getD k 0).toNat:Nat):Int)]:List Int)=(textI s).take (k+1):=by exact textI_app (by omega)
  have e4:(((textI s).take k)++([(((s.getD k 0).toNat:Nat):Int)]:List Int)).length=((textI s).take (k+1)).length:=by rw[e3]
  refine⟨(A1,c1,k+1),⟨(zH ⟨rfl,(show (.slice A1 ((((textI s).take k)++([(((s.getD k 0).toNat:Nat):Int)]:List Int)).length) c1:Value)=.slice A1 (((textI s).take (k+1)).length) c1 from slv r0 e4 r0),rfl,trivial⟩),(by omega),((hs4.pq [1] r0).cast (lc (own_eq (g:=I) r0 e4 r0 e3) r0))⟩,?_⟩
  show s.length-(k+1)<s.length-k
  omega
 ·refine ex (tE (tE (bE ?_)))
  refine nN (sr (tm (.slice Ag3 (((textI s).take k).length) cg3) r0 (tA (.slice Ag3 (((textI s).take k).length) cg3) r0 (nn (rt ?_)))))
  refine fT (.slice Ag3 (((textI s).take k).length) cg3) r0 ?_
  have e5:(textI s).take k=textI s:=by exact textI_all (by omega)
  have e6:=congrArg List.length e5
  exact⟨Ag3,cg3,(slv r0 e6 r0),(hs2.cast (lc (own_eq (g:=I) r0 e6 r0 e5) r0))⟩
theorem iNumberBytes (n:Int) (w:World) (hn:0≤n∧n≤65535):Does Tryz.prog 166 [I n,I 2] w (fun v w'=>∃ Ar:Option Addr,∃ cr:Nat,v=.slice Ar (numB n).length cr∧SH w w' [] [.own Ar ((numB n).length) cr 3 1 ((numB n).map I)]):=by
 refine fE (N:=27) Tryz.func166 r0 (by kernel_rfl) r0 ?_
 have hs0:=SH.refl w []
 refine sr (tA ns r0 (nx (tm (I 2) r0 ?_)))
 refine mkm (g:=I) (z:=0) (n:=2) hs0 sl22 r0 r0 r0 (by omega) (by unfold maxLen; omega) trivial r0 (fun b1 w1 hs1=>?_)
 refine tA (sb b1 ((List.replicate 2 (0:Int)).length) 2) r0 (nn (sq (sr (tm (sb b1 ((List.replicate 2 (0:Int)).length) 2) r0 (qt r0 (lnA (n:=(List.replicate 2 (0:Int)).length) sl22 r0) ?_)))))
 refine tm (I 0) r0 (nn (bl ?_))
 have e1:List.replicate 2 (0:Int)=(numB n).take 0++List.replicate (2-0) (0:Int):=by simp
 have e2:(List.replicate 2 (0:Int)).length=2:=by rfl
 refine lp (σ:=(Option Addr)×Nat×Nat) (fun⟨Ag5,cg5,k⟩ f w'=>Hz f [(0,I n),(1,I 2),(5,.slice Ag5 2 cg5),(10,I (((List.replicate 2 (0:Int)).length:Nat):Int)),(11,I (k:Int))]∧(k≤2)∧SH w w' [] [.own Ag5 2 cg5 3 1 (((numB n).take k++List.replicate (2-k) (0:Int)).map I)]) (fun⟨Ag5,cg5,k⟩=>2-k) ((Z5 b1),2,0) ⟨(zH ⟨rfl,rfl,(show (.slice (Z5 b1) ((List.replicate 2 (0:Int)).length) 2:Value)=.slice (Z5 b1) 2 2 from slv r0 e2 r0),rfl,rfl,trivial⟩),(by simp),(hs1.cast (lc (own_eq (g:=I) r0 e2 r0 e1) r0))⟩ ?_
 rintro ⟨Ag5,cg5,k⟩ f w2 ⟨⟨g1,rfl⟩,hk,hs2⟩
 refine sr (qt r0 (lss (k:=.i64) (a:=(k:Int)) (b:=(((List.replicate 2 (0:Int)).length:Nat):Int)) r0 r0) (nn (sq ?_)))
 refine cdd (p:=(k:Int)<(((List.replicate 2 (0:Int)).length:Nat):Int)) r0 (fun h1=>?_) (fun h1=>?_)
 ·refine sk (nN (sq (bl (sr (tm (I (k:Int)) r0 (tA (I (k:Int)) r0 ?_))))))
  refine nn (rg (tm (.slice Ag5 2 cg5) r0 (tm (I (k:Int)) r0 (tm (I n) r0 (tm (I 2) r0 (qt r0 (sub (a:=2) (b:=1) r0 r0 (by exact⟨by omega,by omega⟩)) ?_))))))
  refine tm (I (k:Int)) r0 (qt r0 (sub (a:=(2:Int)-1) (b:=(k:Int)) r0 r0 (by exact⟨by omega,by omega⟩)) (qt r0 (mul (a:=8) (b:=((2:Int)-1)-(k:Int)) r0 r0 (by exact⟨by omega,by omega⟩)) (qt r0 (shr (a:=n) (b:=8*(((2:Int)-1)-(k:Int))) r0 r0 (by omega) (by omega)) (qt r0 (and255 (a:=n / 2 ^ (8*(((2:Int)-1)-(k:Int))).toNat) r0 r0 (by exact num_and hn) (by exact num_and2 hn)) ?_))))
  obtain ⟨b2,rfl⟩:=own_form hs2 0 r0 (by omega)
  refine qt r0 (ixo k sl22 r0 r0 (by omega)) (stomn (g:=I) (ys:=(numB n).take k++List.replicate (2-k) (0:Int)) (o:=k) (u:=(n / 2 ^ (8*(((2:Int)-1)-(k:Int))).toNat) % 256) hs2 0 r0 r0 r0 r0 (by omega) r0 one3 trivial (fun w3 hs3=>?_))
  refine nl (bN (nN (rg (qt r0 (add (a:=(k:Int)) (b:=1) r0 r0 (by exact⟨by omega,by omega⟩)) (tm (I ((k:Int)+1)) r0 (nn ?_))))))
  have e3:((numB n).take k++List.replicate (2-k) (0:Int)).set k ((n / 2 ^ (8*(((2:Int)-1)-(k:Int))).toNat) % 256)=(numB n).take (k+1)++List.replicate (2-(k+1)) (0:Int):=by exact numB_set (by omega)
  refine⟨((Z5 b2),cg5,k+1),⟨(zR r0),(by omega),(hs3.cast (lc (own_eq (g:=I) r0 r0 r0 e3) r0))⟩,?_⟩
  show 2-(k+1)<2-k
  omega
 ·refine ex (tE (tE (bE ?_)))
  refine nN (sr (tm (.slice Ag5 2 cg5) r0 (tA (.slice Ag5 2 cg5) r0 (nn (rt ?_)))))
  refine fT (.slice Ag5 2 cg5) r0 ?_
  have e4:(numB n).take k++List.replicate (2-k) (0:Int)=numB n:=by have:k=2:=(by omega); subst this; simp[numB]
  have e5:2=(numB n).length:=by exact(show 2=((numB n).take k++List.replicate (2-k) (0:Int)).length by(simp[numB]; omega)).trans (congrArg List.length e4)
  exact⟨Ag5,cg5,(slv r0 e5 r0),(hs2.cast (lc (own_eq (g:=I) r0 e5 r0 e4) r0))⟩
theorem sL1Number (n:Int) (w:World) (hn:0≤n∧n≤65535):Does Tryz.prog 188 [I n,I 2] w (fun v w'=>∃ Ar:Option Addr,∃ cr:Nat,v=.slice Ar (numB n).length cr∧SH w w' [] [.own Ar ((numB n).length) cr 3 1 ((numB n).map I)]):=by
 refine fE (N:=23) Tryz.func188 r0 (by kernel_rfl) r0 ?_
 have hs0:=SH.refl w []
 refine sr (tA ns r0 (nx (tm (I 2) r0 ?_)))
 refine mkm (g:=I) (z:=0) (n:=2) hs0 sl22 r0 r0 r0 (by omega) (by unfold maxLen; omega) trivial r0 (fun b1 w1 hs1=>?_)
 refine tA (sb b1 ((List.replicate 2 (0:Int)).length) 2) r0 (nn (sq (sr (tm (I 2) r0 (qt r0 (sub (a:=2) (b:=1) r0 r0 (by exact⟨by omega,by omega⟩)) ?_)))))
 refine tA (I ((2:Int)-1)) r0 (nn (bl ?_))
 have e1:List.replicate 2 (0:Int)=numR n 0:=by simp[numR]
 have e2:(List.replicate 2 (0:Int)).length=2:=by rfl
 refine lp (σ:=(Option Addr)×Nat×Nat×Int) (fun⟨Ag5,cg5,k,m⟩ f w'=>Hz f [(0,I m),(5,.slice Ag5 2 cg5),(6,I (1-(k:Int)))]∧(k≤2)∧(m=numM n k)∧(0≤m∧m≤65535)∧SH w w' [] [.own Ag5 2 cg5 3 1 ((numR n k).map I)]) (fun⟨Ag5,cg5,k,m⟩=>2-k) ((Z5 b1),2,0,n) ⟨(zH ⟨rfl,(show (.slice (Z5 b1) ((List.replicate 2 (0:Int)).length) 2:Value)=.slice (Z5 b1) 2 2 from slv r0 e2 r0),(show (I ((2:Int)-1):Value)=I (1-((0:Nat):Int)) from congrArg (Value.int .i64) (by simp)),trivial⟩),(by simp),(by simp[numM]),(hn),(hs1.cast (lc (own_eq (g:=I) r0 e2 r0 e1) r0))⟩ ?_
 rintro ⟨Ag5,cg5,k,m⟩ f w2 ⟨⟨g1,rfl⟩,hk,hm,hm2,hs2⟩
 refine sq (sr (tm (I (1-(k:Int))) r0 (qt r0 (geq (k:=.i64) (a:=1-(k:Int)) (b:=0) r0 r0) (nn ?_))))
 refine cdd (p:=(0:Int)≤(1-(k:Int))) r0 (fun h1=>?_) (fun h1=>?_)
 ·refine sk (nN (sq (bl (sr (tm (.slice Ag5 2 cg5) r0 (tm (I (1-(k:Int))) r0 ?_))))))
  refine tm (I m) r0 (qt r0 (rem (a:=m) (b:=256) r0 r0 (by omega) (by omega)) ?_)
  obtain ⟨b2,rfl⟩:=own_form hs2 0 r0 (by omega)
  refine qt r0 (ixo ((1-(k:Int)).toNat) sl22 r0 (ieq (x:=1-(k:Int)) (by omega)) (by omega)) (stomn (g:=I) (ys:=numR n k) (o:=(1-(k:Int)).toNat) (u:=m % 256) hs2 0 r0 r0 r0 r0 (by omega) r0 one3 trivial (fun w3 hs3=>?_))
  refine nn (rg (tm (I m) r0 (qt r0 (quo (a:=m) (b:=256) r0 r0 (by omega) (by omega) (by omega)) (tA (I (m / 256)) r0 (nl (bN ?_))))))
  refine nN (rg (tm (I (1-(k:Int))) r0 (qt r0 (sub (a:=1-(k:Int)) (b:=1) r0 r0 (by exact⟨by omega,by omega⟩)) (tA (I ((1-(k:Int))-1)) r0 (nn ?_)))))
  have e3:(numR n k).set ((1-(k:Int)).toNat) (m % 256)=numR n (k+1):=by rw[hm]; exact numR_step (by omega) (by omega)
  refine⟨((Z5 b2),cg5,k+1,m / 256),⟨(zH ⟨rfl,rfl,(show (I ((1-(k:Int))-1):Value)=I (1-(((k+1):Nat):Int)) from congrArg (Value.int .i64) (by omega)),trivial⟩),(by omega),(by rw[hm]; exact numM_step (by omega)),(by omega),(hs3.cast (lc (own_eq (g:=I) r0 r0 r0 e3) r0))⟩,?_⟩
  show 2-(k+1)<2-k
  omega
 ·refine ex (tE (tE (bE ?_)))
  refine nN (sr (tm (.slice Ag5 2 cg5) r0 (tA (.slice Ag5 2 cg5) r0 (nn (rt ?_)))))
  refine fT (.slice Ag5 2 cg5) r0 ?_
  have e4:numR n k=numB n:=by have:k=2:=(by omega); subst this; rfl
  have e5:2=(numB n).length:=by exact(show 2=(numR n k).length by(have:k=2:=(by omega); subst this; rfl)).trans (congrArg List.length e4)
  exact⟨Ag5,cg5,(slv r0 e5 r0),(hs2.cast (lc (own_eq (g:=I) r0 e5 r0 e4) r0))⟩
set_option maxHeartbeats 8000000 in
theorem iAddressBytes (ak:Int) {Aaq:Option Addr} {caq:Nat} (aq:List Int) (an:List UInt8) (apt:Int) (w:World) (haq:Sl w [] 1 Aaq aq.length caq (aq.map I)) (han_n:an.length≤1099511627776) (hok:addrOk ak aq an apt=true):Does Tryz.prog 132 [.agg #[I ak,.slice Aaq aq.length caq,Str an,I apt]] w (fun v w'=>∃ Ar:Option Addr,∃ cr:Nat,v=.slice Ar (addrB ak aq an apt).length cr∧SH w w' [] [.own Ar ((addrB ak aq an apt).length) cr 3 1 ((addrB ak aq an apt).map I)]):=by
 refine fE (N:=29) Tryz.func132 r0 (by kernel_rfl) r0 ?_
 have hs0:=SH.refl w []
 have haq_m:aq.length≤9223372036854775807:=Nat.le_trans haq.cap haq.capMax
 refine sr (bx (v:=.agg #[I ak,(Z7 Aaq aq caq),Str an,I apt]) (cs:=[I ak,(Z7 Aaq aq caq),Str an,I apt]) hs0 r0 r0 trivial r0 (fun b1 w1 hs1=>?_))
 refine tA ns r0 (nx (qt r0 (fa 0 fo43_0 r0) (qt r0 (lD (I ak) hs1 0 r0 one3) (bsk hs1 sl22 [I ak] [I ak] trivial r0 (fun b2 w2 hs2=>?_)))))
 refine tA (sb b2 (([ak]:List Int).length) 1) r0 (nn (sq (sr (qt r0 (fa 0 fo43_0 r0) (qt r0 (lD (I ak) hs2 0 r0 one3) ?_)))))
 refine qt r0 (eqi (k:=.i64) (a:=ak) (b:=1) r0 r0) (nn ?_)
 refine cdd (p:=ak=1) r0 (fun h1=>?_) (fun h1=>?_)
 ·refine rg (tm (sb b2 (([ak]:List Int).length) 1) r0 (qt r0 (fa 1 fo43_1 r0) (qt r0 (lD (Z11 Aaq aq caq) hs2 0 r0 one22) (apm (g:=I) (ys:=([ak]:List Int)) (zs:=aq) hs2 1 r0 sl22 r0 r0 r0 (haq.up0 hs2) (fun _=>rfl) (by unfold maxLen; have haf:=addrOk_fit hok; have htl:=textI_len an; have hnb:(numB apt).length=2:=rfl; simp only[List.length_append,List.length_cons,List.length_nil]; omega) (by have haf:=addrOk_fit hok; have htl:=textI_len an; have hnb:(numB apt).length=2:=rfl; simp only[List.length_append,List.length_cons,List.length_nil]; omega) trivial r0 (fun A1 c1 w3 hs3=>?_)))))
  refine tA (.slice A1 ((([ak]:List Int)++aq).length) c1) r0 (nx (tm (.slice A1 ((([ak]:List Int)++aq).length) c1) r0 (qt r0 (fa 3 fo43_3 r0) (qt r0 (lD (I apt) hs3 0 r0 one3) ?_))))
  refine cL r0 (iNumberBytes (n:=apt) (w:=_) (hn:=(by(have haf:=addrOk_fit hok; have htl:=textI_len an; have hnb:(numB apt).length=2:=rfl; first | omega | assumption | (simp; done) | (simp; omega))))) ?_
  rintro _ w4 ⟨A2,c2,rfl,hs4⟩
  replace hs4:=hs3.call0 hs4
  refine apm (g:=I) (ys:=([ak]:List Int)++aq) (zs:=numB apt) hs4 1 r0 sl22 r0 r0 r0 (hs4.sl0 2 r0) (fun _=>rfl) (by unfold maxLen; have haf:=addrOk_fit hok; have htl:=textI_len an; have hnb:(numB apt).length=2:=rfl; simp only[List.length_append,List.length_cons,List.length_nil]; omega) (by have haf:=addrOk_fit hok; have htl:=textI_len an; have hnb:(numB apt).length=2:=rfl; simp only[List.length_append,List.length_cons,List.length_nil]; omega) trivial r0 (fun A3 c3 w5 hs5=>?_)
  refine tA (.slice A3 (((([ak]:List Int)++aq)++(numB apt)).length) c3) r0 (nn (rt (fT (.slice A3 (((([ak]:List Int)++aq)++(numB apt)).length) c3) r0 ?_)))
  have e1:(([ak]:List Int)++aq)++(numB apt)=addrB ak aq an apt:=by simp[addrB,h1]
  have e2:=congrArg List.length e1
  exact⟨A3,c3,(slv r0 e2 r0),((hs5.pq [2] r0).cast (lc (own_eq (g:=I) r0 e2 r0 e1) r0))⟩
 ·refine raJ (fun w'=>∃ L,SH w w' [] L∧(.blk b1 43 [I ak,(Z7 Aaq aq caq),Str an,I apt])∈L∧True) (fun f w'=>∃ (b4':Nat) (A8':Option Addr) (c8':Nat) (A9':Option Addr) (c9':Nat),Hz f [(1,pB b1),(3,.slice A9' (((([ak]:List Int)++(Z9 an))++(textI an)).length) c9')]∧SH w w' [] [.blk b1 43 [I ak,(Z7 Aaq aq caq),Str an,I apt],.own A9' (((([ak]:List Int)++(Z9 an))++(textI an)).length) c9' 3 1 (((([ak]:List Int)++(Z9 an))++(textI an)).map I),oI b4' (Z9 an) 1 3,.own A8' ((textI an).length) c8' 3 1 ((textI an).map I)]) mixed ?_ ?_
  ·refine dG 2 11 511 (fun f w'=>∃ (b4':Nat) (A5':Option Addr) (c5':Nat) (A8':Option Addr) (c8':Nat),Hz f [(1,pB b1),(3,sb b2 (([ak]:List Int).length) 1),(19,.slice A5' ((([ak]:List Int)++(Z9 an)).length) c5'),(22,.slice A8' ((textI an).length) c8')]∧SH w w' [] [.blk b1 43 [I ak,(Z7 Aaq aq caq),Str an,I apt],.own A5' ((([ak]:List Int)++(Z9 an)).length) c5' 3 1 ((([ak]:List Int)++(Z9 an)).map I),oI b4' (Z9 an) 1 3,.own A8' ((textI an).length) c8' 3 1 ((textI an).map I)]) ?_ (fun D_4_0=>?_)
   ·rintro f w6 ⟨b4',A5',c5',A8',c8',⟨g1,rfl⟩,hs6⟩
    refine aO 9 r0 (apm (g:=I) (ys:=([ak]:List Int)++(Z9 an)) (zs:=textI an) hs6 1 r0 sl22 r0 r0 r0 (hs6.sl0 3 r0) (fun _=>rfl) (by unfold maxLen; have haf:=addrOk_fit hok; have htl:=textI_len an; have hnb:(numB apt).length=2:=rfl; simp only[List.length_append,List.length_cons,List.length_nil]; omega) (by have haf:=addrOk_fit hok; have htl:=textI_len an; have hnb:(numB apt).length=2:=rfl; simp only[List.length_append,List.length_cons,List.length_nil]; omega) trivial r0 (fun A9' c9' w7 hs7=>?_))
    refine nk (m1 hs7 0 r0) ?_
    refine tk (fuel:=0) (is:=[10]) (.cons r0 (.nil)) (by kernel_rfl) (by kernel_rfl) (m1 hs7 0 r0) (yA r0 (asg (v:=.slice A9' (((([ak]:List Int)++(Z9 an))++(textI an)).length) c9') r0) (.nil (ad (by kernel_rfl) ?_)))
    exact⟨b4',A8',c8',A9',c9',(zR r0),(hs7.pk [0,3,1,2] r0)⟩
   refine dG 3 11 255 (fun f w'=>∃ (b4':Nat) (A5':Option Addr) (c5':Nat),Hz f [(1,pB b1),(3,sb b2 (([ak]:List Int).length) 1),(19,.slice A5' ((([ak]:List Int)++(Z9 an)).length) c5'),(21,Str an)]∧SH w w' [] [.blk b1 43 [I ak,(Z7 Aaq aq caq),Str an,I apt],.own A5' ((([ak]:List Int)++(Z9 an)).length) c5' 3 1 ((([ak]:List Int)++(Z9 an)).map I),oI b4' (Z9 an) 1 3]) ?_ (fun D_4_1=>?_)
   ·rintro f w8 ⟨b4',A5',c5',⟨g2,rfl⟩,hs8⟩
    refine aO 8 r0 (cL r0 (iTextBytes (s:=an) (w:=_) (hs_n:=(by(have haf:=addrOk_fit hok; have htl:=textI_len an; have hnb:(numB apt).length=2:=rfl; first | omega | (simp; done) | (simp; omega))))) ?_)
    rintro _ w9 ⟨A8',c8',rfl,hs9⟩
    replace hs9:=hs8.call0 hs9
    exact nk (m1 hs9 0 r0) (alc D_4_0 ⟨b4',A5',c5',A8',c8',(zR r0),hs9⟩)
   refine dG 4 11 223 (fun f w'=>∃ (b4':Nat),Hz f [(1,pB b1),(3,sb b2 (([ak]:List Int).length) 1),(14,sb b2 (([ak]:List Int).length) 1),(18,sb b4' ((Z9 an).length) 1),(21,Str an)]∧SH w w' [] [.blk b1 43 [I ak,(Z7 Aaq aq caq),Str an,I apt],oI b2 ([ak]:List Int) 1 3,oI b4' (Z9 an) 1 3]) ?_ (fun D_4_2=>?_)
   ·rintro f w10 ⟨b4',⟨g3,rfl⟩,hs10⟩
    refine aO 5 r0 (apm (g:=I) (ys:=([ak]:List Int)) (zs:=(Z9 an)) hs10 1 r0 sl22 r0 r0 r0 (hs10.sl0 2 r0) (fun _=>rfl) (by unfold maxLen; have haf:=addrOk_fit hok; have htl:=textI_len an; have hnb:(numB apt).length=2:=rfl; simp only[List.length_append,List.length_cons,List.length_nil]; omega) (by have haf:=addrOk_fit hok; have htl:=textI_len an; have hnb:(numB apt).length=2:=rfl; simp only[List.length_append,List.length_cons,List.length_nil]; omega) trivial r0 (fun A5' c5' w11 hs11=>?_))
    exact nk (m1 hs11 0 r0) (alc D_4_1 ⟨b4',A5',c5',(zR r0),(hs11.pk [0,2,1] r0)⟩)
   refine dG 5 11 207 (fun f w'=>Hz f [(1,pB b1),(3,sb b2 (([ak]:List Int).length) 1),(14,sb b2 (([ak]:List Int).length) 1),(17,I (an.length:Int)),(21,Str an)]∧SH w w' [] [.blk b1 43 [I ak,(Z7 Aaq aq caq),Str an,I apt],oI b2 ([ak]:List Int) 1 3]) ?_ (fun D_4_3=>?_)
   ·rintro f w12 ⟨⟨g4,rfl⟩,hs12⟩
    refine aO 4 r0 (bsk hs12 sl22 [I (an.length:Int)] [I (an.length:Int)] trivial r0 (fun b4' w13 hs13=>?_))
    exact nk (m1 hs13 0 r0) (alc D_4_2 ⟨b4',(zR r0),hs13⟩)
   have hs14:=hs2.drew
   refine tk (fuel:=5) (is:=[0,1,2,3,6,7]) (.cons r0 (.cons r0 (.cons r0 (.cons r0 (.cons r0 (.cons r0 (.nil))))))) (by kernel_rfl) (by kernel_rfl) (m1 hs14 0 r0) (yA r0 (mv (v:=sb b2 (([ak]:List Int).length) 1) r0) (yA r0 (fa 2 fo43_2 r0) (yB r0 (fun ⟨Lq,hsq,mh0,_⟩=>lM (Str an) hsq mh0 r0 one9) (yA r0 (lnS (l:=an) st9 r0) (yA r0 (fa 2 fo43_2 r0) (yB r0 (fun ⟨Lq,hsq,mh0,_⟩=>lM (Str an) hsq mh0 r0 one9) (.nil ?_)))))))
   exact alc D_4_3 ⟨(zR r0),hs14⟩
  rintro f w14 ⟨b4',A8',c8',A9',c9',⟨g5,rfl⟩,hs15⟩
  refine nN ?_
  have hs16:=hs15.pq [0,1] r0
  refine sr (tm (.slice A9' (((([ak]:List Int)++(Z9 an))++(textI an)).length) c9') r0 (qt r0 (fa 3 fo43_3 r0) (qt r0 (lD (I apt) hs16 0 r0 one3) (cL r0 (iNumberBytes (n:=apt) (w:=_) (hn:=(by(have haf:=addrOk_fit hok; have htl:=textI_len an; have hnb:(numB apt).length=2:=rfl; first | omega | assumption | (simp; done) | (simp; omega))))) ?_))))
  rintro _ w15 ⟨A4,c4,rfl,hs17⟩
  replace hs17:=hs16.call0 hs17
  refine apm (g:=I) (ys:=(([ak]:List Int)++(Z9 an))++(textI an)) (zs:=numB apt) hs17 1 r0 sl22 r0 r0 r0 (hs17.sl0 2 r0) (fun _=>rfl) (by unfold maxLen; have haf:=addrOk_fit hok; have htl:=textI_len an; have hnb:(numB apt).length=2:=rfl; simp only[List.length_append,List.length_cons,List.length_nil]; omega) (by have haf:=addrOk_fit hok; have htl:=textI_len an; have hnb:(numB apt).length=2:=rfl; simp only[List.length_append,List.length_cons,List.length_nil]; omega) trivial r0 (fun A5 c5 w16 hs18=>?_)
  refine tA (.slice A5 ((((([ak]:List Int)++(Z9 an))++(textI an))++(numB apt)).length) c5) r0 (nn (rt (fT (.slice A5 ((((([ak]:List Int)++(Z9 an))++(textI an))++(numB apt)).length) c5) r0 ?_)))
  have e3:((([ak]:List Int)++(Z9 an))++(textI an))++(numB apt)=addrB ak aq an apt:=by simp[addrB,h1]
  have e4:=congrArg List.length e3
  exact⟨A5,c5,(slv r0 e4 r0),((hs18.pq [2] r0).cast (lc (own_eq (g:=I) r0 e4 r0 e3) r0))⟩
set_option maxHeartbeats 8000000 in
theorem sL3Bytes (ak:Int) {Aaq:Option Addr} {caq:Nat} (aq:List Int) (an:List UInt8) (apt:Int) (w:World) (haq:Sl w [] 1 Aaq aq.length caq (aq.map I)) (han_n:an.length≤1099511627776) (hok:addrOk ak aq an apt=true):Does Tryz.prog 171 [.agg #[I ak,.slice Aaq aq.length caq,Str an,I apt]] w (fun v w'=>∃ Ar:Option Addr,∃ cr:Nat,v=.slice Ar (addrB ak aq an apt).length cr∧SH w w' [] [.own Ar ((addrB ak aq an apt).length) cr 3 1 ((addrB ak aq an apt).map I)]):=by
 refine fE (N:=30) Tryz.func171 r0 (by kernel_rfl) r0 ?_
 have hs0:=SH.refl w []
 have haq_m:aq.length≤9223372036854775807:=Nat.le_trans haq.cap haq.capMax
 refine sr (bx (v:=.agg #[I ak,(Z7 Aaq aq caq),Str an,I apt]) (cs:=[I ak,(Z7 Aaq aq caq),Str an,I apt]) hs0 r0 r0 trivial r0 (fun b1 w1 hs1=>?_))
 refine tA ns r0 (nx (qt r0 (fa 0 fo43_0 r0) (qt r0 (lD (I ak) hs1 0 r0 one3) (bsk hs1 sl22 [I ak] [I ak] trivial r0 (fun b2 w2 hs2=>?_)))))
 refine tA (sb b2 (([ak]:List Int).length) 1) r0 (nn (sq (sr (qt r0 (fa 0 fo43_0 r0) (qt r0 (lD (I ak) hs2 0 r0 one3) ?_)))))
 refine qt r0 (eqi (k:=.i64) (a:=ak) (b:=1) r0 r0) (nn ?_)
 refine cdd (p:=ak=1) r0 (fun h1=>?_) (fun h1=>?_)
 ·refine rg (tm (sb b2 (([ak]:List Int).length) 1) r0 (qt r0 (fa 1 fo43_1 r0) (qt r0 (lD (Z11 Aaq aq caq) hs2 0 r0 one22) (apm (g:=I) (ys:=([ak]:List Int)) (zs:=aq) hs2 1 r0 sl22 r0 r0 r0 (haq.up0 hs2) (fun _=>rfl) (by unfold maxLen; have haf:=addrOk_fit hok; have htl:=textI_len an; have hnb:(numB apt).length=2:=rfl; simp only[List.length_append,List.length_cons,List.length_nil]; omega) (by have haf:=addrOk_fit hok; have htl:=textI_len an; have hnb:(numB apt).length=2:=rfl; simp only[List.length_append,List.length_cons,List.length_nil]; omega) trivial r0 (fun A1 c1 w3 hs3=>?_)))))
  refine tA (.slice A1 ((([ak]:List Int)++aq).length) c1) r0 (nx (tm (.slice A1 ((([ak]:List Int)++aq).length) c1) r0 (qt r0 (fa 3 fo43_3 r0) (qt r0 (lD (I apt) hs3 0 r0 one3) ?_))))
  refine cL r0 (sL1Number (n:=apt) (w:=_) (hn:=(by(have haf:=addrOk_fit hok; have htl:=textI_len an; have hnb:(numB apt).length=2:=rfl; first | omega | assumption | (simp; done) | (simp; omega))))) ?_
  rintro _ w4 ⟨A2,c2,rfl,hs4⟩
  replace hs4:=hs3.call0 hs4
  refine apm (g:=I) (ys:=([ak]:List Int)++aq) (zs:=numB apt) hs4 1 r0 sl22 r0 r0 r0 (hs4.sl0 2 r0) (fun _=>rfl) (by unfold maxLen; have haf:=addrOk_fit hok; have htl:=textI_len an; have hnb:(numB apt).length=2:=rfl; simp only[List.length_append,List.length_cons,List.length_nil]; omega) (by have haf:=addrOk_fit hok; have htl:=textI_len an; have hnb:(numB apt).length=2:=rfl; simp only[List.length_append,List.length_cons,List.length_nil]; omega) trivial r0 (fun A3 c3 w5 hs5=>?_)
  refine tA (.slice A3 (((([ak]:List Int)++aq)++(numB apt)).length) c3) r0 (nn (rt (fT (.slice A3 (((([ak]:List Int)++aq)++(numB apt)).length) c3) r0 ?_)))
  have e1:(([ak]:List Int)++aq)++(numB apt)=addrB ak aq an apt:=by simp[addrB,h1]
  have e2:=congrArg List.length e1
  exact⟨A3,c3,(slv r0 e2 r0),((hs5.pq [2] r0).cast (lc (own_eq (g:=I) r0 e2 r0 e1) r0))⟩
 ·refine sr (tm (sb b2 (([ak]:List Int).length) 1) r0 (qt r0 (fa 2 fo43_2 r0) (qt r0 (lD (Str an) hs2 0 r0 one9) (qt r0 (lnS (l:=an) st9 r0) (bsk hs2 sl22 [I (an.length:Int)] [I (an.length:Int)] trivial r0 (fun b3 w6 hs6=>?_))))))
  refine apm (g:=I) (ys:=([ak]:List Int)) (zs:=(Z9 an)) hs6 1 r0 sl22 r0 r0 r0 (hs6.sl0 2 r0) (fun _=>rfl) (by unfold maxLen; have haf:=addrOk_fit hok; have htl:=textI_len an; have hnb:(numB apt).length=2:=rfl; simp only[List.length_append,List.length_cons,List.length_nil]; omega) (by have haf:=addrOk_fit hok; have htl:=textI_len an; have hnb:(numB apt).length=2:=rfl; simp only[List.length_append,List.length_cons,List.length_nil]; omega) trivial r0 (fun A4 c4 w7 hs7=>?_)
  refine tA (.slice A4 ((([ak]:List Int)++(Z9 an)).length) c4) r0 (nn (rg (tm (.slice A4 ((([ak]:List Int)++(Z9 an)).length) c4) r0 (qt r0 (fa 2 fo43_2 r0) (qt r0 (lD (Str an) hs7 0 r0 one9) (cL r0 (sL1Text (s:=an) (w:=_) (hs_n:=(by(have haf:=addrOk_fit hok; have htl:=textI_len an; have hnb:(numB apt).length=2:=rfl; first | omega | (simp; done) | (simp; omega))))) ?_))))))
  rintro _ w8 ⟨A5,c5,rfl,hs8⟩
  replace hs8:=hs7.call0 hs8
  refine apm (g:=I) (ys:=([ak]:List Int)++(Z9 an)) (zs:=textI an) hs8 2 r0 sl22 r0 r0 r0 (hs8.sl0 3 r0) (fun _=>rfl) (by unfold maxLen; have haf:=addrOk_fit hok; have htl:=textI_len an; have hnb:(numB apt).length=2:=rfl; simp only[List.length_append,List.length_cons,List.length_nil]; omega) (by have haf:=addrOk_fit hok; have htl:=textI_len an; have hnb:(numB apt).length=2:=rfl; simp only[List.length_append,List.length_cons,List.length_nil]; omega) trivial r0 (fun A6 c6 w9 hs9=>?_)
  refine tA (.slice A6 (((([ak]:List Int)++(Z9 an))++(textI an)).length) c6) r0 (nn ?_)
  have hs10:=hs9.pq [0,3] r0
  refine sr (tm (.slice A6 (((([ak]:List Int)++(Z9 an))++(textI an)).length) c6) r0 (qt r0 (fa 3 fo43_3 r0) (qt r0 (lD (I apt) hs10 0 r0 one3) (cL r0 (sL1Number (n:=apt) (w:=_) (hn:=(by(have haf:=addrOk_fit hok; have htl:=textI_len an; have hnb:(numB apt).length=2:=rfl; first | omega | assumption | (simp; done) | (simp; omega))))) ?_))))
  rintro _ w10 ⟨A7,c7,rfl,hs11⟩
  replace hs11:=hs10.call0 hs11
  refine apm (g:=I) (ys:=(([ak]:List Int)++(Z9 an))++(textI an)) (zs:=numB apt) hs11 1 r0 sl22 r0 r0 r0 (hs11.sl0 2 r0) (fun _=>rfl) (by unfold maxLen; have haf:=addrOk_fit hok; have htl:=textI_len an; have hnb:(numB apt).length=2:=rfl; simp only[List.length_append,List.length_cons,List.length_nil]; omega) (by have haf:=addrOk_fit hok; have htl:=textI_len an; have hnb:(numB apt).length=2:=rfl; simp only[List.length_append,List.length_cons,List.length_nil]; omega) trivial r0 (fun A8 c8 w11 hs12=>?_)
  refine tA (.slice A8 ((((([ak]:List Int)++(Z9 an))++(textI an))++(numB apt)).length) c8) r0 (nn (rt (fT (.slice A8 ((((([ak]:List Int)++(Z9 an))++(textI an))++(numB apt)).length) c8) r0 ?_)))
  have e3:((([ak]:List Int)++(Z9 an))++(textI an))++(numB apt)=addrB ak aq an apt:=by simp[addrB,h1]
  have e4:=congrArg List.length e3
  exact⟨A8,c8,(slv r0 e4 r0),((hs12.pq [2] r0).cast (lc (own_eq (g:=I) r0 e4 r0 e3) r0))⟩
set_option maxHeartbeats 8000000 in
theorem sL12Bytes (n:Int) (ak:Int) {Aaq:Option Addr} {caq:Nat} (aq:List Int) (an:List UInt8) (apt:Int) (w:World) (haq:Sl w [] 1 Aaq aq.length caq (aq.map I)) (han_n:an.length≤1099511627776) (hok:addrOk ak aq an apt=true):Does Tryz.prog 146 [I n,.agg #[I ak,.slice Aaq aq.length caq,Str an,I apt]] w (fun v w'=>∃ Ar:Option Addr,∃ cr:Nat,v=.slice Ar ([5,n,0]++addrB ak aq an apt).length cr∧SH w w' [] [.own Ar (([5,n,0]++addrB ak aq an apt).length) cr 3 1 (([5,n,0]++addrB ak aq an apt).map I)]):=by
 refine fE (N:=10) Tryz.func146 r0 (by kernel_rfl) r0 ?_
 have hs0:=SH.refl w []
 have haq_m:aq.length≤9223372036854775807:=Nat.le_trans haq.cap haq.capMax
 refine sr (bx (v:=.agg #[I ak,(Z7 Aaq aq caq),Str an,I apt]) (cs:=[I ak,(Z7 Aaq aq caq),Str an,I apt]) hs0 r0 r0 trivial r0 (fun b1 w1 hs1=>?_))
 refine tA ns r0 (nx (tm (I n) r0 (bsk hs1 sl22 [I 5,I n,I 0] [I 5,I n,I 0] trivial r0 (fun b2 w2 hs2=>?_))))
 refine qt r0 (lG [I ak,(Z7 Aaq aq caq),Str an,I apt] hs2 0 r0 ag43) (cL r0 (sL3Bytes (ak:=ak) (Aaq:=Aaq) (caq:=caq) (aq:=aq) (an:=an) (apt:=apt) (w:=_) (haq:=(haq.up0 hs2)) (han_n:=(by omega)) (hok:=(by omega))) ?_)
 rintro _ w3 ⟨A1,c1,rfl,hs3⟩
 replace hs3:=hs2.call0 hs3
 refine apm (g:=I) (ys:=([5,n,0]:List Int)) (zs:=addrB ak aq an apt) hs3 1 r0 sl22 r0 r0 r0 (hs3.sl0 2 r0) (fun _=>rfl) (by unfold maxLen; have hbl:=addrB_len hok; simp only[List.length_append,List.length_cons,List.length_nil]; omega) (by have hbl:=addrB_len hok; simp only[List.length_append,List.length_cons,List.length_nil]; omega) trivial r0 (fun A2 c2 w4 hs4=>?_)
 refine tA (.slice A2 ((([5,n,0]:List Int)++(addrB ak aq an apt)).length) c2) r0 (nn (rt (fT (.slice A2 ((([5,n,0]:List Int)++(addrB ak aq an apt)).length) c2) r0 ?_)))
 have e1:([5,n,0]:List Int)++(addrB ak aq an apt)=[5,n,0]++addrB ak aq an apt:=by rfl
 have e2:=congrArg List.length e1
 exact⟨A2,c2,(slv r0 e2 r0),((hs4.pq [2] r0).cast (lc (own_eq (g:=I) r0 e2 r0 e1) r0))⟩
theorem iIsRequest (n:Int) (ak:Int) {Aaq:Option Addr} {caq:Nat} (aq:List Int) (an:List UInt8) (apt:Int) (w:World) (haq:Sl w [] 1 Aaq aq.length caq (aq.map I)) (han_n:an.length≤1099511627776):Does Tryz.prog 61 [.agg #[I n,I ak,.slice Aaq aq.length caq,Str an,I apt]] w (fun v w'=>v=.bool (reqOk n ak aq an apt)∧SH w w' [] []):=by
 refine fE (N:=11) Tryz.func61 r0 (by kernel_rfl) r0 ?_
 have hs0:=SH.refl w []
 have haq_m:aq.length≤9223372036854775807:=Nat.le_trans haq.cap haq.capMax
 refine sr (bx (v:=.agg #[I n,I ak,(Z7 Aaq aq caq),Str an,I apt]) (cs:=[I n,I ak,(Z7 Aaq aq caq),Str an,I apt]) hs0 r0 r0 trivial r0 (fun b1 w1 hs1=>?_))
 refine tA (.bool false) r0 (nx (qt r0 (fa 0 fo45_0 r0) (qt r0 (lD (I n) hs1 0 r0 one3) (cL r0 (iWithin (x:=n) (lo:=1) (hi:=3) (w:=_)) ?_))))
 rintro _ w2 ⟨rfl,hs2⟩
 replace hs2:=hs1.call0 hs2
 refine tm (.bool (decide (1≤n∧n≤3))) r0 ?_
 refine spd (p:=1≤n∧n≤3) 6 r0 (fun h1=>?_) (fun h1=>?_)
 ·refine q ⟨_,rfl,rfl⟩ r0 r0 (fa 1 fo45_1 r0) (q ⟨_,rfl,rfl⟩ r0 r0 (lG [I ak,(Z7 Aaq aq caq),Str an,I apt] hs2 0 r0 ag43) (cl ⟨_,rfl,rfl⟩ r0 (iAddressValid (ak:=ak) (Aaq:=Aaq) (caq:=caq) (aq:=aq) (an:=an) (apt:=apt) (w:=_) (haq:=(haq.up0 hs2)) (han_n:=(by omega))) ?_))
  rintro _ w3 ⟨rfl,hs3⟩
  replace hs3:=hs2.call0 hs3
  refine qt r0 (pt (v:=.bool (addrOk ak aq an apt)) r0 r0) (tA (.bool (addrOk ak aq an apt)) r0 (nn (rt (fT (.bool (addrOk ak aq an apt)) r0 ?_))))
  have e1:(addrOk ak aq an apt)=reqOk n ak aq an apt:=by simp[reqOk,h1]
  exact⟨(congrArg (Value.bool) e1),(hs3.pk [] r0)⟩
 ·refine gf5 r0 (gf5 r0 (gf5 r0 (qt r0 (pf (v:=.bool false) r0 r0) (tA (.bool false) r0 (nn (rt ?_))))))
  refine fT (.bool false) r0 ?_
  have e2:false=reqOk n ak aq an apt:=by simp[reqOk,h1]
  exact⟨(congrArg (Value.bool) e2),(hs2.pk [] r0)⟩
set_option maxHeartbeats 8000000 in
theorem iRequestBytes (n:Int) (ak:Int) {Aaq:Option Addr} {caq:Nat} (aq:List Int) (an:List UInt8) (apt:Int) (w:World) (haq:Sl w [] 1 Aaq aq.length caq (aq.map I)) (han_n:an.length≤1099511627776):Does Tryz.prog 72 [.agg #[I n,I ak,.slice Aaq aq.length caq,Str an,I apt]] w (fun v w'=>∃ Ar:Option Addr,∃ cr:Nat,v=.tuple #[.slice Ar ((reqP n ak aq an apt).1).length cr,.bool ((reqP n ak aq an apt).2)]∧SH w w' [] [.own Ar (((reqP n ak aq an apt).1).length) cr 3 1 (((reqP n ak aq an apt).1).map I)]):=by
 refine fE (N:=14) Tryz.func72 r0 (by kernel_rfl) r0 ?_
 have hs0:=SH.refl w []
 have haq_m:aq.length≤9223372036854775807:=Nat.le_trans haq.cap haq.capMax
 refine sr (bx (v:=.agg #[I n,I ak,(Z7 Aaq aq caq),Str an,I apt]) (cs:=[I n,I ak,(Z7 Aaq aq caq),Str an,I apt]) hs0 r0 r0 trivial r0 (fun b1 w1 hs1=>?_))
 refine tA ns r0 (tA (.bool false) r0 (nn (sq (sr (qt r0 (lG [I n,I ak,(Z7 Aaq aq caq),Str an,I apt] hs1 0 r0 ag45) ?_)))))
 refine cL r0 (iIsRequest (n:=n) (ak:=ak) (Aaq:=Aaq) (caq:=caq) (aq:=aq) (an:=an) (apt:=apt) (w:=_) (haq:=(haq.up0 hs1)) (han_n:=(by omega))) ?_
 rintro _ w2 ⟨rfl,hs2⟩
 replace hs2:=hs1.call0 hs2
 refine qt r0 (nt (b:=reqOk n ak aq an apt) r0) (nn ?_)
 refine cd (b:=!(reqOk n ak aq an apt)) r0 (fun h1=>?_) (fun h1=>?_)
 ·have h2:(reqOk n ak aq an apt)=false:=by simpa using h1
  refine sr (tA ns r0 (tA (.bool false) r0 (nn (rt (tR ?_)))))
  refine fret (v:=.tuple #[ns,.bool false]) (.tmp (.tmp .nil)) r0 ?_
  have hs3:=hs2.nl [.own none (([]:List Int).length) 0 3 1 (([]:List Int).map I)] r0
  have e1:reqP n ak aq an apt=(([]:List Int),false):=by(simp[reqP,h2]; done)
  have e2:=pj1 e1
  have e3:=congrArg List.length e2
  have e4:=pj2 e1
  exact⟨none,0,(tup2 (slv r0 e3 r0) (congrArg (Value.bool) e4)),((hs3.pq [1] r0).cast (lc (own_eq (g:=I) r0 e3 r0 e2) r0))⟩
 ·have h3:(reqOk n ak aq an apt)=true:=by simpa using h1
  refine sk (nN (sq ?_))
  refine raJ (fun w'=>∃ L,SH w w' [] L∧(.blk b1 45 [I n,I ak,(Z7 Aaq aq caq),Str an,I apt])∈L∧True) (fun f w'=>∃ (A5':Option Addr) (c5':Nat) (A6':Option Addr) (c6':Nat),Hz f [(2,.slice A6' ((([5,n,0]:List Int)++(addrB ak aq an apt)).length) c6'),(3,.bool true)]∧SH w w' [] [.blk b1 45 [I n,I ak,(Z7 Aaq aq caq),Str an,I apt],.own A6' ((([5,n,0]:List Int)++(addrB ak aq an apt)).length) c6' 3 1 ((([5,n,0]:List Int)++(addrB ak aq an apt)).map I),.own A5' ((addrB ak aq an apt).length) c5' 3 1 ((addrB ak aq an apt).map I)]) mixed ?_ ?_
  ·refine dG 3 9 63 (fun f w'=>∃ (b2':Nat) (A5':Option Addr) (c5':Nat),Hz f [(2,ns),(3,.bool false),(9,sb b2' (([5,n,0]:List Int).length) 3),(12,.slice A5' ((addrB ak aq an apt).length) c5')]∧SH w w' [] [.blk b1 45 [I n,I ak,(Z7 Aaq aq caq),Str an,I apt],oI b2' ([5,n,0]:List Int) 3 3,.own A5' ((addrB ak aq an apt).length) c5' 3 1 ((addrB ak aq an apt).map I)]) ?_ (fun D_3_0=>?_)
   ·rintro f w3 ⟨b2',A5',c5',⟨g1,rfl⟩,hs4⟩
    refine aO 6 r0 (apm (g:=I) (ys:=([5,n,0]:List Int)) (zs:=addrB ak aq an apt) hs4 1 r0 sl22 r0 r0 r0 (hs4.sl0 2 r0) (fun _=>rfl) (by unfold maxLen; have hbl:=addrB_len (reqOk_addr (by assumption)); simp only[List.length_append,List.length_cons,List.length_nil]; omega) (by have hbl:=addrB_len (reqOk_addr (by assumption)); simp only[List.length_append,List.length_cons,List.length_nil]; omega) trivial r0 (fun A6' c6' w4 hs5=>?_))
    refine nk (m1 hs5 0 r0) ?_
    refine tk (fuel:=0) (is:=[7,8]) (.cons r0 (.cons r0 (.nil))) (by kernel_rfl) (by kernel_rfl) (m1 hs5 0 r0) (yA r0 (asg (v:=.slice A6' ((([5,n,0]:List Int)++(addrB ak aq an apt)).length) c6') r0) (yA r0 (asg (v:=.bool true) r0) (.nil (ad (by kernel_rfl) ?_))))
    exact⟨A5',c5',A6',c6',(zR r0),(hs5.pk [0,2,1] r0)⟩
   refine dG 4 9 31 (fun f w'=>∃ (b2':Nat),Hz f [(2,ns),(3,.bool false),(9,sb b2' (([5,n,0]:List Int).length) 3),(11,.agg #[I ak,(Z7 Aaq aq caq),Str an,I apt])]∧SH w w' [] [.blk b1 45 [I n,I ak,(Z7 Aaq aq caq),Str an,I apt],oI b2' ([5,n,0]:List Int) 3 3]) ?_ (fun D_3_1=>?_)
   ·rintro f w5 ⟨b2',⟨g2,rfl⟩,hs6⟩
    refine aO 5 r0 (cL r0 (iAddressBytes (ak:=ak) (Aaq:=Aaq) (caq:=caq) (aq:=aq) (an:=an) (apt:=apt) (w:=_) (haq:=(haq.up0 hs6)) (han_n:=(by omega)) (hok:=(by exact reqOk_addr (by assumption)))) ?_)
    rintro _ w6 ⟨A5',c5',rfl,hs7⟩
    replace hs7:=hs6.call0 hs7
    exact nk (m1 hs7 0 r0) (alc D_3_0 ⟨b2',A5',c5',(zR r0),hs7⟩)
   refine dG 4 9 59 (fun f w'=>∃ (A5':Option Addr) (c5':Nat),Hz f [(2,ns),(3,.bool false),(8,I n),(12,.slice A5' ((addrB ak aq an apt).length) c5')]∧SH w w' [] [.blk b1 45 [I n,I ak,(Z7 Aaq aq caq),Str an,I apt],.own A5' ((addrB ak aq an apt).length) c5' 3 1 ((addrB ak aq an apt).map I)]) ?_ (fun D_3_2=>?_)
   ·rintro f w7 ⟨A5',c5',⟨g3,rfl⟩,hs8⟩
    refine aO 2 r0 (bsk hs8 sl22 [I 5,I n,I 0] [I 5,I n,I 0] trivial r0 (fun b2' w8 hs9=>?_))
    exact nk (m1 hs9 0 r0) (alc D_3_0 ⟨b2',A5',c5',(zR r0),(hs9.pk [0,2,1] r0)⟩)
   refine dG 5 9 27 (fun f w'=>Hz f [(2,ns),(3,.bool false),(8,I n),(11,.agg #[I ak,(Z7 Aaq aq caq),Str an,I apt])]∧SH w w' [] [.blk b1 45 [I n,I ak,(Z7 Aaq aq caq),Str an,I apt]]) ?_ (fun D_3_3=>?_)
   ·rintro f w9 ⟨⟨g4,rfl⟩,hs10⟩
    refine aaL [2,5] (fa_cons ?_ (fa_one ?_))
    ·refine one_ r0 (bsk hs10 sl22 [I 5,I n,I 0] [I 5,I n,I 0] trivial r0 (fun b2' w10 hs11=>?_))
     exact nk (m1 hs11 0 r0) (alc D_3_1 ⟨b2',(zR r0),hs11⟩)
    ·refine one_ r0 (cL r0 (iAddressBytes (ak:=ak) (Aaq:=Aaq) (caq:=caq) (aq:=aq) (an:=an) (apt:=apt) (w:=_) (haq:=(haq.up0 hs10)) (han_n:=(by omega)) (hok:=(by exact reqOk_addr (by assumption)))) ?_)
     rintro _ w11 ⟨A5',c5',rfl,hs12⟩
     replace hs12:=hs10.call0 hs12
     exact nk (m1 hs12 0 r0) (alc D_3_2 ⟨A5',c5',(zR r0),hs12⟩)
   have hs13:=hs2.drew
   refine tk (fuel:=5) (is:=[0,1,3,4]) (.cons r0 (.cons r0 (.cons r0 (.cons r0 (.nil))))) (by kernel_rfl) (by kernel_rfl) (m1 hs13 0 r0) (yA r0 (fa 0 fo45_0 r0) (yB r0 (fun ⟨Lq,hsq,mh0,_⟩=>lM (I n) hsq mh0 r0 one3) (yA r0 (fa 1 fo45_1 r0) (yB r0 (fun ⟨Lq,hsq,mh0,_⟩=>ldgm (vs:=[I ak,(Z7 Aaq aq caq),Str an,I apt]) hsq mh0 r0 r0 r0 ag43) (.nil ?_)))))
   exact alc D_3_3 ⟨(zR r0),hs13⟩
  rintro f w12 ⟨A5',c5',A6',c6',⟨g5,rfl⟩,hs14⟩
  refine nN (rt (fret (v:=.tuple #[.slice A6' ((([5,n,0]:List Int)++(addrB ak aq an apt)).length) c6',.bool true]) (.tmp (.tmp .nil)) r0 ?_))
  have e5:reqP n ak aq an apt=(([5,n,0]:List Int)++(addrB ak aq an apt),true):=by(simp[reqP,h3]; done)
  have e6:=pj1 e5
  have e7:=congrArg List.length e6
  have e8:=pj2 e5
  exact⟨A6',c6',(tup2 (slv r0 e7 r0) (congrArg (Value.bool) e8)),((hs14.pq [1] r0).cast (lc (own_eq (g:=I) r0 e7 r0 e6) r0))⟩
set_option maxHeartbeats 8000000 in
theorem sRequestBytes (n:Int) (ak:Int) {Aaq:Option Addr} {caq:Nat} (aq:List Int) (an:List UInt8) (apt:Int) (w:World) (haq:Sl w [] 1 Aaq aq.length caq (aq.map I)) (han_n:an.length≤1099511627776):Does Tryz.prog 114 [.agg #[I n,I ak,.slice Aaq aq.length caq,Str an,I apt]] w (fun v w'=>∃ Ar:Option Addr,∃ cr:Nat,v=.tuple #[.slice Ar ((reqP n ak aq an apt).1).length cr,.bool ((reqP n ak aq an apt).2)]∧SH w w' [] [.own Ar (((reqP n ak aq an apt).1).length) cr 3 1 (((reqP n ak aq an apt).1).map I)]):=by
 refine fE (N:=20) Tryz.func114 r0 (by kernel_rfl) r0 ?_
 have hs0:=SH.refl w []
 have haq_m:aq.length≤9223372036854775807:=Nat.le_trans haq.cap haq.capMax
 refine sr (bx (v:=.agg #[I n,I ak,(Z7 Aaq aq caq),Str an,I apt]) (cs:=[I n,I ak,(Z7 Aaq aq caq),Str an,I apt]) hs0 r0 r0 trivial r0 (fun b1 w1 hs1=>?_))
 refine tA ns r0 (tA (.bool false) r0 (nn (sq (sr (qt r0 (fa 0 fo45_0 r0) ?_)))))
 refine qt r0 (lD (I n) hs1 0 r0 one3) (cL r0 (sIn (x:=n) (lo:=1) (hi:=3) (w:=_)) ?_)
 rintro _ w2 ⟨rfl,hs2⟩
 replace hs2:=hs1.call0 hs2
 refine qt r0 (nd (p:=1≤n∧n≤3) r0) (tm (.bool (decide (¬ (1≤n∧n≤3)))) r0 ?_)
 refine spd (p:=¬ (1≤n∧n≤3)) 8 r0 (fun h1=>?_) (fun h1=>?_)
 ·refine gt5 r0 (gt5 r0 (gt5 r0 (gt5 r0 (qt r0 (pt (v:=.bool true) r0 r0) (nn (cdt r0 ?_))))))
  refine sr (bsk hs2 sl22 [] [] trivial r0 (fun b2 w3 hs3=>?_))
  refine tA (sb b2 (([]:List Int).length) 0) r0 (tA (.bool false) r0 (nn (rt (tR ?_))))
  refine fret (v:=.tuple #[sb b2 (([]:List Int).length) 0,.bool false]) (.tmp (.tmp .nil)) r0 ?_
  have e1:reqP n ak aq an apt=(([]:List Int),false):=by(simp[reqP,reqOk,h1]; done)
  have e2:=pj1 e1
  have e3:=congrArg List.length e2
  have e4:=pj2 e1
  exact⟨(Z5 b2),0,(tup2 (slv r0 e3 r0) (congrArg (Value.bool) e4)),((hs3.pq [1] r0).cast (lc (own_eq (g:=I) r0 e3 r0 e2) r0))⟩
 ·refine q ⟨_,rfl,rfl⟩ r0 r0 (fa 1 fo45_1 r0) (q ⟨_,rfl,rfl⟩ r0 r0 (lG [I ak,(Z7 Aaq aq caq),Str an,I apt] hs2 0 r0 ag43) (cl ⟨_,rfl,rfl⟩ r0 (sAddressValid (ak:=ak) (Aaq:=Aaq) (caq:=caq) (aq:=aq) (an:=an) (apt:=apt) (w:=_) (haq:=(haq.up0 hs2)) (han_n:=(by omega))) ?_))
  rintro _ w4 ⟨rfl,hs4⟩
  replace hs4:=hs2.call0 hs4
  refine q ⟨_,rfl,rfl⟩ r0 r0 (nt (b:=addrOk ak aq an apt) r0) (qt r0 (pf (v:=.bool (!(addrOk ak aq an apt))) r0 r0) (nn ?_))
  refine cd (b:=!(addrOk ak aq an apt)) r0 (fun h2=>?_) (fun h2=>?_)
  ·have h3:(addrOk ak aq an apt)=false:=by simpa using h2
   refine sr (bsk hs4 sl22 [] [] trivial r0 (fun b3 w5 hs5=>?_))
   refine tA (sb b3 (([]:List Int).length) 0) r0 (tA (.bool false) r0 (nn (rt (tR ?_))))
   refine fret (v:=.tuple #[sb b3 (([]:List Int).length) 0,.bool false]) (.tmp (.tmp .nil)) r0 ?_
   have e5:reqP n ak aq an apt=(([]:List Int),false):=by(simp[reqP,reqOk,h1,h3]; done)
   have e6:=pj1 e5
   have e7:=congrArg List.length e6
   have e8:=pj2 e5
   exact⟨(Z5 b3),0,(tup2 (slv r0 e7 r0) (congrArg (Value.bool) e8)),((hs5.pq [1] r0).cast (lc (own_eq (g:=I) r0 e7 r0 e6) r0))⟩
  ·have h4:(addrOk ak aq an apt)=true:=by simpa using h2
   refine sk (nN (sr (qt r0 (fa 0 fo45_0 r0) (qt r0 (lD (I n) hs4 0 r0 one3) (qt r0 (fa 1 fo45_1 r0) (qt r0 (lG [I ak,(Z7 Aaq aq caq),Str an,I apt] hs4 0 r0 ag43) ?_))))))
   refine cL r0 (sL12Bytes (n:=n) (ak:=ak) (Aaq:=Aaq) (caq:=caq) (aq:=aq) (an:=an) (apt:=apt) (w:=_) (haq:=(haq.up0 hs4)) (han_n:=(by omega)) (hok:=(by assumption))) ?_
   rintro _ w6 ⟨A1,c1,rfl,hs6⟩
   replace hs6:=hs4.call0 hs6
   refine tA (.slice A1 (([5,n,0]++addrB ak aq an apt).length) c1) r0 (tA (.bool true) r0 (nn (rt (fret (v:=.tuple #[.slice A1 (([5,n,0]++addrB ak aq an apt).length) c1,.bool true]) (.tmp (.tmp .nil)) r0 ?_))))
   have e9:reqP n ak aq an apt=([5,n,0]++addrB ak aq an apt,true):=by(simp[reqP,reqOk,h1,h4]; done)
   have e10:=pj1 e9
   have e11:=congrArg List.length e10
   have e12:=pj2 e9
   exact⟨A1,c1,(tup2 (slv r0 e11 r0) (congrArg (Value.bool) e12)),((hs6.pq [1] r0).cast (lc (own_eq (g:=I) r0 e11 r0 e10) r0))⟩
theorem iHelloBytes {Ams:Option Addr} {cms:Nat} (ms:List Int) (w:World) (hms:Sl w [] 1 Ams ms.length cms (ms.map I)):Does Tryz.prog 70 [.slice Ams ms.length cms] w (fun v w'=>∃ Ar:Option Addr,∃ cr:Nat,v=.tuple #[.slice Ar ((helloP ms).1).length cr,.bool ((helloP ms).2)]∧SH w w' [] [.own Ar (((helloP ms).1).length) cr 3 1 (((helloP ms).1).map I)]):=by
 refine fE (N:=12) Tryz.func70 r0 (by kernel_rfl) r0 ?_
 have hs0:=SH.refl w []
 have hms_m:ms.length≤9223372036854775807:=Nat.le_trans hms.cap hms.capMax
 refine sr (tA ns r0 (tA (.bool false) r0 (nn (sq (sq ?_)))))
 refine rg (tm (Z11 Ams ms cms) r0 (cL r0 (iAreMethods (Ams:=Ams) (cms:=cms) (ms:=ms) (w:=_) (hms:=(hms.up0 hs0))) ?_))
 rintro _ w1 ⟨rfl,hs1⟩
 replace hs1:=hs0.call0 hs1
 refine qt r0 (nt (b:=methOk ms) r0) (nn ?_)
 refine cd (b:=!(methOk ms)) r0 (fun h1=>?_) (fun h1=>?_)
 ·have h2:(methOk ms)=false:=by simpa using h1
  refine sr (tA ns r0 (tA (.bool false) r0 (nn (rt (tR ?_)))))
  refine fret (v:=.tuple #[ns,.bool false]) (.tmp (.tmp .nil)) r0 ?_
  have hs2:=hs1.nl [.own none (([]:List Int).length) 0 3 1 (([]:List Int).map I)] r0
  have e1:helloP ms=(([]:List Int),false):=by simp[helloP,h2]
  have e2:=pj1 e1
  have e3:=congrArg List.length e2
  have e4:=pj2 e1
  exact⟨none,0,(tup2 (slv r0 e3 r0) (congrArg (Value.bool) e4)),(hs2.cast (lc (own_eq (g:=I) r0 e3 r0 e2) r0))⟩
 ·have h3:(methOk ms)=true:=by simpa using h1
  refine sk (nN (sr (tm (Z11 Ams ms cms) r0 (qt r0 (lnA (n:=ms.length) sl22 r0) (bsk hs1 sl22 [I 5,I (ms.length:Int)] [I 5,I (ms.length:Int)] trivial r0 (fun b1 w2 hs3=>?_))))))
  refine tm (Z11 Ams ms cms) r0 (apm (g:=I) (ys:=([5,(ms.length:Int)]:List Int)) (zs:=ms) hs3 0 r0 sl22 r0 r0 r0 (hms.up0 hs3) (fun _=>rfl) (by unfold maxLen; have hml:=methOk_len (by assumption); simp only[List.length_append,List.length_cons,List.length_nil]; omega) (by have hml:=methOk_len (by assumption); simp only[List.length_append,List.length_cons,List.length_nil]; omega) trivial r0 (fun A1 c1 w3 hs4=>?_))
  refine tA (.slice A1 ((([5,(ms.length:Int)]:List Int)++ms).length) c1) r0 (tA (.bool true) r0 (nn (rt (fret (v:=.tuple #[.slice A1 ((([5,(ms.length:Int)]:List Int)++ms).length) c1,.bool true]) (.tmp (.tmp .nil)) r0 ?_))))
  have e5:helloP ms=(([5,(ms.length:Int)]:List Int)++ms,true):=by simp[helloP,h3]
  have e6:=pj1 e5
  have e7:=congrArg List.length e6
  have e8:=pj2 e5
  exact⟨A1,c1,(tup2 (slv r0 e7 r0) (congrArg (Value.bool) e8)),(hs4.cast (lc (own_eq (g:=I) r0 e7 r0 e6) r0))⟩
theorem sHelloBytes {Ams:Option Addr} {cms:Nat} (ms:List Int) (w:World) (hms:Sl w [] 1 Ams ms.length cms (ms.map I)):Does Tryz.prog 112 [.slice Ams ms.length cms] w (fun v w'=>∃ Ar:Option Addr,∃ cr:Nat,v=.tuple #[.slice Ar ((helloP ms).1).length cr,.bool ((helloP ms).2)]∧SH w w' [] [.own Ar (((helloP ms).1).length) cr 3 1 (((helloP ms).1).map I)]):=by
 refine fE (N:=13) Tryz.func112 r0 (by kernel_rfl) r0 ?_
 have hs0:=SH.refl w []
 have hms_m:ms.length≤9223372036854775807:=Nat.le_trans hms.cap hms.capMax
 refine sr (tA ns r0 (tA (.bool false) r0 (nn (sq (sq ?_)))))
 refine rg (tm (Z11 Ams ms cms) r0 (cL r0 (sL5Ok (Ams:=Ams) (cms:=cms) (ms:=ms) (w:=_) (hms:=(hms.up0 hs0))) ?_))
 rintro _ w1 ⟨rfl,hs1⟩
 replace hs1:=hs0.call0 hs1
 refine qt r0 (nt (b:=methOk ms) r0) (nn ?_)
 refine cd (b:=!(methOk ms)) r0 (fun h1=>?_) (fun h1=>?_)
 ·have h2:(methOk ms)=false:=by simpa using h1
  refine sr (bsk hs1 sl22 [] [] trivial r0 (fun b1 w2 hs2=>?_))
  refine tA (sb b1 (([]:List Int).length) 0) r0 (tA (.bool false) r0 (nn (rt (tR ?_))))
  refine fret (v:=.tuple #[sb b1 (([]:List Int).length) 0,.bool false]) (.tmp (.tmp .nil)) r0 ?_
  have e1:helloP ms=(([]:List Int),false):=by simp[helloP,h2]
  have e2:=pj1 e1
  have e3:=congrArg List.length e2
  have e4:=pj2 e1
  exact⟨(Z5 b1),0,(tup2 (slv r0 e3 r0) (congrArg (Value.bool) e4)),(hs2.cast (lc (own_eq (g:=I) r0 e3 r0 e2) r0))⟩
 ·have h3:(methOk ms)=true:=by simpa using h1
  refine sk (nN (sr (tm (Z11 Ams ms cms) r0 (qt r0 (lnA (n:=ms.length) sl22 r0) (bsk hs1 sl22 [I 5,I (ms.length:Int)] [I 5,I (ms.length:Int)] trivial r0 (fun b2 w3 hs3=>?_))))))
  refine tm (Z11 Ams ms cms) r0 (apm (g:=I) (ys:=([5,(ms.length:Int)]:List Int)) (zs:=ms) hs3 0 r0 sl22 r0 r0 r0 (hms.up0 hs3) (fun _=>rfl) (by unfold maxLen; have hml:=methOk_len (by assumption); simp only[List.length_append,List.length_cons,List.length_nil]; omega) (by have hml:=methOk_len (by assumption); simp only[List.length_append,List.length_cons,List.length_nil]; omega) trivial r0 (fun A1 c1 w4 hs4=>?_))
  refine tA (.slice A1 ((([5,(ms.length:Int)]:List Int)++ms).length) c1) r0 (tA (.bool true) r0 (nn (rt (fret (v:=.tuple #[.slice A1 ((([5,(ms.length:Int)]:List Int)++ms).length) c1,.bool true]) (.tmp (.tmp .nil)) r0 ?_))))
  have e5:helloP ms=(([5,(ms.length:Int)]:List Int)++ms,true):=by simp[helloP,h3]
  have e6:=pj1 e5
  have e7:=congrArg List.length e6
  have e8:=pj2 e5
  exact⟨A1,c1,(tup2 (slv r0 e7 r0) (congrArg (Value.bool) e8)),(hs4.cast (lc (own_eq (g:=I) r0 e7 r0 e6) r0))⟩
set_option maxHeartbeats 8000000 in
theorem iLoginBytes (lu:List UInt8) (lw:List UInt8) (w:World) (hlu_n:lu.length≤2147483648) (hlw_n:lw.length≤2147483648):Does Tryz.prog 71 [.agg #[Str lu,Str lw]] w (fun v w'=>∃ Ar:Option Addr,∃ cr:Nat,v=.tuple #[.slice Ar ((loginP lu lw).1).length cr,.bool ((loginP lu lw).2)]∧SH w w' [] [.own Ar (((loginP lu lw).1).length) cr 3 1 (((loginP lu lw).1).map I)]):=by
 refine fE (N:=23) Tryz.func71 r0 (by kernel_rfl) r0 ?_
 have hs0:=SH.refl w []
 refine sr (bx (v:=.agg #[Str lu,Str lw]) (cs:=[Str lu,Str lw]) hs0 r0 r0 trivial r0 (fun b1 w1 hs1=>?_))
 refine tA ns r0 (tA (.bool false) r0 (nn (sq (sr (qt r0 (lG [Str lu,Str lw] hs1 0 r0 ag51) ?_)))))
 refine cL r0 (iIsLogin (lu:=lu) (lw:=lw) (w:=_) (hlu_n:=(by omega)) (hlw_n:=(by omega))) ?_
 rintro _ w2 ⟨rfl,hs2⟩
 replace hs2:=hs1.call0 hs2
 refine qt r0 (nt (b:=loginOk lu lw) r0) (nn ?_)
 refine cd (b:=!(loginOk lu lw)) r0 (fun h1=>?_) (fun h1=>?_)
 ·have h2:(loginOk lu lw)=false:=by simpa using h1
  refine sr (tA ns r0 (tA (.bool false) r0 (nn (rt (tR ?_)))))
  refine fret (v:=.tuple #[ns,.bool false]) (.tmp (.tmp .nil)) r0 ?_
  have hs3:=hs2.nl [.own none (([]:List Int).length) 0 3 1 (([]:List Int).map I)] r0
  have e1:loginP lu lw=(([]:List Int),false):=by(try simp only[catH_cons,catH_nil,List.append_nil]); simp[loginP,h2]
  have e2:=pj1 e1
  have e3:=congrArg List.length e2
  have e4:=pj2 e1
  exact⟨none,0,(tup2 (slv r0 e3 r0) (congrArg (Value.bool) e4)),((hs3.pq [1] r0).cast (lc (own_eq (g:=I) r0 e3 r0 e2) r0))⟩
 ·have h3:(loginOk lu lw)=true:=by simpa using h1
  refine sk (nN (sq ?_))
  refine raJ (fun w'=>∃ L,SH w w' [] L∧(.blk b1 51 [Str lu,Str lw])∈L∧True) (fun f w'=>∃ (b3':Nat) (A6':Option Addr) (c6' b10':Nat) (A13':Option Addr) (c13' b14':Nat) (A15':Option Addr) (c15':Nat),Hz f [(2,.slice A15' ((catH ([(⟨(Z5 b3'),2,(Z10 lu)⟩:Hd),(⟨A6',c6',textI lu⟩:Hd),(⟨(Z5 b10'),1,(Z9 lw)⟩:Hd),(⟨A13',c13',textI lw⟩:Hd)]:List Hd)).length) c15'),(3,.bool true)]∧SH w w' [] [.blk b1 51 [Str lu,Str lw],oI b10' (Z9 lw) 1 3,.own A13' ((textI lw).length) c13' 3 1 ((textI lw).map I),.own (Z5 b14') (([(⟨(Z5 b3'),2,(Z10 lu)⟩:Hd),(⟨A6',c6',textI lu⟩:Hd),(⟨(Z5 b10'),1,(Z9 lw)⟩:Hd),(⟨A13',c13',textI lw⟩:Hd)]:List Hd).length) 4 22 1 (([(⟨(Z5 b3'),2,(Z10 lu)⟩:Hd),(⟨A6',c6',textI lu⟩:Hd),(⟨(Z5 b10'),1,(Z9 lw)⟩:Hd),(⟨A13',c13',textI lw⟩:Hd)]:List Hd).map hv),.own A15' ((catH ([(⟨(Z5 b3'),2,(Z10 lu)⟩:Hd),(⟨A6',c6',textI lu⟩:Hd),(⟨(Z5 b10'),1,(Z9 lw)⟩:Hd),(⟨A13',c13',textI lw⟩:Hd)]:List Hd)).length) c15' 3 1 ((catH ([(⟨(Z5 b3'),2,(Z10 lu)⟩:Hd),(⟨A6',c6',textI lu⟩:Hd),(⟨(Z5 b10'),1,(Z9 lw)⟩:Hd),(⟨A13',c13',textI lw⟩:Hd)]:List Hd)).map I),oI b3' (Z10 lu) 2 3,.own A6' ((textI lu).length) c6' 3 1 ((textI lu).map I)]) mixed ?_ ?_
  ·refine dG 3 18 32767 (fun f w'=>∃ (b3':Nat) (A6':Option Addr) (c6' b10':Nat) (A13':Option Addr) (c13' b14':Nat),Hz f [(2,ns),(3,.bool false),(21,sb b14' (([(⟨(Z5 b3'),2,(Z10 lu)⟩:Hd),(⟨A6',c6',textI lu⟩:Hd),(⟨(Z5 b10'),1,(Z9 lw)⟩:Hd),(⟨A13',c13',textI lw⟩:Hd)]:List Hd).length) 4)]∧SH w w' [] [.blk b1 51 [Str lu,Str lw],oI b10' (Z9 lw) 1 3,.own A13' ((textI lw).length) c13' 3 1 ((textI lw).map I),.own (Z5 b14') (([(⟨(Z5 b3'),2,(Z10 lu)⟩:Hd),(⟨A6',c6',textI lu⟩:Hd),(⟨(Z5 b10'),1,(Z9 lw)⟩:Hd),(⟨A13',c13',textI lw⟩:Hd)]:List Hd).length) 4 22 1 (([(⟨(Z5 b3'),2,(Z10 lu)⟩:Hd),(⟨A6',c6',textI lu⟩:Hd),(⟨(Z5 b10'),1,(Z9 lw)⟩:Hd),(⟨A13',c13',textI lw⟩:Hd)]:List Hd).map hv),oI b3' (Z10 lu) 2 3,.own A6' ((textI lu).length) c6' 3 1 ((textI lu).map I)]) ?_ (fun D_3_0=>?_)
   ·rintro f w3 ⟨b3',A6',c6',b10',A13',c13',b14',⟨g1,rfl⟩,hs4⟩
    refine aO 15 r0 (cL r0 (slConcat (Ahs:=(Z5 b14')) (chs:=4) (hs:=([(⟨(Z5 b3'),2,(Z10 lu)⟩:Hd),(⟨A6',c6',textI lu⟩:Hd),(⟨(Z5 b10'),1,(Z9 lw)⟩:Hd),(⟨A13',c13',textI lw⟩:Hd)]:List Hd)) (w:=_) (hhs:=(hs4.sl0 3 r0)) (hhs_in:=(fa_cons (hs4.sl0 4 r0) (fa_cons (hs4.sl0 5 r0) (fa_cons (hs4.sl0 1 r0) (fa_cons (hs4.sl0 2 r0) fa_nil))))) (hct:=(by have hlf:=loginOk_fit (by assumption); have htl:=textI_len lu; have htw:=textI_len lw; simp[catH]; omega))) ?_)
    rintro _ w4 ⟨A15',c15',rfl,hs5⟩
    replace hs5:=hs4.call0 hs5
    refine nk (m1 hs5 0 r0) ?_
    refine tk (fuel:=0) (is:=[16,17]) (.cons r0 (.cons r0 (.nil))) (by kernel_rfl) (by kernel_rfl) (m1 hs5 0 r0) (yA r0 (asg (v:=.slice A15' ((catH ([(⟨(Z5 b3'),2,(Z10 lu)⟩:Hd),(⟨A6',c6',textI lu⟩:Hd),(⟨(Z5 b10'),1,(Z9 lw)⟩:Hd),(⟨A13',c13',textI lw⟩:Hd)]:List Hd)).length) c15') r0) (yA r0 (asg (v:=.bool true) r0) (.nil (ad (by kernel_rfl) ?_))))
    exact⟨b3',A6',c6',b10',A13',c13',b14',A15',c15',(zR r0),(hs5.pk [0,1,2,3,6,4,5] r0)⟩
   refine dG 4 18 16383 (fun f w'=>∃ (b3':Nat) (A6':Option Addr) (c6' b10':Nat) (A13':Option Addr) (c13':Nat),Hz f [(2,ns),(3,.bool false),(10,sb b3' ((Z10 lu).length) 2),(13,.slice A6' ((textI lu).length) c6'),(17,sb b10' ((Z9 lw).length) 1),(20,.slice A13' ((textI lw).length) c13')]∧SH w w' [] [.blk b1 51 [Str lu,Str lw],oI b10' (Z9 lw) 1 3,.own A13' ((textI lw).length) c13' 3 1 ((textI lw).map I),oI b3' (Z10 lu) 2 3,.own A6' ((textI lu).length) c6' 3 1 ((textI lu).map I)]) ?_ (fun D_3_1=>?_)
   ·rintro f w5 ⟨b3',A6',c6',b10',A13',c13',⟨g2,rfl⟩,hs6⟩
    refine aO 14 r0 (bsk hs6 sl91 [sb b3' ((Z10 lu).length) 2,.slice A6' ((textI lu).length) c6',sb b10' ((Z9 lw).length) 1,.slice A13' ((textI lw).length) c13'] [sb b3' ((Z10 lu).length) 2,.slice A6' ((textI lu).length) c6',sb b10' ((Z9 lw).length) 1,.slice A13' ((textI lw).length) c13'] trivial r0 (fun b14' w6 hs7=>?_))
    exact nk (m1 hs7 0 r0) (alc D_3_0 ⟨b3',A6',c6',b10',A13',c13',b14',(zR r0),(hs7.pk [0,1,2,5,3,4] r0)⟩)
   refine dG 5 18 8191 (fun f w'=>∃ (b3':Nat) (A6':Option Addr) (c6' b10':Nat),Hz f [(2,ns),(3,.bool false),(10,sb b3' ((Z10 lu).length) 2),(13,.slice A6' ((textI lu).length) c6'),(17,sb b10' ((Z9 lw).length) 1),(19,Str lw)]∧SH w w' [] [.blk b1 51 [Str lu,Str lw],oI b10' (Z9 lw) 1 3,oI b3' (Z10 lu) 2 3,.own A6' ((textI lu).length) c6' 3 1 ((textI lu).map I)]) ?_ (fun D_3_2=>?_)
   ·rintro f w7 ⟨b3',A6',c6',b10',⟨g3,rfl⟩,hs8⟩
    refine aO 13 r0 (cL r0 (iTextBytes (s:=lw) (w:=_) (hs_n:=(by omega))) ?_)
    rintro _ w8 ⟨A13',c13',rfl,hs9⟩
    replace hs9:=hs8.call0 hs9
    exact nk (m1 hs9 0 r0) (alc D_3_1 ⟨b3',A6',c6',b10',A13',c13',(zR r0),(hs9.pk [0,1,4,2,3] r0)⟩)
   refine dG 5 18 15359 (fun f w'=>∃ (b3':Nat) (A6':Option Addr) (c6':Nat) (A13':Option Addr) (c13':Nat),Hz f [(2,ns),(3,.bool false),(10,sb b3' ((Z10 lu).length) 2),(13,.slice A6' ((textI lu).length) c6'),(16,I (lw.length:Int)),(20,.slice A13' ((textI lw).length) c13')]∧SH w w' [] [.blk b1 51 [Str lu,Str lw],.own A13' ((textI lw).length) c13' 3 1 ((textI lw).map I),oI b3' (Z10 lu) 2 3,.own A6' ((textI lu).length) c6' 3 1 ((textI lu).map I)]) ?_ (fun D_3_3=>?_)
   ·rintro f w9 ⟨b3',A6',c6',A13',c13',⟨g4,rfl⟩,hs10⟩
    refine aO 10 r0 (bsk hs10 sl22 [I (lw.length:Int)] [I (lw.length:Int)] trivial r0 (fun b10' w10 hs11=>?_))
    exact nk (m1 hs11 0 r0) (alc D_3_1 ⟨b3',A6',c6',b10',A13',c13',(zR r0),(hs11.pk [0,4,1,2,3] r0)⟩)
   refine dG 5 18 16375 (fun f w'=>∃ (A6':Option Addr) (c6' b10':Nat) (A13':Option Addr) (c13':Nat),Hz f [(2,ns),(3,.bool false),(9,I (lu.length:Int)),(13,.slice A6' ((textI lu).length) c6'),(17,sb b10' ((Z9 lw).length) 1),(20,.slice A13' ((textI lw).length) c13')]∧SH w w' [] [.blk b1 51 [Str lu,Str lw],oI b10' (Z9 lw) 1 3,.own A13' ((textI lw).length) c13' 3 1 ((textI lw).map I),.own A6' ((textI lu).length) c6' 3 1 ((textI lu).map I)]) ?_ (fun D_3_4=>?_)
   ·rintro f w11 ⟨A6',c6',b10',A13',c13',⟨g5,rfl⟩,hs12⟩
    refine aO 3 r0 (bsk hs12 sl22 [I 1,I (lu.length:Int)] [I 1,I (lu.length:Int)] trivial r0 (fun b3' w12 hs13=>?_))
    exact nk (m1 hs13 0 r0) (alc D_3_1 ⟨b3',A6',c6',b10',A13',c13',(zR r0),(hs13.pk [0,1,2,4,3] r0)⟩)
   refine dG 6 18 7167 (fun f w'=>∃ (b3':Nat) (A6':Option Addr) (c6':Nat),Hz f [(2,ns),(3,.bool false),(10,sb b3' ((Z10 lu).length) 2),(13,.slice A6' ((textI lu).length) c6'),(16,I (lw.length:Int)),(19,Str lw)]∧SH w w' [] [.blk b1 51 [Str lu,Str lw],oI b3' (Z10 lu) 2 3,.own A6' ((textI lu).length) c6' 3 1 ((textI lu).map I)]) ?_ (fun D_3_5=>?_)
   ·rintro f w13 ⟨b3',A6',c6',⟨g6,rfl⟩,hs14⟩
    refine aaL [10,13] (fa_cons ?_ (fa_one ?_))
    ·refine one_ r0 (bsk hs14 sl22 [I (lw.length:Int)] [I (lw.length:Int)] trivial r0 (fun b10' w14 hs15=>?_))
     exact nk (m1 hs15 0 r0) (alc D_3_2 ⟨b3',A6',c6',b10',(zR r0),(hs15.pk [0,3,1,2] r0)⟩)
    ·refine one_ r0 (cL r0 (iTextBytes (s:=lw) (w:=_) (hs_n:=(by omega))) ?_)
     rintro _ w15 ⟨A13',c13',rfl,hs16⟩
     replace hs16:=hs14.call0 hs16
     exact nk (m1 hs16 0 r0) (alc D_3_3 ⟨b3',A6',c6',A13',c13',(zR r0),(hs16.pk [0,3,1,2] r0)⟩)
   refine dG 6 18 8127 (fun f w'=>∃ (b3' b10':Nat),Hz f [(2,ns),(3,.bool false),(10,sb b3' ((Z10 lu).length) 2),(12,Str lu),(17,sb b10' ((Z9 lw).length) 1),(19,Str lw)]∧SH w w' [] [.blk b1 51 [Str lu,Str lw],oI b10' (Z9 lw) 1 3,oI b3' (Z10 lu) 2 3]) ?_ (fun D_3_6=>?_)
   ·rintro f w16 ⟨b3',b10',⟨g7,rfl⟩,hs17⟩
    refine aO 6 r0 (cL r0 (iTextBytes (s:=lu) (w:=_) (hs_n:=(by omega))) ?_)
    rintro _ w17 ⟨A6',c6',rfl,hs18⟩
    replace hs18:=hs17.call0 hs18
    exact nk (m1 hs18 0 r0) (alc D_3_2 ⟨b3',A6',c6',b10',(zR r0),hs18⟩)
   refine dG 6 18 8183 (fun f w'=>∃ (A6':Option Addr) (c6' b10':Nat),Hz f [(2,ns),(3,.bool false),(9,I (lu.length:Int)),(13,.slice A6' ((textI lu).length) c6'),(17,sb b10' ((Z9 lw).length) 1),(19,Str lw)]∧SH w w' [] [.blk b1 51 [Str lu,Str lw],oI b10' (Z9 lw) 1 3,.own A6' ((textI lu).length) c6' 3 1 ((textI lu).map I)]) ?_ (fun D_3_7=>?_)
   ·rintro f w18 ⟨A6',c6',b10',⟨g8,rfl⟩,hs19⟩
    refine aaL [3,13] (fa_cons ?_ (fa_one ?_))
    ·refine one_ r0 (bsk hs19 sl22 [I 1,I (lu.length:Int)] [I 1,I (lu.length:Int)] trivial r0 (fun b3' w19 hs20=>?_))
     exact nk (m1 hs20 0 r0) (alc D_3_2 ⟨b3',A6',c6',b10',(zR r0),(hs20.pk [0,1,3,2] r0)⟩)
    ·refine one_ r0 (cL r0 (iTextBytes (s:=lw) (w:=_) (hs_n:=(by omega))) ?_)
     rintro _ w20 ⟨A13',c13',rfl,hs21⟩
     replace hs21:=hs19.call0 hs21
     exact nk (m1 hs21 0 r0) (alc D_3_4 ⟨A6',c6',b10',A13',c13',(zR r0),(hs21.pk [0,1,3,2] r0)⟩)
   refine dG 6 18 15351 (fun f w'=>∃ (A6':Option Addr) (c6':Nat) (A13':Option Addr) (c13':Nat),Hz f [(2,ns),(3,.bool false),(9,I (lu.length:Int)),(13,.slice A6' ((textI lu).length) c6'),(16,I (lw.length:Int)),(20,.slice A13' ((textI lw).length) c13')]∧SH w w' [] [.blk b1 51 [Str lu,Str lw],.own A13' ((textI lw).length) c13' 3 1 ((textI lw).map I),.own A6' ((textI lu).length) c6' 3 1 ((textI lu).map I)]) ?_ (fun D_3_8=>?_)
   ·rintro f w21 ⟨A6',c6',A13',c13',⟨g9,rfl⟩,hs22⟩
    refine aaL [3,10] (fa_cons ?_ (fa_one ?_))
    ·refine one_ r0 (bsk hs22 sl22 [I 1,I (lu.length:Int)] [I 1,I (lu.length:Int)] trivial r0 (fun b3' w22 hs23=>?_))
     exact nk (m1 hs23 0 r0) (alc D_3_3 ⟨b3',A6',c6',A13',c13',(zR r0),(hs23.pk [0,1,3,2] r0)⟩)
    ·refine one_ r0 (bsk hs22 sl22 [I (lw.length:Int)] [I (lw.length:Int)] trivial r0 (fun b10' w23 hs24=>?_))
     exact nk (m1 hs24 0 r0) (alc D_3_4 ⟨A6',c6',b10',A13',c13',(zR r0),(hs24.pk [0,3,1,2] r0)⟩)
   refine dG 7 18 7103 (fun f w'=>∃ (b3':Nat),Hz f [(2,ns),(3,.bool false),(10,sb b3' ((Z10 lu).length) 2),(12,Str lu),(16,I (lw.length:Int)),(19,Str lw)]∧SH w w' [] [.blk b1 51 [Str lu,Str lw],oI b3' (Z10 lu) 2 3]) ?_ (fun D_3_9=>?_)
   ·rintro f w24 ⟨b3',⟨g10,rfl⟩,hs25⟩
    refine aaL [6,10] (fa_cons ?_ (fa_one ?_))
    ·refine one_ r0 (cL r0 (iTextBytes (s:=lu) (w:=_) (hs_n:=(by omega))) ?_)
     rintro _ w25 ⟨A6',c6',rfl,hs26⟩
     replace hs26:=hs25.call0 hs26
     exact nk (m1 hs26 0 r0) (alc D_3_5 ⟨b3',A6',c6',(zR r0),hs26⟩)
    ·refine one_ r0 (bsk hs25 sl22 [I (lw.length:Int)] [I (lw.length:Int)] trivial r0 (fun b10' w26 hs27=>?_))
     exact nk (m1 hs27 0 r0) (alc D_3_6 ⟨b3',b10',(zR r0),(hs27.pk [0,2,1] r0)⟩)
   refine dG 7 18 7159 (fun f w'=>∃ (A6':Option Addr) (c6':Nat),Hz f [(2,ns),(3,.bool false),(9,I (lu.length:Int)),(13,.slice A6' ((textI lu).length) c6'),(16,I (lw.length:Int)),(19,Str lw)]∧SH w w' [] [.blk b1 51 [Str lu,Str lw],.own A6' ((textI lu).length) c6' 3 1 ((textI lu).map I)]) ?_ (fun D_3_10=>?_)
   ·rintro f w27 ⟨A6',c6',⟨g11,rfl⟩,hs28⟩
    refine aaL [3,10,13] (fa_cons ?_ (fa_cons ?_ (fa_one ?_)))
    ·refine one_ r0 (bsk hs28 sl22 [I 1,I (lu.length:Int)] [I 1,I (lu.length:Int)] trivial r0 (fun b3' w28 hs29=>?_))
     exact nk (m1 hs29 0 r0) (alc D_3_5 ⟨b3',A6',c6',(zR r0),(hs29.pk [0,2,1] r0)⟩)
    ·refine one_ r0 (bsk hs28 sl22 [I (lw.length:Int)] [I (lw.length:Int)] trivial r0 (fun b10' w29 hs30=>?_))
     exact nk (m1 hs30 0 r0) (alc D_3_7 ⟨A6',c6',b10',(zR r0),(hs30.pk [0,2,1] r0)⟩)
    ·refine one_ r0 (cL r0 (iTextBytes (s:=lw) (w:=_) (hs_n:=(by omega))) ?_)
     rintro _ w30 ⟨A13',c13',rfl,hs31⟩
     replace hs31:=hs28.call0 hs31
     exact nk (m1 hs31 0 r0) (alc D_3_8 ⟨A6',c6',A13',c13',(zR r0),(hs31.pk [0,2,1] r0)⟩)
   refine dG 7 18 8119 (fun f w'=>∃ (b10':Nat),Hz f [(2,ns),(3,.bool false),(9,I (lu.length:Int)),(12,Str lu),(17,sb b10' ((Z9 lw).length) 1),(19,Str lw)]∧SH w w' [] [.blk b1 51 [Str lu,Str lw],oI b10' (Z9 lw) 1 3]) ?_ (fun D_3_11=>?_)
   ·rintro f w31 ⟨b10',⟨g12,rfl⟩,hs32⟩
    refine aaL [3,6] (fa_cons ?_ (fa_one ?_))
    ·refine one_ r0 (bsk hs32 sl22 [I 1,I (lu.length:Int)] [I 1,I (lu.length:Int)] trivial r0 (fun b3' w32 hs33=>?_))
     exact nk (m1 hs33 0 r0) (alc D_3_6 ⟨b3',b10',(zR r0),hs33⟩)
    ·refine one_ r0 (cL r0 (iTextBytes (s:=lu) (w:=_) (hs_n:=(by omega))) ?_)
     rintro _ w33 ⟨A6',c6',rfl,hs34⟩
     replace hs34:=hs32.call0 hs34
     exact nk (m1 hs34 0 r0) (alc D_3_7 ⟨A6',c6',b10',(zR r0),hs34⟩)
   refine dG 8 18 7095 (fun f w'=>Hz f [(2,ns),(3,.bool false),(9,I (lu.length:Int)),(12,Str lu),(16,I (lw.length:Int)),(19,Str lw)]∧SH w w' [] [.blk b1 51 [Str lu,Str lw]]) ?_ (fun D_3_12=>?_)
   ·rintro f w34 ⟨⟨g13,rfl⟩,hs35⟩
    refine aaL [3,6,10] (fa_cons ?_ (fa_cons ?_ (fa_one ?_)))
    ·refine one_ r0 (bsk hs35 sl22 [I 1,I (lu.length:Int)] [I 1,I (lu.length:Int)] trivial r0 (fun b3' w35 hs36=>?_))
     exact nk (m1 hs36 0 r0) (alc D_3_9 ⟨b3',(zR r0),hs36⟩)
    ·refine one_ r0 (cL r0 (iTextBytes (s:=lu) (w:=_) (hs_n:=(by omega))) ?_)
     rintro _ w36 ⟨A6',c6',rfl,hs37⟩
     replace hs37:=hs35.call0 hs37
     exact nk (m1 hs37 0 r0) (alc D_3_10 ⟨A6',c6',(zR r0),hs37⟩)
    ·refine one_ r0 (bsk hs35 sl22 [I (lw.length:Int)] [I (lw.length:Int)] trivial r0 (fun b10' w37 hs38=>?_))
     exact nk (m1 hs38 0 r0) (alc D_3_11 ⟨b10',(zR r0),hs38⟩)
   have hs39:=hs2.drew
   refine tk (fuel:=8) (is:=[0,1,2,4,5,7,8,9,11,12]) (.cons r0 (.cons r0 (.cons r0 (.cons r0 (.cons r0 (.cons r0 (.cons r0 (.cons r0 (.cons r0 (.cons r0 (.nil))))))))))) (by kernel_rfl) (by kernel_rfl) (m1 hs39 0 r0) (yA r0 (fa 0 fo51_0 r0) (yB r0 (fun ⟨Lq,hsq,mh0,_⟩=>lM (Str lu) hsq mh0 r0 one9) (yA r0 (lnS (l:=lu) st9 r0) (yA r0 (fa 0 fo51_0 r0) (yB r0 (fun ⟨Lq,hsq,mh0,_⟩=>lM (Str lu) hsq mh0 r0 one9) (yA r0 (fa 1 fo51_1 r0) (yB r0 (fun ⟨Lq,hsq,mh0,_⟩=>lM (Str lw) hsq mh0 r0 one9) ?_)))))))
   refine yA r0 (lnS (l:=lw) st9 r0) (yA r0 (fa 1 fo51_1 r0) (yB r0 (fun ⟨Lq,hsq,mh0,_⟩=>lM (Str lw) hsq mh0 r0 one9) (.nil ?_)))
   exact alc D_3_12 ⟨(zR r0),hs39⟩
  rintro f w38 ⟨b3',A6',c6',b10',A13',c13',b14',A15',c15',⟨g14,rfl⟩,hs40⟩
  refine nN ?_
  have hs41:=hs40.pq [4] r0
  refine rt (fret (v:=.tuple #[.slice A15' ((catH ([(⟨(Z5 b3'),2,(Z10 lu)⟩:Hd),(⟨A6',c6',textI lu⟩:Hd),(⟨(Z5 b10'),1,(Z9 lw)⟩:Hd),(⟨A13',c13',textI lw⟩:Hd)]:List Hd)).length) c15',.bool true]) (.tmp (.tmp .nil)) r0 ?_)
  have e5:loginP lu lw=(catH ([(⟨(Z5 b3'),2,(Z10 lu)⟩:Hd),(⟨A6',c6',textI lu⟩:Hd),(⟨(Z5 b10'),1,(Z9 lw)⟩:Hd),(⟨A13',c13',textI lw⟩:Hd)]:List Hd),true):=by(try simp only[catH_cons,catH_nil,List.append_nil]); simp[loginP,h3]
  have e6:=pj1 e5
  have e7:=congrArg List.length e6
  have e8:=pj2 e5
  exact⟨A15',c15',(tup2 (slv r0 e7 r0) (congrArg (Value.bool) e8)),(hs41.cast (lc (own_eq (g:=I) r0 e7 r0 e6) r0))⟩
set_option maxHeartbeats 8000000 in
theorem sLoginBytes (lu:List UInt8) (lw:List UInt8) (w:World) (hlu_n:lu.length≤2147483648) (hlw_n:lw.length≤2147483648):Does Tryz.prog 113 [.agg #[Str lu,Str lw]] w (fun v w'=>∃ Ar:Option Addr,∃ cr:Nat,v=.tuple #[.slice Ar ((loginP lu lw).1).length cr,.bool ((loginP lu lw).2)]∧SH w w' [] [.own Ar (((loginP lu lw).1).length) cr 3 1 (((loginP lu lw).1).map I)]):=by
 refine fE (N:=28) Tryz.func113 r0 (by kernel_rfl) r0 ?_
 have hs0:=SH.refl w []
 refine sr (bx (v:=.agg #[Str lu,Str lw]) (cs:=[Str lu,Str lw]) hs0 r0 r0 trivial r0 (fun b1 w1 hs1=>?_))
 refine tA ns r0 (tA (.bool false) r0 (nn (sq (sr (qt r0 (lG [Str lu,Str lw] hs1 0 r0 ag51) ?_)))))
 refine cL r0 (sL11Ok (lu:=lu) (lw:=lw) (w:=_) (hlu_n:=(by omega)) (hlw_n:=(by omega))) ?_
 rintro _ w2 ⟨rfl,hs2⟩
 replace hs2:=hs1.call0 hs2
 refine qt r0 (nt (b:=loginOk lu lw) r0) (nn ?_)
 refine cd (b:=!(loginOk lu lw)) r0 (fun h1=>?_) (fun h1=>?_)
 ·have h2:(loginOk lu lw)=false:=by simpa using h1
  refine sr (bsk hs2 sl22 [] [] trivial r0 (fun b2 w3 hs3=>?_))
  refine tA (sb b2 (([]:List Int).length) 0) r0 (tA (.bool false) r0 (nn (rt (tR ?_))))
  refine fret (v:=.tuple #[sb b2 (([]:List Int).length) 0,.bool false]) (.tmp (.tmp .nil)) r0 ?_
  have e1:loginP lu lw=(([]:List Int),false):=by(try simp only[catH_cons,catH_nil,List.append_nil]); simp[loginP,h2]
  have e2:=pj1 e1
  have e3:=congrArg List.length e2
  have e4:=pj2 e1
  exact⟨(Z5 b2),0,(tup2 (slv r0 e3 r0) (congrArg (Value.bool) e4)),((hs3.pq [1] r0).cast (lc (own_eq (g:=I) r0 e3 r0 e2) r0))⟩
 ·have h3:(loginOk lu lw)=true:=by simpa using h1
  refine sk (nN (sq ?_))
  refine raJ (fun w'=>∃ L,SH w w' [] L∧(.blk b1 51 [Str lu,Str lw])∈L∧True) (fun f w'=>∃ (A6':Option Addr) (c6':Nat) (A7':Option Addr) (c7':Nat),Hz f [(1,pB b1),(4,.slice A7' (((Z10 lu)++(textI lu)).length) c7')]∧SH w w' [] [.blk b1 51 [Str lu,Str lw],.own A7' (((Z10 lu)++(textI lu)).length) c7' 3 1 (((Z10 lu)++(textI lu)).map I),.own A6' ((textI lu).length) c6' 3 1 ((textI lu).map I)]) mixed ?_ ?_
  ·refine dG 2 9 127 (fun f w'=>∃ (b3':Nat) (A6':Option Addr) (c6':Nat),Hz f [(1,pB b1),(12,sb b3' ((Z10 lu).length) 2),(15,.slice A6' ((textI lu).length) c6')]∧SH w w' [] [.blk b1 51 [Str lu,Str lw],oI b3' (Z10 lu) 2 3,.own A6' ((textI lu).length) c6' 3 1 ((textI lu).map I)]) ?_ (fun D_3_0=>?_)
   ·rintro f w4 ⟨b3',A6',c6',⟨g1,rfl⟩,hs4⟩
    refine aO 7 r0 (apm (g:=I) (ys:=(Z10 lu)) (zs:=textI lu) hs4 1 r0 sl22 r0 r0 r0 (hs4.sl0 2 r0) (fun _=>rfl) (by unfold maxLen; have hlf:=loginOk_fit (by assumption); have htl:=textI_len lu; have htw:=textI_len lw; simp only[List.length_append,List.length_cons,List.length_nil]; omega) (by have hlf:=loginOk_fit (by assumption); have htl:=textI_len lu; have htw:=textI_len lw; simp only[List.length_append,List.length_cons,List.length_nil]; omega) trivial r0 (fun A7' c7' w5 hs5=>?_))
    refine nk (m1 hs5 0 r0) ?_
    refine tk (fuel:=0) (is:=[8]) (.cons r0 (.nil)) (by kernel_rfl) (by kernel_rfl) (m1 hs5 0 r0) (yA r0 (asg (v:=.slice A7' (((Z10 lu)++(textI lu)).length) c7') r0) (.nil (ad (by kernel_rfl) ?_)))
    exact⟨A6',c6',A7',c7',(zR r0),(hs5.pk [0,2,1] r0)⟩
   refine dG 3 9 63 (fun f w'=>∃ (b3':Nat),Hz f [(1,pB b1),(12,sb b3' ((Z10 lu).length) 2),(14,Str lu)]∧SH w w' [] [.blk b1 51 [Str lu,Str lw],oI b3' (Z10 lu) 2 3]) ?_ (fun D_3_1=>?_)
   ·rintro f w6 ⟨b3',⟨g2,rfl⟩,hs6⟩
    refine aO 6 r0 (cL r0 (sL1Text (s:=lu) (w:=_) (hs_n:=(by omega))) ?_)
    rintro _ w7 ⟨A6',c6',rfl,hs7⟩
    replace hs7:=hs6.call0 hs7
    exact nk (m1 hs7 0 r0) (alc D_3_0 ⟨b3',A6',c6',(zR r0),hs7⟩)
   refine dG 3 9 119 (fun f w'=>∃ (A6':Option Addr) (c6':Nat),Hz f [(1,pB b1),(11,I (lu.length:Int)),(15,.slice A6' ((textI lu).length) c6')]∧SH w w' [] [.blk b1 51 [Str lu,Str lw],.own A6' ((textI lu).length) c6' 3 1 ((textI lu).map I)]) ?_ (fun D_3_2=>?_)
   ·rintro f w8 ⟨A6',c6',⟨g3,rfl⟩,hs8⟩
    refine aO 3 r0 (bsk hs8 sl22 [I 1,I (lu.length:Int)] [I 1,I (lu.length:Int)] trivial r0 (fun b3' w9 hs9=>?_))
    exact nk (m1 hs9 0 r0) (alc D_3_0 ⟨b3',A6',c6',(zR r0),(hs9.pk [0,2,1] r0)⟩)
   refine dG 4 9 55 (fun f w'=>Hz f [(1,pB b1),(11,I (lu.length:Int)),(14,Str lu)]∧SH w w' [] [.blk b1 51 [Str lu,Str lw]]) ?_ (fun D_3_3=>?_)
   ·rintro f w10 ⟨⟨g4,rfl⟩,hs10⟩
    refine aaL [3,6] (fa_cons ?_ (fa_one ?_))
    ·refine one_ r0 (bsk hs10 sl22 [I 1,I (lu.length:Int)] [I 1,I (lu.length:Int)] trivial r0 (fun b3' w11 hs11=>?_))
     exact nk (m1 hs11 0 r0) (alc D_3_1 ⟨b3',(zR r0),hs11⟩)
    ·refine one_ r0 (cL r0 (sL1Text (s:=lu) (w:=_) (hs_n:=(by omega))) ?_)
     rintro _ w12 ⟨A6',c6',rfl,hs12⟩
     replace hs12:=hs10.call0 hs12
     exact nk (m1 hs12 0 r0) (alc D_3_2 ⟨A6',c6',(zR r0),hs12⟩)
   have hs13:=hs2.drew
   refine tk (fuel:=4) (is:=[0,1,2,4,5]) (.cons r0 (.cons r0 (.cons r0 (.cons r0 (.cons r0 (.nil)))))) (by kernel_rfl) (by kernel_rfl) (m1 hs13 0 r0) (yA r0 (fa 0 fo51_0 r0) (yB r0 (fun ⟨Lq,hsq,mh0,_⟩=>lM (Str lu) hsq mh0 r0 one9) (yA r0 (lnS (l:=lu) st9 r0) (yA r0 (fa 0 fo51_0 r0) (yB r0 (fun ⟨Lq,hsq,mh0,_⟩=>lM (Str lu) hsq mh0 r0 one9) (.nil ?_))))))
   exact alc D_3_3 ⟨(zR r0),hs13⟩
  rintro f w13 ⟨A6',c6',A7',c7',⟨g5,rfl⟩,hs14⟩
  refine nN (sr (tm (.slice A7' (((Z10 lu)++(textI lu)).length) c7') r0 (qt r0 (fa 1 fo51_1 r0) (qt r0 (lD (Str lw) hs14 0 r0 one9) (qt r0 (lnS (l:=lw) st9 r0) (bsk hs14 sl22 [I (lw.length:Int)] [I (lw.length:Int)] trivial r0 (fun b3 w14 hs15=>?_)))))))
  refine apm (g:=I) (ys:=(Z10 lu)++(textI lu)) (zs:=(Z9 lw)) hs15 1 r0 sl22 r0 r0 r0 (hs15.sl0 3 r0) (fun _=>rfl) (by unfold maxLen; have hlf:=loginOk_fit (by assumption); have htl:=textI_len lu; have htw:=textI_len lw; simp only[List.length_append,List.length_cons,List.length_nil]; omega) (by have hlf:=loginOk_fit (by assumption); have htl:=textI_len lu; have htw:=textI_len lw; simp only[List.length_append,List.length_cons,List.length_nil]; omega) trivial r0 (fun A1 c1 w15 hs16=>?_)
  refine tA (.slice A1 ((((Z10 lu)++(textI lu))++(Z9 lw)).length) c1) r0 (nn ?_)
  have hs17:=hs16.pq [0,3] r0
  refine sr (tm (.slice A1 ((((Z10 lu)++(textI lu))++(Z9 lw)).length) c1) r0 (qt r0 (fa 1 fo51_1 r0) (qt r0 (lD (Str lw) hs17 0 r0 one9) (cL r0 (sL1Text (s:=lw) (w:=_) (hs_n:=(by omega))) ?_))))
  rintro _ w16 ⟨A2,c2,rfl,hs18⟩
  replace hs18:=hs17.call0 hs18
  refine apm (g:=I) (ys:=((Z10 lu)++(textI lu))++(Z9 lw)) (zs:=textI lw) hs18 1 r0 sl22 r0 r0 r0 (hs18.sl0 2 r0) (fun _=>rfl) (by unfold maxLen; have hlf:=loginOk_fit (by assumption); have htl:=textI_len lu; have htw:=textI_len lw; simp only[List.length_append,List.length_cons,List.length_nil]; omega) (by have hlf:=loginOk_fit (by assumption); have htl:=textI_len lu; have htw:=textI_len lw; simp only[List.length_append,List.length_cons,List.length_nil]; omega) trivial r0 (fun A3 c3 w17 hs19=>?_)
  refine tA (.slice A3 (((((Z10 lu)++(textI lu))++(Z9 lw))++(textI lw)).length) c3) r0 (tA (.bool true) r0 (nn (rt (fret (v:=.tuple #[.slice A3 (((((Z10 lu)++(textI lu))++(Z9 lw))++(textI lw)).length) c3,.bool true]) (.tmp (.tmp .nil)) r0 ?_))))
  have e5:loginP lu lw=((((Z10 lu)++(textI lu))++(Z9 lw))++(textI lw),true):=by(try simp only[catH_cons,catH_nil,List.append_nil]); simp[loginP,h3]
  have e6:=pj1 e5
  have e7:=congrArg List.length e6
  have e8:=pj2 e5
  exact⟨A3,c3,(tup2 (slv r0 e7 r0) (congrArg (Value.bool) e8)),((hs19.pq [2] r0).cast (lc (own_eq (g:=I) r0 e7 r0 e6) r0))⟩
theorem iClientSay {Ams:Option Addr} {cms:Nat} (ms:List Int) (lu:List UInt8) (lw:List UInt8) (ak:Int) {Aaq:Option Addr} {caq:Nat} (aq:List Int) (an:List UInt8) (apt:Int) (n:Int) (w:World) (hms:Sl w [] 1 Ams ms.length cms (ms.map I)) (hlu_n:lu.length≤2147483648) (hlw_n:lw.length≤2147483648) (haq:Sl w [] 1 Aaq aq.length caq (aq.map I)) (han_n:an.length≤1099511627776):Does Tryz.prog 30 [.agg #[.slice Ams ms.length cms,Str lu,Str lw,I ak,.slice Aaq aq.length caq,Str an,I apt],I n] w (fun v w'=>∃ Ar:Option Addr,∃ cr:Nat,v=.tuple #[.slice Ar ((sayP ms lu lw ak aq an apt n).1).length cr,.bool ((sayP ms lu lw ak aq an apt n).2)]∧SH w w' [] [.own Ar (((sayP ms lu lw ak aq an apt n).1).length) cr 3 1 (((sayP ms lu lw ak aq an apt n).1).map I)]):=by
 refine fE (N:=32) Tryz.func30 r0 (by kernel_rfl) r0 ?_
 have hs0:=SH.refl w []
 have hms_m:ms.length≤9223372036854775807:=Nat.le_trans hms.cap hms.capMax
 have haq_m:aq.length≤9223372036854775807:=Nat.le_trans haq.cap haq.capMax
 refine sr (bx (v:=.agg #[(Z7 Ams ms cms),Str lu,Str lw,I ak,(Z7 Aaq aq caq),Str an,I apt]) (cs:=(Z1 Ams ms cms lu lw ak Aaq aq caq an apt)) hs0 r0 r0 trivial r0 (fun b1 w1 hs1=>?_))
 refine tA ns r0 (tA (.bool false) r0 (nn (sq (sr (qt r0 (lG (Z1 Ams ms cms lu lw ak Aaq aq caq an apt) hs1 0 r0 ag53) ?_)))))
 refine cL r0 (iClientValid (Ams:=Ams) (cms:=cms) (ms:=ms) (lu:=lu) (lw:=lw) (ak:=ak) (Aaq:=Aaq) (caq:=caq) (aq:=aq) (an:=an) (apt:=apt) (w:=_) (hms:=(hms.up0 hs1)) (hlu_n:=(by omega)) (hlw_n:=(by omega)) (haq:=(haq.up0 hs1)) (han_n:=(by omega))) ?_
 rintro _ w2 ⟨rfl,hs2⟩
 replace hs2:=hs1.call0 hs2
 refine qt r0 (nt (b:=clientOk ms lu lw ak aq an apt) r0) (nn ?_)
 refine cd (b:=!(clientOk ms lu lw ak aq an apt)) r0 (fun h1=>?_) (fun h1=>?_)
 ·have h2:(clientOk ms lu lw ak aq an apt)=false:=by simpa using h1
  refine sr (tA ns r0 (tA (.bool false) r0 (nn (rt (tR ?_)))))
  refine fret (v:=.tuple #[ns,.bool false]) (.tmp (.tmp .nil)) r0 ?_
  have hs3:=hs2.nl [.own none (([]:List Int).length) 0 3 1 (([]:List Int).map I)] r0
  have e1:sayP ms lu lw ak aq an apt n=(([]:List Int),false):=by simp[sayP,h2]
  have e2:=pj1 e1
  have e3:=congrArg List.length e2
  have e4:=pj2 e1
  exact⟨none,0,(tup2 (slv r0 e3 r0) (congrArg (Value.bool) e4)),((hs3.pq [1] r0).cast (lc (own_eq (g:=I) r0 e3 r0 e2) r0))⟩
 ·have h3:(clientOk ms lu lw ak aq an apt)=true:=by simpa using h1
  refine sk (nN (sq (sr (tm (I n) r0 (nn ?_)))))
  refine bl (sr (qt r0 (eqi (k:=.i64) (a:=n) (b:=0) r0 r0) (tA (.bool (decide (n=0))) r0 (nn ?_))))
  refine cdd (p:=n=0) r0 (fun h4=>?_) (fun h4=>?_)
  ·refine sr (qt r0 (fa 0 fo53_0 r0) (qt r0 (lD (Z11 Ams ms cms) hs2 0 r0 one22) (cL r0 (iHelloBytes (Ams:=Ams) (cms:=cms) (ms:=ms) (w:=_) (hms:=(hms.up0 hs2))) ?_)))
   rintro _ w3 ⟨A1,c1,rfl,hs4⟩
   replace hs4:=hs2.call0 hs4
   refine qt r0 (xt 0 (v:=.slice A1 (((helloP ms).1).length) c1) r0 r0) (qt r0 (xt 1 (v:=.bool ((helloP ms).2)) r0 r0) (tA (.slice A1 (((helloP ms).1).length) c1) r0 (tA (.bool ((helloP ms).2)) r0 (nn ?_))))
   refine rt (bR (tR ?_))
   refine fret (v:=.tuple #[.slice A1 (((helloP ms).1).length) c1,.bool ((helloP ms).2)]) (.tmp (.tmp .nil)) r0 ?_
   have e5:sayP ms lu lw ak aq an apt n=((helloP ms).1,((helloP ms).2)):=by simp[sayP,h3,h4]
   have e6:=pj1 e5
   have e7:=congrArg List.length e6
   have e8:=pj2 e5
   exact⟨A1,c1,(tup2 (slv r0 e7 r0) (congrArg (Value.bool) e8)),((hs4.pq [1] r0).cast (lc (own_eq (g:=I) r0 e7 r0 e6) r0))⟩
  ·refine sr (qt r0 (eqi (k:=.i64) (a:=n) (b:=1) r0 r0) (tA (.bool (decide (n=1))) r0 (nn ?_)))
   refine cdd (p:=n=1) r0 (fun h5=>?_) (fun h5=>?_)
   ·refine sr (qt r0 (fa 1 fo53_1 r0) (qt r0 (lG [Str lu,Str lw] hs2 0 r0 ag51) (cL r0 (iLoginBytes (lu:=lu) (lw:=lw) (w:=_) (hlu_n:=(by omega)) (hlw_n:=(by omega))) ?_)))
    rintro _ w4 ⟨A2,c2,rfl,hs5⟩
    replace hs5:=hs2.call0 hs5
    refine qt r0 (xt 0 (v:=.slice A2 (((loginP lu lw).1).length) c2) r0 r0) (qt r0 (xt 1 (v:=.bool ((loginP lu lw).2)) r0 r0) (tA (.slice A2 (((loginP lu lw).1).length) c2) r0 (tA (.bool ((loginP lu lw).2)) r0 (nn ?_))))
    refine rt (bR (tR ?_))
    refine fret (v:=.tuple #[.slice A2 (((loginP lu lw).1).length) c2,.bool ((loginP lu lw).2)]) (.tmp (.tmp .nil)) r0 ?_
    have e9:sayP ms lu lw ak aq an apt n=((loginP lu lw).1,((loginP lu lw).2)):=by simp[sayP,h3,h4,h5]
    have e10:=pj1 e9
    have e11:=congrArg List.length e10
    have e12:=pj2 e9
    exact⟨A2,c2,(tup2 (slv r0 e11 r0) (congrArg (Value.bool) e12)),((hs5.pq [1] r0).cast (lc (own_eq (g:=I) r0 e11 r0 e10) r0))⟩
   ·refine sr (qt r0 (eqi (k:=.i64) (a:=n) (b:=2) r0 r0) (tA (.bool (decide (n=2))) r0 (nn ?_)))
    refine cdd (p:=n=2) r0 (fun h6=>?_) (fun h6=>?_)
    ·refine sr (qt r0 (fa 3 fo53_2 r0) (qt r0 (lG [I ak,(Z7 Aaq aq caq),Str an,I apt] hs2 0 r0 ag43) (qt r0 (bdv (v:=.agg #[I 1,I ak,(Z7 Aaq aq caq),Str an,I apt]) [(0,I 1),(1,.agg #[I ak,(Z7 Aaq aq caq),Str an,I apt])] r0 (fun _=>by kernel_rfl)) (cL r0 (iRequestBytes (n:=1) (ak:=ak) (Aaq:=Aaq) (caq:=caq) (aq:=aq) (an:=an) (apt:=apt) (w:=_) (haq:=(haq.up0 hs2)) (han_n:=(by omega))) ?_))))
     rintro _ w5 ⟨A3,c3,rfl,hs6⟩
     replace hs6:=hs2.call0 hs6
     refine qt r0 (xt 0 (v:=.slice A3 (((reqP 1 ak aq an apt).1).length) c3) r0 r0) (qt r0 (xt 1 (v:=.bool ((reqP 1 ak aq an apt).2)) r0 r0) (tA (.slice A3 (((reqP 1 ak aq an apt).1).length) c3) r0 (tA (.bool ((reqP 1 ak aq an apt).2)) r0 (nn ?_))))
     refine rt (bR (tR ?_))
     refine fret (v:=.tuple #[.slice A3 (((reqP 1 ak aq an apt).1).length) c3,.bool ((reqP 1 ak aq an apt).2)]) (.tmp (.tmp .nil)) r0 ?_
     have e13:sayP ms lu lw ak aq an apt n=((reqP 1 ak aq an apt).1,((reqP 1 ak aq an apt).2)):=by simp[sayP,h3,h4,h5,h6]
     have e14:=pj1 e13
     have e15:=congrArg List.length e14
     have e16:=pj2 e13
     exact⟨A3,c3,(tup2 (slv r0 e15 r0) (congrArg (Value.bool) e16)),((hs6.pq [1] r0).cast (lc (own_eq (g:=I) r0 e15 r0 e14) r0))⟩
    ·refine sk (bN (nN (sr (tA ns r0 (tA (.bool false) r0 (nl ?_))))))
     refine nN (rt (fret (v:=.tuple #[ns,.bool false]) (.tmp (.tmp .nil)) r0 ?_))
     have hs7:=hs2.nl [.own none (([]:List Int).length) 0 3 1 (([]:List Int).map I)] r0
     have e17:sayP ms lu lw ak aq an apt n=(([]:List Int),false):=by simp[sayP,h3,h4,h5,h6]
     have e18:=pj1 e17
     have e19:=congrArg List.length e18
     have e20:=pj2 e17
     exact⟨none,0,(tup2 (slv r0 e19 r0) (congrArg (Value.bool) e20)),((hs7.pq [1] r0).cast (lc (own_eq (g:=I) r0 e19 r0 e18) r0))⟩
theorem sClientSay {Ams:Option Addr} {cms:Nat} (ms:List Int) (lu:List UInt8) (lw:List UInt8) (ak:Int) {Aaq:Option Addr} {caq:Nat} (aq:List Int) (an:List UInt8) (apt:Int) (n:Int) (w:World) (hms:Sl w [] 1 Ams ms.length cms (ms.map I)) (hlu_n:lu.length≤2147483648) (hlw_n:lw.length≤2147483648) (haq:Sl w [] 1 Aaq aq.length caq (aq.map I)) (han_n:an.length≤1099511627776):Does Tryz.prog 68 [.agg #[.slice Ams ms.length cms,Str lu,Str lw,I ak,.slice Aaq aq.length caq,Str an,I apt],I n] w (fun v w'=>∃ Ar:Option Addr,∃ cr:Nat,v=.tuple #[.slice Ar ((sayP ms lu lw ak aq an apt n).1).length cr,.bool ((sayP ms lu lw ak aq an apt n).2)]∧SH w w' [] [.own Ar (((sayP ms lu lw ak aq an apt n).1).length) cr 3 1 (((sayP ms lu lw ak aq an apt n).1).map I)]):=by
 refine fE (N:=34) Tryz.func68 r0 (by kernel_rfl) r0 ?_
 have hs0:=SH.refl w []
 have hms_m:ms.length≤9223372036854775807:=Nat.le_trans hms.cap hms.capMax
 have haq_m:aq.length≤9223372036854775807:=Nat.le_trans haq.cap haq.capMax
 refine sr (bx (v:=.agg #[(Z7 Ams ms cms),Str lu,Str lw,I ak,(Z7 Aaq aq caq),Str an,I apt]) (cs:=(Z1 Ams ms cms lu lw ak Aaq aq caq an apt)) hs0 r0 r0 trivial r0 (fun b1 w1 hs1=>?_))
 refine tA ns r0 (tA (.bool false) r0 (nn (sq (sr (qt r0 (lG (Z1 Ams ms cms lu lw ak Aaq aq caq an apt) hs1 0 r0 ag53) ?_)))))
 refine cL r0 (sClientValid (Ams:=Ams) (cms:=cms) (ms:=ms) (lu:=lu) (lw:=lw) (ak:=ak) (Aaq:=Aaq) (caq:=caq) (aq:=aq) (an:=an) (apt:=apt) (w:=_) (hms:=(hms.up0 hs1)) (hlu_n:=(by omega)) (hlw_n:=(by omega)) (haq:=(haq.up0 hs1)) (han_n:=(by omega))) ?_
 rintro _ w2 ⟨rfl,hs2⟩
 replace hs2:=hs1.call0 hs2
 refine qt r0 (nt (b:=clientOk ms lu lw ak aq an apt) r0) (nn ?_)
 refine cd (b:=!(clientOk ms lu lw ak aq an apt)) r0 (fun h1=>?_) (fun h1=>?_)
 ·have h2:(clientOk ms lu lw ak aq an apt)=false:=by simpa using h1
  refine sr (bsk hs2 sl22 [] [] trivial r0 (fun b2 w3 hs3=>?_))
  refine tA (sb b2 (([]:List Int).length) 0) r0 (tA (.bool false) r0 (nn (rt (tR ?_))))
  refine fret (v:=.tuple #[sb b2 (([]:List Int).length) 0,.bool false]) (.tmp (.tmp .nil)) r0 ?_
  have e1:sayP ms lu lw ak aq an apt n=(([]:List Int),false):=by simp[sayP,h2]
  have e2:=pj1 e1
  have e3:=congrArg List.length e2
  have e4:=pj2 e1
  exact⟨(Z5 b2),0,(tup2 (slv r0 e3 r0) (congrArg (Value.bool) e4)),((hs3.pq [1] r0).cast (lc (own_eq (g:=I) r0 e3 r0 e2) r0))⟩
 ·have h3:(clientOk ms lu lw ak aq an apt)=true:=by simpa using h1
  refine sk (nN (sq (sr (tm (I n) r0 (nn ?_)))))
  refine bl (sr (qt r0 (eqi (k:=.i64) (a:=n) (b:=0) r0 r0) (tA (.bool (decide (n=0))) r0 (nn ?_))))
  refine cdd (p:=n=0) r0 (fun h4=>?_) (fun h4=>?_)
  ·refine sr (qt r0 (fa 0 fo53_0 r0) (qt r0 (lD (Z11 Ams ms cms) hs2 0 r0 one22) (cL r0 (sHelloBytes (Ams:=Ams) (cms:=cms) (ms:=ms) (w:=_) (hms:=(hms.up0 hs2))) ?_)))
   rintro _ w4 ⟨A1,c1,rfl,hs4⟩
   replace hs4:=hs2.call0 hs4
   refine qt r0 (xt 0 (v:=.slice A1 (((helloP ms).1).length) c1) r0 r0) (qt r0 (xt 1 (v:=.bool ((helloP ms).2)) r0 r0) (tA (.slice A1 (((helloP ms).1).length) c1) r0 (tA (.bool ((helloP ms).2)) r0 (nn ?_))))
   refine rt (bR (tR ?_))
   refine fret (v:=.tuple #[.slice A1 (((helloP ms).1).length) c1,.bool ((helloP ms).2)]) (.tmp (.tmp .nil)) r0 ?_
   have e5:sayP ms lu lw ak aq an apt n=((helloP ms).1,((helloP ms).2)):=by simp[sayP,h3,h4]
   have e6:=pj1 e5
   have e7:=congrArg List.length e6
   have e8:=pj2 e5
   exact⟨A1,c1,(tup2 (slv r0 e7 r0) (congrArg (Value.bool) e8)),((hs4.pq [1] r0).cast (lc (own_eq (g:=I) r0 e7 r0 e6) r0))⟩
  ·refine sr (qt r0 (eqi (k:=.i64) (a:=n) (b:=1) r0 r0) (tA (.bool (decide (n=1))) r0 (nn ?_)))
   refine cdd (p:=n=1) r0 (fun h5=>?_) (fun h5=>?_)
   ·refine sr (qt r0 (fa 1 fo53_1 r0) (qt r0 (lG [Str lu,Str lw] hs2 0 r0 ag51) (cL r0 (sLoginBytes (lu:=lu) (lw:=lw) (w:=_) (hlu_n:=(by omega)) (hlw_n:=(by omega))) ?_)))
    rintro _ w5 ⟨A2,c2,rfl,hs5⟩
    replace hs5:=hs2.call0 hs5
    refine qt r0 (xt 0 (v:=.slice A2 (((loginP lu lw).1).length) c2) r0 r0) (qt r0 (xt 1 (v:=.bool ((loginP lu lw).2)) r0 r0) (tA (.slice A2 (((loginP lu lw).1).length) c2) r0 (tA (.bool ((loginP lu lw).2)) r0 (nn ?_))))
    refine rt (bR (tR ?_))
    refine fret (v:=.tuple #[.slice A2 (((loginP lu lw).1).length) c2,.bool ((loginP lu lw).2)]) (.tmp (.tmp .nil)) r0 ?_
    have e9:sayP ms lu lw ak aq an apt n=((loginP lu lw).1,((loginP lu lw).2)):=by simp[sayP,h3,h4,h5]
    have e10:=pj1 e9
    have e11:=congrArg List.length e10
    have e12:=pj2 e9
    exact⟨A2,c2,(tup2 (slv r0 e11 r0) (congrArg (Value.bool) e12)),((hs5.pq [1] r0).cast (lc (own_eq (g:=I) r0 e11 r0 e10) r0))⟩
   ·refine sr (qt r0 (eqi (k:=.i64) (a:=n) (b:=2) r0 r0) (tA (.bool (decide (n=2))) r0 (nn ?_)))
    refine cdd (p:=n=2) r0 (fun h6=>?_) (fun h6=>?_)
    ·refine sr (qt r0 (fa 3 fo53_2 r0) (qt r0 (lG [I ak,(Z7 Aaq aq caq),Str an,I apt] hs2 0 r0 ag43) (qt r0 (bdv (v:=.agg #[I 1,I ak,(Z7 Aaq aq caq),Str an,I apt]) [(0,I 1),(1,.agg #[I ak,(Z7 Aaq aq caq),Str an,I apt])] r0 (fun _=>by kernel_rfl)) (cL r0 (sRequestBytes (n:=1) (ak:=ak) (Aaq:=Aaq) (caq:=caq) (aq:=aq) (an:=an) (apt:=apt) (w:=_) (haq:=(haq.up0 hs2)) (han_n:=(by omega))) ?_))))
     rintro _ w6 ⟨A3,c3,rfl,hs6⟩
     replace hs6:=hs2.call0 hs6
     refine qt r0 (xt 0 (v:=.slice A3 (((reqP 1 ak aq an apt).1).length) c3) r0 r0) (qt r0 (xt 1 (v:=.bool ((reqP 1 ak aq an apt).2)) r0 r0) (tA (.slice A3 (((reqP 1 ak aq an apt).1).length) c3) r0 (tA (.bool ((reqP 1 ak aq an apt).2)) r0 (nn ?_))))
     refine rt (bR (tR ?_))
     refine fret (v:=.tuple #[.slice A3 (((reqP 1 ak aq an apt).1).length) c3,.bool ((reqP 1 ak aq an apt).2)]) (.tmp (.tmp .nil)) r0 ?_
     have e13:sayP ms lu lw ak aq an apt n=((reqP 1 ak aq an apt).1,((reqP 1 ak aq an apt).2)):=by simp[sayP,h3,h4,h5,h6]
     have e14:=pj1 e13
     have e15:=congrArg List.length e14
     have e16:=pj2 e13
     exact⟨A3,c3,(tup2 (slv r0 e15 r0) (congrArg (Value.bool) e16)),((hs6.pq [1] r0).cast (lc (own_eq (g:=I) r0 e15 r0 e14) r0))⟩
    ·refine sk (bN (nN (sr (bsk hs2 sl22 [] [] trivial r0 (fun b3 w7 hs7=>?_)))))
     refine tA (sb b3 (([]:List Int).length) 0) r0 (tA (.bool false) r0 (nn (rt (fret (v:=.tuple #[sb b3 (([]:List Int).length) 0,.bool false]) (.tmp (.tmp .nil)) r0 ?_))))
     have e17:sayP ms lu lw ak aq an apt n=(([]:List Int),false):=by simp[sayP,h3,h4,h5,h6]
     have e18:=pj1 e17
     have e19:=congrArg List.length e18
     have e20:=pj2 e17
     exact⟨(Z5 b3),0,(tup2 (slv r0 e19 r0) (congrArg (Value.bool) e20)),((hs7.pq [1] r0).cast (lc (own_eq (g:=I) r0 e19 r0 e18) r0))⟩
theorem markAddress (ak:Int) {Aaq:Option Addr} {caq:Nat} (aq:List Int) (an:List UInt8) (apt:Int) (k0:Int) (w:World) (haq:OwnR w Aaq aq.length caq 3 1 (aq.map I)) (haq_n:aq.length≤2147483648) (hk0:0≤k0∧k0≤4294967296):Does Tryz.prog 89 [.agg #[I ak,.slice Aaq aq.length caq,Str an,I apt],I k0] w (fun v w'=>v=.int .i64 (k0+(aq.length:Int))∧SH w w' (ownM Aaq caq++[]) [.own Aaq aq.length caq 3 1 ((marks k0 aq.length).map I)]):=by
 refine fE (N:=10) Tryz.func89 r0 (by kernel_rfl) r0 ?_
 have hs0:SH w w (ownM Aaq caq++[]) [(Z4 Aaq aq caq)]:=entry1o haq
 have haq_m:aq.length≤9223372036854775807:=Nat.le_trans haq.2.1 haq.2.2.1
 refine sr (bx (v:=.agg #[I ak,(Z7 Aaq aq caq),Str an,I apt]) (cs:=[I ak,(Z7 Aaq aq caq),Str an,I apt]) hs0 r0 r0 trivial r0 (fun b1 w1 hs1=>?_))
 refine tA (I 0) r0 (nx (qt r0 (fa 1 fo43_1 r0) (qt r0 (lD (Z11 Aaq aq caq) hs1 1 r0 one22) (tm (I k0) r0 ?_))))
 refine cL r0 (markIntS (Axs:=Aaq) (cxs:=caq) (xs:=aq) (k0:=k0) (w:=_) (hxs:=(own_ok hs1 0 r0)) (hxs_n:=(by omega)) (hk0:=(by omega))) ?_
 rintro _ w2 ⟨rfl,hs2⟩
 replace hs2:=hs1.cK [0] [1] hs2 r0
 have e1:aq.length=(marks k0 aq.length).length:=by(simp; done)
 have hs3:SH w w2 (ownM Aaq caq++[]) [.blk b1 43 [I ak,(Z7 Aaq aq caq),Str an,I apt],.own Aaq ((marks k0 aq.length).length) caq 3 1 ((marks k0 aq.length).map I)]:=(hs2.cast (lc r0 (lc (own_eq (g:=I) r0 e1 r0 r0) r0)))
 clear hs2
 refine tA (I (k0+(aq.length:Int))) r0 (nx (tm (I (k0+(aq.length:Int))) r0 (tA (I (k0+(aq.length:Int))) r0 (nl ?_))))
 refine nN (rt (fT (I (k0+(aq.length:Int))) r0 ?_))
 have e2:(marks k0 aq.length).length=aq.length:=by(simp; done)
 exact⟨rfl,((hs3.pq [1] r0).cast (lc (own_eq (g:=I) r0 e2 r0 r0) r0))⟩
theorem markClient {Ams:Option Addr} {cms:Nat} (ms:List Int) (lu:List UInt8) (lw:List UInt8) (ak:Int) {Aaq:Option Addr} {caq:Nat} (aq:List Int) (an:List UInt8) (apt:Int) (k0:Int) (w:World) (hms:OwnR w Ams ms.length cms 3 1 (ms.map I)) (hms_n:ms.length≤2147483648) (haq:OwnR w Aaq aq.length caq 3 1 (aq.map I)) (haq_n:aq.length≤2147483648) (hk0:0≤k0∧k0≤2147483648) (hx_ms_aq: ∀ k,(It.own Ams ms.length cms 3 1 (ms.map I)).has k→ ¬ (It.own Aaq aq.length caq 3 1 (aq.map I)).has k):Does Tryz.prog 37 [.agg #[.slice Ams ms.length cms,Str lu,Str lw,I ak,.slice Aaq aq.length caq,Str an,I apt],I k0] w (fun v w'=>v=.int .i64 (k0+(ms.length:Int)+(aq.length:Int))∧SH w w' (ownM Ams cms++(ownM Aaq caq++[])) [.own Ams ms.length cms 3 1 ((marks k0 ms.length).map I),.own Aaq aq.length caq 3 1 ((marks (k0+(ms.length:Int)) aq.length).map I)]):=by
 refine fE (N:=14) Tryz.func37 r0 (by kernel_rfl) r0 ?_
 have hs0:=SH.entryK [(Z4 Ams ms cms),(Z4 Aaq aq caq)] (fa_cons hms (fa_cons haq fa_nil)) (.cons (fa_cons hx_ms_aq fa_nil) (.cons fa_nil .nil))
 have hms_m:ms.length≤9223372036854775807:=Nat.le_trans hms.2.1 hms.2.2.1
 have haq_m:aq.length≤9223372036854775807:=Nat.le_trans haq.2.1 haq.2.2.1
 refine sr (bx (v:=.agg #[(Z7 Ams ms cms),Str lu,Str lw,I ak,(Z7 Aaq aq caq),Str an,I apt]) (cs:=(Z1 Ams ms cms lu lw ak Aaq aq caq an apt)) hs0 r0 r0 trivial r0 (fun b1 w1 hs1=>?_))
 refine tA (I 0) r0 (nx (qt r0 (fa 0 fo53_0 r0) (qt r0 (lD (Z11 Ams ms cms) hs1 2 r0 one22) (tm (I k0) r0 ?_))))
 refine cL r0 (markIntS (Axs:=Ams) (cxs:=cms) (xs:=ms) (k0:=k0) (w:=_) (hxs:=(own_ok hs1 0 r0)) (hxs_n:=(by omega)) (hk0:=(by omega))) ?_
 rintro _ w2 ⟨rfl,hs2⟩
 replace hs2:=hs1.cK [0] [1,2] hs2 r0
 have e1:ms.length=(marks k0 ms.length).length:=by(simp; done)
 have hs3:SH w w2 (ownM Ams cms++(ownM Aaq caq++[])) [(Z4 Aaq aq caq),.blk b1 53 (Z1 Ams ms cms lu lw ak Aaq aq caq an apt),.own Ams ((marks k0 ms.length).length) cms 3 1 ((marks k0 ms.length).map I)]:=(hs2.cast (lc r0 (lc r0 (lc (own_eq (g:=I) r0 e1 r0 r0) r0))))
 clear hs2
 refine tA (I (k0+(ms.length:Int))) r0 (nx (qt r0 (fa 3 fo53_2 r0) (qt r0 (lG [I ak,(Z7 Aaq aq caq),Str an,I apt] hs3 1 r0 ag43) (tm (I (k0+(ms.length:Int))) r0 ?_))))
 refine cL r0 (markAddress (ak:=ak) (Aaq:=Aaq) (caq:=caq) (aq:=aq) (an:=an) (apt:=apt) (k0:=k0+(ms.length:Int)) (w:=_) (haq:=(own_ok hs3 0 r0)) (haq_n:=(by omega)) (hk0:=(by omega))) ?_
 rintro _ w3 ⟨rfl,hs4⟩
 replace hs4:=hs3.cK [0] [1,2] hs4 r0
 have e2:aq.length=(marks (k0+(ms.length:Int)) aq.length).length:=by(simp; done)
 have hs5:SH w w3 (ownM Ams cms++(ownM Aaq caq++[])) [.blk b1 53 (Z1 Ams ms cms lu lw ak Aaq aq caq an apt),.own Ams ((marks k0 ms.length).length) cms 3 1 ((marks k0 ms.length).map I),.own Aaq ((marks (k0+(ms.length:Int)) aq.length).length) caq 3 1 ((marks (k0+(ms.length:Int)) aq.length).map I)]:=(hs4.cast (lc r0 (lc r0 (lc (own_eq (g:=I) r0 e2 r0 r0) r0))))
 clear hs4
 refine tA (I ((k0+(ms.length:Int))+(aq.length:Int))) r0 (nx (tm (I ((k0+(ms.length:Int))+(aq.length:Int))) r0 (tA (I ((k0+(ms.length:Int))+(aq.length:Int))) r0 (nl ?_))))
 refine nN (rt (fT (I ((k0+(ms.length:Int))+(aq.length:Int))) r0 ?_))
 have e3:(k0+(ms.length:Int))+(aq.length:Int)=k0+(ms.length:Int)+(aq.length:Int):=by rfl
 have e4:(marks k0 ms.length).length=ms.length:=by(simp; done)
 have e5:(marks (k0+(ms.length:Int)) aq.length).length=aq.length:=by(simp; done)
 exact⟨(congrArg (Value.int .i64) e3),((hs5.pq [1,2] r0).cast (lc (own_eq (g:=I) r0 e4 r0 r0) (lc (own_eq (g:=I) r0 e5 r0 r0) r0)))⟩
theorem stItoa (n:Int) (w:World) (hn: -9223372036854775808≤n∧n≤9223372036854775807) (hGp:VarP Tryz.prog w [] "internal/strconv.uint64pow10" isPow):Does Tryz.prog 125 [I n] w (fun v w'=>v=Str (Lib.itoa n)∧SH w w' [] []):=by
 exact does_grow ⟨_,_,Tryz.func125,by kernel_rfl,rfl⟩ r0 (Tryz.strconv_Itoa n hn.1 hn.2 w hGp.tab)
theorem stJoin {bxs:Nat} {cxs:Nat} (xs:List (List UInt8)) (m:List UInt8) (w:World) (hxs:Sl w [] 1 (some ⟨bxs,0,none⟩) xs.length cxs (xs.map Str)) (hxs_n:xs.length≤1099511627776) (hl:(Lib.join xs m).length≤140737488355328):Does Tryz.prog 178 [sb bxs xs.length cxs,Str m] w (fun v w'=>v=Str (Lib.join xs m)∧SH w w' [] []):=by
 exact does_join ⟨_,_,Tryz.func178,by kernel_rfl,rfl⟩ Tryz.strings_Join_none Tryz.strings_Join hxs hxs_n hl
set_option maxHeartbeats 8000000 in
theorem l6DecStep (n:Int) (w:World) (hn:0≤n∧n≤9223372036854775807) (ih: ∀ (m:Int) (w:World),0≤m→m<n→Does Tryz.prog 148 [I m] w (fun v w'=>v=Str (Lib.itoa m)∧SH w w' [] [])):Does Tryz.prog 148 [I n] w (fun v w'=>v=Str (Lib.itoa n)∧SH w w' [] []):=by
 refine fE (N:=28) Tryz.func148 r0 (by kernel_rfl) r0 ?_
 have hs0:=SH.refl w []
 refine sr (tA (Str []) r0 (nn (sq (sr ?_))))
 refine tm (I n) r0 (qt r0 (lss (k:=.i64) (a:=n) (b:=(-9223372036854775807)) r0 r0) (nn ?_))
 refine cdd (p:=n<(-9223372036854775807)) r0 (fun h1=>absurd h1 (by omega)) (fun h1=>?_)
 refine sk (nN (sq (sr (tm (I n) r0 (qt r0 (lss (k:=.i64) (a:=n) (b:=0) r0 r0) (nl ?_))))))
 refine nN ?_
 refine cdd (p:=n<0) r0 (fun h2=>absurd h2 (by omega)) (fun h2=>?_)
 refine sk (nN (sq (sr (tm (I n) r0 (qt r0 (lss (k:=.i64) (a:=n) (b:=10) r0 r0) (nl ?_))))))
 refine nN ?_
 refine cdd (p:=n<10) r0 (fun h3=>?_) (fun h3=>?_)
 ·refine sr (tm (I n) r0 (qt r0 (add (a:=48) (b:=n) r0 r0 (by(exact⟨by omega,by omega⟩))) (qt r0 (cvB (a:=48+n) (s:=.i64) ti3 ti5 r0 (by(omega)) (by(omega))) (bsk hs0 sl39 [.int .u8 (((UInt8.ofNat (48+n).toNat).toNat:Nat):Int)] [.int .u8 (((UInt8.ofNat (48+n).toNat).toNat:Nat):Int)] trivial r0 (fun b1 w1 hs1=>?_)))))
  refine qt r0 (cvS (l:=([(UInt8.ofNat (48+n).toNat)]:List UInt8)) us39 ti5 st9 r0 (hs1.sl0 0 r0)) (tA (Str ([(UInt8.ofNat (48+n).toNat)]:List UInt8)) r0 (nn (rt (tR ?_))))
  refine fT (Str ([(UInt8.ofNat (48+n).toNat)]:List UInt8)) r0 ?_
  have e1:([(UInt8.ofNat (48+n).toNat)]:List UInt8)=Lib.itoa n:=by exact decDigits_small (by omega) (by omega)
  exact⟨(congrArg (Str) e1),(hs1.pk [] r0)⟩
 ·refine sk (nN (sq ?_))
  refine raJ (fun w'=>∃ L,SH w w' [] L∧True) (fun f w'=>∃ (b7':Nat),Hz f [(2,Str ((Lib.itoa (n / 10))++([(UInt8.ofNat (48+(n % 10)).toNat)]:List UInt8)))]∧SH w w' [] [.own (Z5 b7') (([(UInt8.ofNat (48+(n % 10)).toNat)]:List UInt8).length) 1 5 1 (([(UInt8.ofNat (48+(n % 10)).toNat)]:List UInt8).map U)]) mixed ?_ ?_
  ·refine dG 3 11 255 (fun f w'=>∃ (b7':Nat),Hz f [(2,Str []),(20,Str (Lib.itoa (n / 10))),(25,sb b7' (([(UInt8.ofNat (48+(n % 10)).toNat)]:List UInt8).length) 1)]∧SH w w' [] [.own (Z5 b7') (([(UInt8.ofNat (48+(n % 10)).toNat)]:List UInt8).length) 1 5 1 (([(UInt8.ofNat (48+(n % 10)).toNat)]:List UInt8).map U)]) ?_ (fun D_7_0=>?_)
   ·rintro f w2 ⟨b7',⟨g1,rfl⟩,hs2⟩
    refine aO 8 r0 (qt r0 (cvS (l:=([(UInt8.ofNat (48+(n % 10)).toNat)]:List UInt8)) us39 ti5 st9 r0 (hs2.sl0 0 r0)) (nk ⟨_,hs2,trivial⟩ ?_))
    refine tk (fuel:=0) (is:=[9,10]) (.cons r0 (.cons r0 (.nil))) (by kernel_rfl) (by kernel_rfl) ⟨_,hs2,trivial⟩ (yA r0 (cat (l:=Lib.itoa (n / 10)) (m:=([(UInt8.ofNat (48+(n % 10)).toNat)]:List UInt8)) r0 r0 (by(have hdl:=Lib.itoa_length_le (n / 10) (by omega) (by omega); first | omega | (simp; done) | (simp; omega)))) (yA r0 (asg (v:=Str ((Lib.itoa (n / 10))++([(UInt8.ofNat (48+(n % 10)).toNat)]:List UInt8))) r0) (.nil (ad (by kernel_rfl) ?_))))
    exact⟨b7',(zR r0),hs2⟩
   refine dG 3 11 507 (fun f w'=>∃ (b7':Nat),Hz f [(2,Str []),(19,I (n / 10)),(26,Str ([(UInt8.ofNat (48+(n % 10)).toNat)]:List UInt8))]∧SH w w' [] [.own (Z5 b7') (([(UInt8.ofNat (48+(n % 10)).toNat)]:List UInt8).length) 1 5 1 (([(UInt8.ofNat (48+(n % 10)).toNat)]:List UInt8).map U)]) ?_ (fun D_7_1=>?_)
   ·rintro f w3 ⟨b7',⟨g2,rfl⟩,hs3⟩
    refine aO 2 r0 (cL r0 (ih (n / 10) _ (by(omega)) (by(omega))) ?_)
    rintro _ w4 ⟨rfl,hs4⟩
    replace hs4:=hs3.call0 hs4
    refine nk ⟨_,hs4,trivial⟩ ?_
    refine tk (fuel:=0) (is:=[9,10]) (.cons r0 (.cons r0 (.nil))) (by kernel_rfl) (by kernel_rfl) ⟨_,hs4,trivial⟩ (yA r0 (cat (l:=Lib.itoa (n / 10)) (m:=([(UInt8.ofNat (48+(n % 10)).toNat)]:List UInt8)) r0 r0 (by(have hdl:=Lib.itoa_length_le (n / 10) (by omega) (by omega); first | omega | (simp; done) | (simp; omega)))) (yA r0 (asg (v:=Str ((Lib.itoa (n / 10))++([(UInt8.ofNat (48+(n % 10)).toNat)]:List UInt8))) r0) (.nil (ad (by kernel_rfl) ?_))))
    exact⟨b7',(zR r0),hs4⟩
   refine dG 4 11 127 (fun f w'=>Hz f [(2,Str []),(20,Str (Lib.itoa (n / 10))),(24,.int .u8 (((UInt8.ofNat (48+(n % 10)).toNat).toNat:Nat):Int))]∧SH w w' [] []) ?_ (fun D_7_2=>?_)
   ·rintro f w5 ⟨⟨g3,rfl⟩,hs5⟩
    refine aO 7 r0 (bsk hs5 sl39 [.int .u8 (((UInt8.ofNat (48+(n % 10)).toNat).toNat:Nat):Int)] [.int .u8 (((UInt8.ofNat (48+(n % 10)).toNat).toNat:Nat):Int)] trivial r0 (fun b7' w6 hs6=>?_))
    exact nk ⟨_,hs6,trivial⟩ (alc D_7_0 ⟨b7',(zR r0),hs6⟩)
   refine dG 4 11 251 (fun f w'=>∃ (b7':Nat),Hz f [(2,Str []),(19,I (n / 10)),(25,sb b7' (([(UInt8.ofNat (48+(n % 10)).toNat)]:List UInt8).length) 1)]∧SH w w' [] [.own (Z5 b7') (([(UInt8.ofNat (48+(n % 10)).toNat)]:List UInt8).length) 1 5 1 (([(UInt8.ofNat (48+(n % 10)).toNat)]:List UInt8).map U)]) ?_ (fun D_7_3=>?_)
   ·rintro f w7 ⟨b7',⟨g4,rfl⟩,hs7⟩
    refine aaL [2,8] (fa_cons ?_ (fa_one ?_))
    ·refine one_ r0 (cL r0 (ih (n / 10) _ (by(omega)) (by(omega))) ?_)
     rintro _ w8 ⟨rfl,hs8⟩
     replace hs8:=hs7.call0 hs8
     exact nk ⟨_,hs8,trivial⟩ (alc D_7_0 ⟨b7',(zR r0),hs8⟩)
    ·refine one_ r0 (qt r0 (cvS (l:=([(UInt8.ofNat (48+(n % 10)).toNat)]:List UInt8)) us39 ti5 st9 r0 (hs7.sl0 0 r0)) ?_)
     exact nk ⟨_,hs7,trivial⟩ (alc D_7_1 ⟨b7',(zR r0),hs7⟩)
   refine dG 5 11 123 (fun f w'=>Hz f [(2,Str []),(19,I (n / 10)),(24,.int .u8 (((UInt8.ofNat (48+(n % 10)).toNat).toNat:Nat):Int))]∧SH w w' [] []) ?_ (fun D_7_4=>?_)
   ·rintro f w9 ⟨⟨g5,rfl⟩,hs9⟩
    refine aaL [2,7] (fa_cons ?_ (fa_one ?_))
    ·refine one_ r0 (cL r0 (ih (n / 10) _ (by(omega)) (by(omega))) ?_)
     rintro _ w10 ⟨rfl,hs10⟩
     replace hs10:=hs9.call0 hs10
     exact nk ⟨_,hs10,trivial⟩ (alc D_7_2 ⟨(zR r0),hs10⟩)
    ·refine one_ r0 (bsk hs9 sl39 [.int .u8 (((UInt8.ofNat (48+(n % 10)).toNat).toNat:Nat):Int)] [.int .u8 (((UInt8.ofNat (48+(n % 10)).toNat).toNat:Nat):Int)] trivial r0 (fun b7' w11 hs11=>?_))
     exact nk ⟨_,hs11,trivial⟩ (alc D_7_3 ⟨b7',(zR r0),hs11⟩)
   have hs12:=hs0.drew
   refine tk (fuel:=5) (is:=[0,1,3,4,5,6]) (.cons r0 (.cons r0 (.cons r0 (.cons r0 (.cons r0 (.cons r0 (.nil))))))) (by kernel_rfl) (by kernel_rfl) ⟨_,hs12,trivial⟩ (yA r0 (mv (v:=I n) r0) (yA r0 (quo (a:=n) (b:=10) r0 r0 (by(omega)) (by(omega)) (by(omega))) (yA r0 (mv (v:=I n) r0) (yA r0 (rem (a:=n) (b:=10) r0 r0 (by(omega)) (by(omega))) (yA r0 (add (a:=48) (b:=n % 10) r0 r0 (by(exact⟨by omega,by omega⟩))) (yA r0 (cvB (a:=48+(n % 10)) (s:=.i64) ti3 ti5 r0 (by(omega)) (by(omega))) (.nil ?_)))))))
   exact alc D_7_4 ⟨(zR r0),hs12⟩
  rintro f w12 ⟨b7',⟨g6,rfl⟩,hs13⟩
  refine nN (rt (fT (Str ((Lib.itoa (n / 10))++([(UInt8.ofNat (48+(n % 10)).toNat)]:List UInt8))) r0 ?_))
  have e2:(Lib.itoa (n / 10))++([(UInt8.ofNat (48+(n % 10)).toNat)]:List UInt8)=Lib.itoa n:=by exact decDigits_big (by omega)
  exact⟨(congrArg (Str) e2),(hs13.pk [] r0)⟩
theorem l6Dec (n:Int) (w:World) (hn:0≤n∧n≤9223372036854775807):Does Tryz.prog 148 [I n] w (fun v w'=>v=Str (Lib.itoa n)∧SH w w' [] []):=by
 have key: ∀ (j:Nat) (n:Int) (w:World),n.toNat=j→0≤n→n≤9223372036854775807→Does Tryz.prog 148 [I n] w (fun v w'=>v=Str (Lib.itoa n)∧SH w w' [] []):=by
  intro j
  induction j using Nat.strongRecOn with
  | _ j ih=>
   intro n w hj h0 h1
   exact l6DecStep n w ⟨h0,h1⟩ (fun m w hm0 hmn=>ih m.toNat (by omega) m w r0 hm0 (by omega))
 exact key _ n w r0 hn.1 hn.2
theorem iQuadText {Aqs:Option Addr} {cqs:Nat} (qs:List Int) (w:World) (hqs:Sl w [] 1 Aqs qs.length cqs (qs.map I)) (hq:quadOk qs=true) (hGp:VarP Tryz.prog w [] "internal/strconv.uint64pow10" isPow):Does Tryz.prog 157 [.slice Aqs qs.length cqs] w (fun v w'=>v=Str (quadT qs)∧SH w w' [] []):=by
 refine fE (N:=24) Tryz.func157 r0 (by kernel_rfl) r0 ?_
 have hs0:=SH.refl w []
 have hqs_m:qs.length≤9223372036854775807:=Nat.le_trans hqs.cap hqs.capMax
 refine sr (tA (Str []) r0 (nx (tm (Z11 Aqs qs cqs) r0 ?_)))
 refine qt r0 (lnA (n:=qs.length) sl22 r0) (mkm (g:=Str) (z:=[]) (n:=qs.length) hs0 sl147 r0 r0 r0 (by(have hq4:=quadOk_len hq; omega)) (by unfold maxLen; (omega)) trivial r0 (fun b1 w1 hs1=>?_))
 refine tA (sb b1 ((List.replicate qs.length ([]:List UInt8)).length) qs.length) r0 (nn (sq (sr (tm (Z11 Aqs qs cqs) r0 (qt r0 (lnA (n:=qs.length) sl22 r0) ?_)))))
 refine tm (I 0) r0 (nn (bl ?_))
 have e1:List.replicate qs.length ([]:List UInt8)=(qs.map Lib.itoa).take 0++List.replicate (qs.length-0) ([]:List UInt8):=by simp
 have e2:(List.replicate qs.length ([]:List UInt8)).length=qs.length:=by(first | rfl | (simp; done) | (simp; omega) | omega)
 refine lp (σ:=Nat) (fun(k:Nat) f w'=>Hz f [(3,sb b1 qs.length qs.length),(9,.slice Aqs qs.length cqs),(10,I (qs.length:Int)),(11,I (k:Int))]∧(k≤qs.length)∧SH w w' [] [.own (Z5 b1) qs.length qs.length 9 1 (((qs.map Lib.itoa).take k++List.replicate (qs.length-k) ([]:List UInt8)).map Str)]) (fun k=>qs.length-k) 0 ⟨(zH ⟨(show (.slice (Z5 b1) ((List.replicate qs.length ([]:List UInt8)).length) qs.length:Value)=.slice (Z5 b1) qs.length qs.length from slv r0 e2 r0),rfl,rfl,rfl,trivial⟩),(by simp),(hs1.cast (lc (own_eq (g:=Str) r0 e2 r0 e1) r0))⟩ ?_
 rintro k f w2 ⟨⟨g1,rfl⟩,hk,hs2⟩
 refine sr (qt r0 (lss (k:=.i64) (a:=(k:Int)) (b:=(qs.length:Int)) r0 r0) (nn (sq ?_)))
 refine cdd (p:=(k:Int)<(qs.length:Int)) r0 (fun h1=>?_) (fun h1=>?_)
 ·refine sk (nN (sq (bl (sr (tm (I (k:Int)) r0 (ixw1 k sl22 r0 r0 hqs (by(first | omega | (simp; done) | (simp; omega))) (getm I 0 (by(first | omega | (simp; done) | (simp; omega)))) trivial r0 (fun a1 ha1=>?_)))))))
  refine qt r0 (lda (v:=I (qs.getD k 0)) hs2 ha1 (fun _ h=>h) r0 r0 one3) (tA (I (k:Int)) r0 (tA (I (qs.getD k 0)) r0 (nn (rg (tm (sb b1 qs.length qs.length) r0 (tm (I (k:Int)) r0 ?_))))))
  refine tm (I (qs.getD k 0)) r0 (cL r0 (stItoa (n:=qs.getD k 0) (w:=_) (hn:=(by have hy:=quad_get hq (k:=k) (by omega); omega)) (hGp:=(hGp.up0 hs2))) ?_)
  rintro _ w3 ⟨rfl,hs3⟩
  replace hs3:=hs2.call0 hs3
  refine qt r0 (ixo k sl147 r0 r0 (by(first | omega | (simp; done) | (simp; omega)))) (stomn (g:=Str) (ys:=(qs.map Lib.itoa).take k++List.replicate (qs.length-k) ([]:List UInt8)) (o:=k) (u:=Lib.itoa (qs.getD k 0)) hs3 0 r0 r0 r0 r0 (by(first | omega | (simp; done) | (simp; omega))) r0 one9 trivial (fun w4 hs4=>?_))
  refine nl (bN (nN (rg (qt r0 (add (a:=(k:Int)) (b:=1) r0 r0 (by(exact⟨by omega,by omega⟩))) (tm (I ((k:Int)+1)) r0 (nn ?_))))))
  have e3:((qs.map Lib.itoa).take k++List.replicate (qs.length-k) ([]:List UInt8)).set k (Lib.itoa (qs.getD k 0))=(qs.map Lib.itoa).take (k+1)++List.replicate (qs.length-(k+1)) ([]:List UInt8):=by exact quad_set (by omega)
  refine⟨(k+1),⟨(zR r0),(by omega),(hs4.cast (lc (own_eq (g:=Str) r0 r0 r0 e3) r0))⟩,?_⟩
  omega
 ·refine ex (tE (tE (bE ?_)))
  refine nN (sr (tm (sb b1 qs.length qs.length) r0 ?_))
  have e4:qs.length=((qs.map Lib.itoa).take k++List.replicate (qs.length-k) ([]:List UInt8)).length:=by(simp; omega)
  have hs5:SH w w2 [] [.own (Z5 b1) (((qs.map Lib.itoa).take k++List.replicate (qs.length-k) ([]:List UInt8)).length) qs.length 9 1 (((qs.map Lib.itoa).take k++List.replicate (qs.length-k) ([]:List UInt8)).map Str)]:=(hs2.cast (lc (own_eq (g:=Str) r0 e4 r0 r0) r0))
  refine cL r0 (Does.castA (lc (slv r0 e4.symm r0) (lc r0 r0)) (stJoin (bxs:=b1) (cxs:=qs.length) (xs:=(qs.map Lib.itoa).take k++List.replicate (qs.length-k) ([]:List UInt8)) (m:=[46]) (w:=_) (hxs:=(hs5.sl0 0 r0)) (hxs_n:=(by(have hq4:=quadOk_len hq; first | omega | (simp; done) | (simp; omega)))) (hl:=(by rw[quad_whole (by omega)]; exact Nat.le_trans (quadT_len hq) (by decide:87≤140737488355328))))) ?_
  rintro _ w5 ⟨rfl,hs6⟩
  replace hs6:=hs5.call0 hs6
  refine tA (Str (Lib.join ((qs.map Lib.itoa).take k++List.replicate (qs.length-k) ([]:List UInt8)) [46])) r0 (nn (rt (fT (Str (Lib.join ((qs.map Lib.itoa).take k++List.replicate (qs.length-k) ([]:List UInt8)) [46])) r0 ?_)))
  have e5:Lib.join ((qs.map Lib.itoa).take k++List.replicate (qs.length-k) ([]:List UInt8)) [46]=quadT qs:=by rw[quad_whole (by omega)]; rfl
  exact⟨(congrArg (Str) e5),(hs6.pk [] r0)⟩
theorem sL2Quad {Aqs:Option Addr} {cqs:Nat} (qs:List Int) (w:World) (hqs:Sl w [] 1 Aqs qs.length cqs (qs.map I)) (hq:quadOk qs=true):Does Tryz.prog 172 [.slice Aqs qs.length cqs] w (fun v w'=>v=Str (quadT qs)∧SH w w' [] []):=by
 refine fE (N:=25) Tryz.func172 r0 (by kernel_rfl) r0 ?_
 have hs0:=SH.refl w []
 have hqs_m:qs.length≤9223372036854775807:=Nat.le_trans hqs.cap hqs.capMax
 refine sr (tA (Str []) r0 (nn (sq (rq (fun w'=>SH w w' [] []) mixed (by kernel_rfl) hs0.drew (qA r0 (mv (v:=.slice Aqs qs.length cqs) r0) ?_)))))
 refine ixq1 0 sl22 r0 r0 hqs (by(have hq4:=quadOk_len hq; have g0:=itoa_b (quad_get hq (k:=0) (by omega)); have g1:=itoa_b (quad_get hq (k:=1) (by omega)); have g2:=itoa_b (quad_get hq (k:=2) (by omega)); have g3:=itoa_b (quad_get hq (k:=3) (by omega)); first | omega | (simp; done) | (simp; omega))) (getm I 0 (by(have hq4:=quadOk_len hq; have g0:=itoa_b (quad_get hq (k:=0) (by omega)); have g1:=itoa_b (quad_get hq (k:=1) (by omega)); have g2:=itoa_b (quad_get hq (k:=2) (by omega)); have g3:=itoa_b (quad_get hq (k:=3) (by omega)); first | omega | (simp; done) | (simp; omega)))) trivial r0 (fun a1 ha1=>?_)
 refine qB r0 (fun hsq=>lda (v:=I (qs.getD 0 0)) hsq ha1 (fun _ h=>h) r0 r0 one3) (qc (Str (Lib.itoa (qs.getD 0 0))) trivial r0 (fun wq hsq=>(l6Dec (n:=qs.getD 0 0) (w:=_) (hn:=(by have hq4:=quadOk_len hq; have g0:=quad_get hq (k:=0) (by omega); have g1:=quad_get hq (k:=1) (by omega); have g2:=quad_get hq (k:=2) (by omega); have g3:=quad_get hq (k:=3) (by omega); omega))).mono (fun v w' h=>⟨h.1,by simpa using hsq.call0 h.2⟩)) (qA r0 (cat (l:=Lib.itoa (qs.getD 0 0)) (m:=[46]) r0 r0 (by have hq4:=quadOk_len hq; have g0:=itoa_b (quad_get hq (k:=0) (by omega)); have g1:=itoa_b (quad_get hq (k:=1) (by omega)); have g2:=itoa_b (quad_get hq (k:=2) (by omega)); have g3:=itoa_b (quad_get hq (k:=3) (by omega)); simp only[List.length_append,List.length_cons,List.length_nil]; omega)) (qA r0 (mv (v:=.slice Aqs qs.length cqs) r0) (ixq1 1 sl22 r0 r0 hqs (by(have hq4:=quadOk_len hq; have g0:=itoa_b (quad_get hq (k:=0) (by omega)); have g1:=itoa_b (quad_get hq (k:=1) (by omega)); have g2:=itoa_b (quad_get hq (k:=2) (by omega)); have g3:=itoa_b (quad_get hq (k:=3) (by omega)); first | omega | (simp; done) | (simp; omega))) (getm I 0 (by(have hq4:=quadOk_len hq; have g0:=itoa_b (quad_get hq (k:=0) (by omega)); have g1:=itoa_b (quad_get hq (k:=1) (by omega)); have g2:=itoa_b (quad_get hq (k:=2) (by omega)); have g3:=itoa_b (quad_get hq (k:=3) (by omega)); first | omega | (simp; done) | (simp; omega)))) trivial r0 (fun a2 ha2=>?_)))))
 refine qB r0 (fun hsq=>lda (v:=I (qs.getD 1 0)) hsq ha2 (fun _ h=>h) r0 r0 one3) (qc (Str (Lib.itoa (qs.getD 1 0))) trivial r0 (fun wq hsq=>(l6Dec (n:=qs.getD 1 0) (w:=_) (hn:=(by have hq4:=quadOk_len hq; have g0:=quad_get hq (k:=0) (by omega); have g1:=quad_get hq (k:=1) (by omega); have g2:=quad_get hq (k:=2) (by omega); have g3:=quad_get hq (k:=3) (by omega); omega))).mono (fun v w' h=>⟨h.1,by simpa using hsq.call0 h.2⟩)) (qA r0 (cat (l:=(Lib.itoa (qs.getD 0 0))++[46]) (m:=Lib.itoa (qs.getD 1 0)) r0 r0 (by have hq4:=quadOk_len hq; have g0:=itoa_b (quad_get hq (k:=0) (by omega)); have g1:=itoa_b (quad_get hq (k:=1) (by omega)); have g2:=itoa_b (quad_get hq (k:=2) (by omega)); have g3:=itoa_b (quad_get hq (k:=3) (by omega)); simp only[List.length_append,List.length_cons,List.length_nil]; omega)) (qA r0 (cat (l:=((Lib.itoa (qs.getD 0 0))++[46])++(Lib.itoa (qs.getD 1 0))) (m:=[46]) r0 r0 (by have hq4:=quadOk_len hq; have g0:=itoa_b (quad_get hq (k:=0) (by omega)); have g1:=itoa_b (quad_get hq (k:=1) (by omega)); have g2:=itoa_b (quad_get hq (k:=2) (by omega)); have g3:=itoa_b (quad_get hq (k:=3) (by omega)); simp only[List.length_append,List.length_cons,List.length_nil]; omega)) (qA r0 (mv (v:=.slice Aqs qs.length cqs) r0) (ixq1 2 sl22 r0 r0 hqs (by(have hq4:=quadOk_len hq; have g0:=itoa_b (quad_get hq (k:=0) (by omega)); have g1:=itoa_b (quad_get hq (k:=1) (by omega)); have g2:=itoa_b (quad_get hq (k:=2) (by omega)); have g3:=itoa_b (quad_get hq (k:=3) (by omega)); first | omega | (simp; done) | (simp; omega))) (getm I 0 (by(have hq4:=quadOk_len hq; have g0:=itoa_b (quad_get hq (k:=0) (by omega)); have g1:=itoa_b (quad_get hq (k:=1) (by omega)); have g2:=itoa_b (quad_get hq (k:=2) (by omega)); have g3:=itoa_b (quad_get hq (k:=3) (by omega)); first | omega | (simp; done) | (simp; omega)))) trivial r0 (fun a3 ha3=>?_))))))
 refine qB r0 (fun hsq=>lda (v:=I (qs.getD 2 0)) hsq ha3 (fun _ h=>h) r0 r0 one3) (qc (Str (Lib.itoa (qs.getD 2 0))) trivial r0 (fun wq hsq=>(l6Dec (n:=qs.getD 2 0) (w:=_) (hn:=(by have hq4:=quadOk_len hq; have g0:=quad_get hq (k:=0) (by omega); have g1:=quad_get hq (k:=1) (by omega); have g2:=quad_get hq (k:=2) (by omega); have g3:=quad_get hq (k:=3) (by omega); omega))).mono (fun v w' h=>⟨h.1,by simpa using hsq.call0 h.2⟩)) (qA r0 (cat (l:=(((Lib.itoa (qs.getD 0 0))++[46])++(Lib.itoa (qs.getD 1 0)))++[46]) (m:=Lib.itoa (qs.getD 2 0)) r0 r0 (by have hq4:=quadOk_len hq; have g0:=itoa_b (quad_get hq (k:=0) (by omega)); have g1:=itoa_b (quad_get hq (k:=1) (by omega)); have g2:=itoa_b (quad_get hq (k:=2) (by omega)); have g3:=itoa_b (quad_get hq (k:=3) (by omega)); simp only[List.length_append,List.length_cons,List.length_nil]; omega)) (qA r0 (cat (l:=((((Lib.itoa (qs.getD 0 0))++[46])++(Lib.itoa (qs.getD 1 0)))++[46])++(Lib.itoa (qs.getD 2 0))) (m:=[46]) r0 r0 (by have hq4:=quadOk_len hq; have g0:=itoa_b (quad_get hq (k:=0) (by omega)); have g1:=itoa_b (quad_get hq (k:=1) (by omega)); have g2:=itoa_b (quad_get hq (k:=2) (by omega)); have g3:=itoa_b (quad_get hq (k:=3) (by omega)); simp only[List.length_append,List.length_cons,List.length_nil]; omega)) (qA r0 (mv (v:=.slice Aqs qs.length cqs) r0) (ixq1 3 sl22 r0 r0 hqs (by(have hq4:=quadOk_len hq; have g0:=itoa_b (quad_get hq (k:=0) (by omega)); have g1:=itoa_b (quad_get hq (k:=1) (by omega)); have g2:=itoa_b (quad_get hq (k:=2) (by omega)); have g3:=itoa_b (quad_get hq (k:=3) (by omega)); first | omega | (simp; done) | (simp; omega))) (getm I 0 (by(have hq4:=quadOk_len hq; have g0:=itoa_b (quad_get hq (k:=0) (by omega)); have g1:=itoa_b (quad_get hq (k:=1) (by omega)); have g2:=itoa_b (quad_get hq (k:=2) (by omega)); have g3:=itoa_b (quad_get hq (k:=3) (by omega)); first | omega | (simp; done) | (simp; omega)))) trivial r0 (fun a4 ha4=>?_))))))
 refine qB r0 (fun hsq=>lda (v:=I (qs.getD 3 0)) hsq ha4 (fun _ h=>h) r0 r0 one3) (qc (Str (Lib.itoa (qs.getD 3 0))) trivial r0 (fun wq hsq=>(l6Dec (n:=qs.getD 3 0) (w:=_) (hn:=(by have hq4:=quadOk_len hq; have g0:=quad_get hq (k:=0) (by omega); have g1:=quad_get hq (k:=1) (by omega); have g2:=quad_get hq (k:=2) (by omega); have g3:=quad_get hq (k:=3) (by omega); omega))).mono (fun v w' h=>⟨h.1,by simpa using hsq.call0 h.2⟩)) (qA r0 (cat (l:=(((((Lib.itoa (qs.getD 0 0))++[46])++(Lib.itoa (qs.getD 1 0)))++[46])++(Lib.itoa (qs.getD 2 0)))++[46]) (m:=Lib.itoa (qs.getD 3 0)) r0 r0 (by have hq4:=quadOk_len hq; have g0:=itoa_b (quad_get hq (k:=0) (by omega)); have g1:=itoa_b (quad_get hq (k:=1) (by omega)); have g2:=itoa_b (quad_get hq (k:=2) (by omega)); have g3:=itoa_b (quad_get hq (k:=3) (by omega)); simp only[List.length_append,List.length_cons,List.length_nil]; omega)) (qA r0 (asg (v:=Str (((((((Lib.itoa (qs.getD 0 0))++[46])++(Lib.itoa (qs.getD 1 0)))++[46])++(Lib.itoa (qs.getD 2 0)))++[46])++(Lib.itoa (qs.getD 3 0)))) r0) (qn (fun w1 hs1=>?_)))))
 refine nN (rt (fT (Str (((((((Lib.itoa (qs.getD 0 0))++[46])++(Lib.itoa (qs.getD 1 0)))++[46])++(Lib.itoa (qs.getD 2 0)))++[46])++(Lib.itoa (qs.getD 3 0)))) r0 ?_))
 have e1:((((((Lib.itoa (qs.getD 0 0))++[46])++(Lib.itoa (qs.getD 1 0)))++[46])++(Lib.itoa (qs.getD 2 0)))++[46])++(Lib.itoa (qs.getD 3 0))=quadT qs:=by exact(quadT_eq (quadOk_len hq)).symm
 exact⟨(congrArg (Str) e1),hs1⟩
theorem iHostText (ak:Int) {Aaq:Option Addr} {caq:Nat} (aq:List Int) (an:List UInt8) (apt:Int) (w:World) (haq:Sl w [] 1 Aaq aq.length caq (aq.map I)) (han_n:an.length≤1099511627776) (hok:addrOk ak aq an apt=true) (hGp:VarP Tryz.prog w [] "internal/strconv.uint64pow10" isPow):Does Tryz.prog 124 [.agg #[I ak,.slice Aaq aq.length caq,Str an,I apt]] w (fun v w'=>v=Str (hostT ak aq an)∧SH w w' [] []):=by
 refine fE (N:=11) Tryz.func124 r0 (by kernel_rfl) r0 ?_
 have hs0:=SH.refl w []
 have haq_m:aq.length≤9223372036854775807:=Nat.le_trans haq.cap haq.capMax
 refine sr (bx (v:=.agg #[I ak,(Z7 Aaq aq caq),Str an,I apt]) (cs:=[I ak,(Z7 Aaq aq caq),Str an,I apt]) hs0 r0 r0 trivial r0 (fun b1 w1 hs1=>?_))
 refine tA (Str []) r0 (nn (sq (sr (qt r0 (fa 0 fo43_0 r0) (qt r0 (lD (I ak) hs1 0 r0 one3) ?_)))))
 refine qt r0 (eqi (k:=.i64) (a:=ak) (b:=1) r0 r0) (nn ?_)
 refine cdd (p:=ak=1) r0 (fun h1=>?_) (fun h1=>?_)
 ·refine sr (qt r0 (fa 1 fo43_1 r0) (qt r0 (lD (Z11 Aaq aq caq) hs1 0 r0 one22) (cL r0 (iQuadText (Aqs:=Aaq) (cqs:=caq) (qs:=aq) (w:=_) (hqs:=(haq.up0 hs1)) (hq:=(by exact addr_quad hok (by assumption))) (hGp:=(hGp.up0 hs1))) ?_)))
  rintro _ w2 ⟨rfl,hs2⟩
  replace hs2:=hs1.call0 hs2
  refine tA (Str (quadT aq)) r0 (nn (rt (tR ?_)))
  refine fT (Str (quadT aq)) r0 ?_
  have e1:quadT aq=hostT ak aq an:=by simp[hostT,h1]
  exact⟨(congrArg (Str) e1),(hs2.pk [] r0)⟩
 ·refine sk (nN (sr (qt r0 (fa 2 fo43_2 r0) (qt r0 (lD (Str an) hs1 0 r0 one9) (tA (Str an) r0 (nl ?_))))))
  refine nN (rt (fT (Str an) r0 ?_))
  have e2:an=hostT ak aq an:=by simp[hostT,h1]
  exact⟨(congrArg (Str) e2),(hs1.pk [] r0)⟩
theorem sL3Host (ak:Int) {Aaq:Option Addr} {caq:Nat} (aq:List Int) (an:List UInt8) (apt:Int) (w:World) (haq:Sl w [] 1 Aaq aq.length caq (aq.map I)) (han_n:an.length≤1099511627776) (hok:addrOk ak aq an apt=true):Does Tryz.prog 147 [.agg #[I ak,.slice Aaq aq.length caq,Str an,I apt]] w (fun v w'=>v=Str (hostT ak aq an)∧SH w w' [] []):=by
 refine fE (N:=11) Tryz.func147 r0 (by kernel_rfl) r0 ?_
 have hs0:=SH.refl w []
 have haq_m:aq.length≤9223372036854775807:=Nat.le_trans haq.cap haq.capMax
 refine sr (bx (v:=.agg #[I ak,(Z7 Aaq aq caq),Str an,I apt]) (cs:=[I ak,(Z7 Aaq aq caq),Str an,I apt]) hs0 r0 r0 trivial r0 (fun b1 w1 hs1=>?_))
 refine tA (Str []) r0 (nn (sq (sr (qt r0 (fa 0 fo43_0 r0) (qt r0 (lD (I ak) hs1 0 r0 one3) ?_)))))
 refine qt r0 (eqi (k:=.i64) (a:=ak) (b:=1) r0 r0) (nn ?_)
 refine cdd (p:=ak=1) r0 (fun h1=>?_) (fun h1=>?_)
 ·refine sr (qt r0 (fa 1 fo43_1 r0) (qt r0 (lD (Z11 Aaq aq caq) hs1 0 r0 one22) (cL r0 (sL2Quad (Aqs:=Aaq) (cqs:=caq) (qs:=aq) (w:=_) (hqs:=(haq.up0 hs1)) (hq:=(by exact addr_quad hok (by assumption)))) ?_)))
  rintro _ w2 ⟨rfl,hs2⟩
  replace hs2:=hs1.call0 hs2
  refine tA (Str (quadT aq)) r0 (nn (rt (tR ?_)))
  refine fT (Str (quadT aq)) r0 ?_
  have e1:quadT aq=hostT ak aq an:=by simp[hostT,h1]
  exact⟨(congrArg (Str) e1),(hs2.pk [] r0)⟩
 ·refine sk (nN (sr (qt r0 (fa 2 fo43_2 r0) (qt r0 (lD (Str an) hs1 0 r0 one9) (tA (Str an) r0 (nl ?_))))))
  refine nN (rt (fT (Str an) r0 ?_))
  have e2:an=hostT ak aq an:=by simp[hostT,h1]
  exact⟨(congrArg (Str) e2),(hs1.pk [] r0)⟩
theorem iAddressText (ak:Int) {Aaq:Option Addr} {caq:Nat} (aq:List Int) (an:List UInt8) (apt:Int) (w:World) (haq:Sl w [] 1 Aaq aq.length caq (aq.map I)) (han_n:an.length≤1099511627776) (hok:addrOk ak aq an apt=true) (hGp:VarP Tryz.prog w [] "internal/strconv.uint64pow10" isPow):Does Tryz.prog 63 [.agg #[I ak,.slice Aaq aq.length caq,Str an,I apt]] w (fun v w'=>v=Str (hostT ak aq an++[58]++Lib.itoa apt)∧SH w w' [] []):=by
 refine fE (N:=10) Tryz.func63 r0 (by kernel_rfl) r0 ?_
 have hs0:=SH.refl w []
 have haq_m:aq.length≤9223372036854775807:=Nat.le_trans haq.cap haq.capMax
 refine sr (bx (v:=.agg #[I ak,(Z7 Aaq aq caq),Str an,I apt]) (cs:=[I ak,(Z7 Aaq aq caq),Str an,I apt]) hs0 r0 r0 trivial r0 (fun b1 w1 hs1=>?_))
 refine tA (Str []) r0 (nn (sq (rq (fun w'=>SH w w' [] [.blk b1 43 [I ak,(Z7 Aaq aq caq),Str an,I apt]]) mixed (by kernel_rfl) hs1.drew (qB r0 (fun hsq=>lG [I ak,(Z7 Aaq aq caq),Str an,I apt] hsq 0 r0 ag43) (qc (Str (hostT ak aq an)) trivial r0 (fun wq hsq=>(iHostText (ak:=ak) (Aaq:=Aaq) (caq:=caq) (aq:=aq) (an:=an) (apt:=apt) (w:=_) (haq:=(haq.up0 hsq)) (han_n:=(by(first | omega | (simp; done) | (simp; omega)))) (hok:=(by(first | omega | assumption | (simp; done) | (simp; omega)))) (hGp:=(hGp.up0 hsq))).mono (fun v w' h=>⟨h.1,by simpa using hsq.call0 h.2⟩)) (qA r0 (cat (l:=hostT ak aq an) (m:=[58]) r0 r0 (by have haf:=addrOk_fit hok; have hhl:=hostT_len hok; have hil:=Lib.itoa_length_le apt (by omega) (by omega); simp only[List.length_append,List.length_cons,List.length_nil]; omega)) ?_))))))
 refine qA r0 (fa 3 fo43_3 r0) (qB r0 (fun hsq=>lD (I apt) hsq 0 r0 one3) (qc (Str (Lib.itoa apt)) trivial r0 (fun wq hsq=>(stItoa (n:=apt) (w:=_) (hn:=(by(have haf:=addrOk_fit hok; have hhl:=hostT_len hok; have hil:=Lib.itoa_length_le apt (by omega) (by omega); first | omega | assumption | (simp; done) | (simp; omega)))) (hGp:=(hGp.up0 hsq))).mono (fun v w' h=>⟨h.1,by simpa using hsq.call0 h.2⟩)) (qA r0 (cat (l:=(hostT ak aq an)++[58]) (m:=Lib.itoa apt) r0 r0 (by have haf:=addrOk_fit hok; have hhl:=hostT_len hok; have hil:=Lib.itoa_length_le apt (by omega) (by omega); simp only[List.length_append,List.length_cons,List.length_nil]; omega)) (qA r0 (asg (v:=Str (((hostT ak aq an)++[58])++(Lib.itoa apt))) r0) (qn (fun w2 hs2=>?_))))))
 refine nN (rt (fT (Str (((hostT ak aq an)++[58])++(Lib.itoa apt))) r0 ?_))
 have e1:((hostT ak aq an)++[58])++(Lib.itoa apt)=hostT ak aq an++[58]++Lib.itoa apt:=by rfl
 exact⟨(congrArg (Str) e1),(hs2.pk [] r0)⟩

end Go.Proofs.YtjehmnojfpedjaaGreatDoor
