/-
  Part of the proofs over this seat: what each function of the program computes, function by function (the text is written by a program of this hand-in's own).
  Conditions: each theorem states its own.
-/
import Derived.Test.YtjehmnojfpedjaaGreatDoorProg
import Derived.KernelRfl
import Derived.Test.YtjehmnojfpedjaaGreatDoorPfModel
import Derived.Test.YtjehmnojfpedjaaGreatDoorPfShelf
namespace Go.Proofs.YtjehmnojfpedjaaGreatDoor
open Go.PF
set_option maxRecDepth 100000
set_option linter.unusedSimpArgs false
set_option linter.unusedVariables false

theorem ag29:aggOk Tryz.prog 29 4=true:=by kernel_rfl
theorem ag43:aggOk Tryz.prog 43 4=true:=by kernel_rfl
theorem ag45:aggOk Tryz.prog 45 5=true:=by kernel_rfl
theorem ag51:aggOk Tryz.prog 51 2=true:=by kernel_rfl
theorem fo124_0:fieldOk Tryz.prog 124 0 0=true:=by kernel_rfl
theorem fo124_1:fieldOk Tryz.prog 124 1 1=true:=by kernel_rfl
theorem fo133_0:fieldOk Tryz.prog 133 0 0=true:=by kernel_rfl
theorem fo133_1:fieldOk Tryz.prog 133 1 1=true:=by kernel_rfl
theorem fo133_2:fieldOk Tryz.prog 133 2 2=true:=by kernel_rfl
theorem fo181_1:fieldOk Tryz.prog 181 1 1=true:=by kernel_rfl
theorem fo29_0:fieldOk Tryz.prog 29 0 0=true:=by kernel_rfl
theorem fo29_1:fieldOk Tryz.prog 29 1 1=true:=by kernel_rfl
theorem fo29_2:fieldOk Tryz.prog 29 2 2=true:=by kernel_rfl
theorem fo29_3:fieldOk Tryz.prog 29 3 3=true:=by kernel_rfl
theorem fo43_0:fieldOk Tryz.prog 43 0 0=true:=by kernel_rfl
theorem fo43_1:fieldOk Tryz.prog 43 1 1=true:=by kernel_rfl
theorem fo43_2:fieldOk Tryz.prog 43 2 2=true:=by kernel_rfl
theorem fo43_3:fieldOk Tryz.prog 43 3 3=true:=by kernel_rfl
theorem fo45_0:fieldOk Tryz.prog 45 0 0=true:=by kernel_rfl
theorem fo45_1:fieldOk Tryz.prog 45 1 1=true:=by kernel_rfl
theorem fo51_0:fieldOk Tryz.prog 51 0 0=true:=by kernel_rfl
theorem fo51_1:fieldOk Tryz.prog 51 1 1=true:=by kernel_rfl
theorem ifc164:isIfcT Tryz.prog 164=true:=by kernel_rfl
theorem mixed:Tryz.prog.follows .mixedOrders=true:=by kernel_rfl
theorem one22:oneOk Tryz.prog 22=true:=by kernel_rfl
theorem one27:oneOk Tryz.prog 27=true:=by kernel_rfl
theorem one3:oneOk Tryz.prog 3=true:=by kernel_rfl
theorem one39:oneOk Tryz.prog 39=true:=by kernel_rfl
theorem one4:oneOk Tryz.prog 4=true:=by kernel_rfl
theorem one5:oneOk Tryz.prog 5=true:=by kernel_rfl
theorem one9:oneOk Tryz.prog 9=true:=by kernel_rfl
theorem s2_51:str2Ok Tryz.prog 51=true:=by kernel_rfl
theorem sl147:SlT Tryz.prog 147 9 1 16 (Str []):=SlT.mk' (by kernel_rfl) (by kernel_rfl)
theorem sl22:SlT Tryz.prog 22 3 1 8 (.int .i64 0):=SlT.mk' (by kernel_rfl) (by kernel_rfl)
theorem sl27:SlT Tryz.prog 27 51 2 32 (.agg #[Str [],Str []]):=SlT.mk' (by kernel_rfl) (by kernel_rfl)
theorem sl39:SlT Tryz.prog 39 5 1 1 (.int .u8 0):=SlT.mk' (by kernel_rfl) (by kernel_rfl)
theorem sl91:SlT Tryz.prog 91 22 1 24 (.slice none 0 0):=SlT.mk' (by kernel_rfl) (by kernel_rfl)
theorem st9:Tryz.prog.underlying 9=some .string:=by kernel_rfl
theorem tb4:Tryz.prog.underlying 4=some .bool:=by kernel_rfl
theorem ti3:Tryz.prog.underlying 3=some (.int .i64):=by kernel_rfl
theorem ti5:Tryz.prog.underlying 5=some (.int .u8):=by kernel_rfl
theorem tp197:Tryz.prog.underlying 197=some (.pointer 5):=by kernel_rfl
theorem tz29:(Tryz.prog.info? 29).bind (·.zero)=some (.agg #[.int .i64 0,.slice none 0 0,.slice none 0 0,Str []]):=by kernel_rfl
theorem tz43:(Tryz.prog.info? 43).bind (·.zero)=some (.agg #[.int .i64 0,.slice none 0 0,Str [],.int .i64 0]):=by kernel_rfl
theorem tz45:(Tryz.prog.info? 45).bind (·.zero)=some (.agg #[.int .i64 0,.int .i64 0,.slice none 0 0,Str [],.int .i64 0]):=by kernel_rfl
theorem tz51:(Tryz.prog.info? 51).bind (·.zero)=some (.agg #[Str [],Str []]):=by kernel_rfl
theorem us39:Tryz.prog.underlying 39=some (.slice 5):=by kernel_rfl
theorem sIn (x:Int) (lo:Int) (hi:Int) (w:World):Does Tryz.prog 92 [I x,I lo,I hi] w (fun v w'=>v=.bool (decide (lo≤x∧x≤hi))∧SH w w' [] []):=by
 refine fE (N:=15) Tryz.func92 r0 (by kernel_rfl) r0 ?_
 have hs0:=SH.refl w []
 refine sr (tA (.bool false) r0 (nx (tm (I x) r0 ?_)))
 refine tm (I lo) r0 (qt r0 (geq (k:=.i64) (a:=x) (b:=lo) r0 r0) (tm (.bool (decide (lo≤x))) r0 ?_))
 refine spd (p:=lo≤x) 10 r0 (fun h1=>?_) (fun h1=>?_)
 ·refine q ⟨_,rfl,rfl⟩ r0 r0 (mv (v:=I x) r0) (q ⟨_,rfl,rfl⟩ r0 r0 (mv (v:=I hi) r0) (q ⟨_,rfl,rfl⟩ r0 r0 (leq (k:=.i64) (a:=x) (b:=hi) r0 r0) (qt r0 (pt (v:=.bool (decide (x≤hi))) r0 r0) (tA (.bool (decide (x≤hi))) r0 (nn (rt ?_))))))
  refine fT (.bool (decide (x≤hi))) r0 ?_
  have e1:(decide (x≤hi))=(decide (lo≤x∧x≤hi)):=by simp[*]
  exact⟨(congrArg (Value.bool) e1),hs0⟩
 ·refine gf5 r0 (gf5 r0 (gf5 r0 (qt r0 (pf (v:=.bool false) r0 r0) (tA (.bool false) r0 (nn (rt ?_))))))
  refine fT (.bool false) r0 ?_
  have e2:false=(decide (lo≤x∧x≤hi)):=by simp[*]
  exact⟨(congrArg (Value.bool) e2),hs0⟩
theorem iWithin (x:Int) (lo:Int) (hi:Int) (w:World):Does Tryz.prog 73 [I x,I lo,I hi] w (fun v w'=>v=.bool (decide (lo≤x∧x≤hi))∧SH w w' [] []):=by
 refine fE (N:=15) Tryz.func73 r0 (by kernel_rfl) r0 ?_
 have hs0:=SH.refl w []
 refine sr (tA (.bool false) r0 (nx (tm (I x) r0 ?_)))
 refine tm (I lo) r0 (qt r0 (geq (k:=.i64) (a:=x) (b:=lo) r0 r0) (tm (.bool (decide (lo≤x))) r0 ?_))
 refine spd (p:=lo≤x) 10 r0 (fun h1=>?_) (fun h1=>?_)
 ·refine q ⟨_,rfl,rfl⟩ r0 r0 (mv (v:=I x) r0) (q ⟨_,rfl,rfl⟩ r0 r0 (mv (v:=I hi) r0) (q ⟨_,rfl,rfl⟩ r0 r0 (leq (k:=.i64) (a:=x) (b:=hi) r0 r0) (qt r0 (pt (v:=.bool (decide (x≤hi))) r0 r0) (tA (.bool (decide (x≤hi))) r0 (nn (rt ?_))))))
  refine fT (.bool (decide (x≤hi))) r0 ?_
  have e1:(decide (x≤hi))=(decide (lo≤x∧x≤hi)):=by simp[*]
  exact⟨(congrArg (Value.bool) e1),hs0⟩
 ·refine gf5 r0 (gf5 r0 (gf5 r0 (qt r0 (pf (v:=.bool false) r0 r0) (tA (.bool false) r0 (nn (rt ?_))))))
  refine fT (.bool false) r0 ?_
  have e2:false=(decide (lo≤x∧x≤hi)):=by simp[*]
  exact⟨(congrArg (Value.bool) e2),hs0⟩
theorem iBV1 (x:Int) (w:World):Does Tryz.prog 103 [I x] w (fun v w'=>v=.bool (decide (¬ (0≤x∧x≤255)))∧SH w w' [] []):=by
 refine fE (N:=6) Tryz.func103 r0 (by kernel_rfl) r0 ?_
 have hs0:=SH.refl w []
 refine sr (tA (.bool false) r0 (nx (tm (I x) r0 ?_)))
 refine cL r0 (iWithin (x:=x) (lo:=0) (hi:=255) (w:=_)) ?_
 rintro _ w1 ⟨rfl,hs1⟩
 replace hs1:=hs0.call0 hs1
 refine qt r0 (nd (p:=0≤x∧x≤255) r0) (tA (.bool (decide (¬ (0≤x∧x≤255)))) r0 (nn (rt (fT (.bool (decide (¬ (0≤x∧x≤255)))) r0 ?_))))
 exact⟨rfl,hs1⟩
theorem sBytesValid {Azs:Option Addr} {czs:Nat} (zs:List Int) (w:World) (hzs:Sl w [] 1 Azs zs.length czs (zs.map I)):Does Tryz.prog 41 [.slice Azs zs.length czs] w (fun v w'=>v=.bool (isBytes zs)∧SH w w' [] []):=by
 refine fE (N:=19) Tryz.func41 r0 (by kernel_rfl) r0 ?_
 have hs0:=SH.refl w []
 have hzs_m:zs.length≤9223372036854775807:=Nat.le_trans hzs.cap hzs.capMax
 refine sr (tA (.bool false) r0 (nn (sq (sr ?_))))
 refine tA (I 0) r0 (nn (bl (lp (σ:=Nat) (fun(k:Nat) f w'=>Hz f [(0,.slice Azs zs.length czs),(3,I (k:Int))]∧(k≤zs.length)∧(allB (zs.take k)=true)∧SH w w' [] []) (fun k=>zs.length-k) 0 ⟨(zR r0),(by simp),(by simp[allB]),hs0⟩ ?_)))
 rintro k f w1 ⟨⟨g1,rfl⟩,hk,ha,hs1⟩
 refine sq (sr (tm (I (k:Int)) r0 (tm (Z4 Azs zs czs) r0 (qt r0 (lnA (n:=zs.length) sl22 r0) (qt r0 (lss (k:=.i64) (a:=(k:Int)) (b:=(zs.length:Int)) r0 r0) (nl ?_))))))
 refine nN ?_
 refine cdd (p:=(k:Int)<(zs.length:Int)) r0 (fun h1=>?_) (fun h1=>?_)
 ·refine sk (nN (sq (bl (sr (tm (Z4 Azs zs czs) r0 (tm (I (k:Int)) r0 ?_))))))
  refine ixw1 k sl22 r0 r0 hzs (by omega) (getm I 0 (by omega)) trivial r0 (fun a1 ha1=>?_)
  refine qt r0 (lda (v:=I (zs.getD k 0)) hs1 ha1 (fun _ h=>h) r0 r0 one3) (cL r0 (sIn (x:=zs.getD k 0) (lo:=0) (hi:=255) (w:=_)) ?_)
  rintro _ w2 ⟨rfl,hs2⟩
  replace hs2:=hs1.call0 hs2
  refine qt r0 (nd (p:=0≤(zs.getD k 0)∧(zs.getD k 0)≤255) r0) (nn ?_)
  refine cdd (p:=¬ (0≤(zs.getD k 0)∧(zs.getD k 0)≤255)) r0 (fun h2=>?_) (fun h2=>?_)
  ·refine sr (tA (.bool false) r0 (nn ?_))
   refine rt (bR (tR (tR (bR (tR ?_)))))
   refine fT (.bool false) r0 ?_
   have e1:false=isBytes zs:=by exact bytes_no1 (k:=k) (by omega) (by simpa using h2)
   exact⟨(congrArg (Value.bool) e1),hs2⟩
  ·refine sk (bN (nN (rg (tm (I (k:Int)) r0 (qt r0 (add (a:=(k:Int)) (b:=1) r0 r0 (by exact⟨by omega,by omega⟩)) (tA (I ((k:Int)+1)) r0 (nl ?_)))))))
   refine nN ?_
   refine⟨(k+1),⟨(zR r0),(by omega),(allB_step (by omega) ha (by simpa using h2)),hs2⟩,?_⟩
   omega
 ·refine ex (tE (tE (bE ?_)))
  refine nN (sr (tm (Z4 Azs zs czs) r0 (qt r0 (lnA (n:=zs.length) sl22 r0) (qt r0 (leq (k:=.i64) (a:=(zs.length:Int)) (b:=120) r0 r0) (tA (.bool (decide ((zs.length:Int)≤120))) r0 (nl ?_))))))
  refine nN (rt (fT (.bool (decide ((zs.length:Int)≤120))) r0 ?_))
  have e2:(decide ((zs.length:Int)≤120))=isBytes zs:=by exact bytes_yes (k:=k) (by omega) ha
  exact⟨(congrArg (Value.bool) e2),hs1⟩
theorem slIndexFunc (p:Int→Bool) {Azs:Option Addr} {czs:Nat} (zs:List Int) (kf:FuncId) (w:World) (hzs:Sl w [] 1 Azs zs.length czs (zs.map I)) (hf: ∀ (x:Int) (w:World),Does Tryz.prog kf [.int .i64 x] w (fun v w'=>v=.bool (p x)∧SH w w' [] [])):Does Tryz.prog 133 [.slice Azs zs.length czs,.func (.func kf) #[] #[]] w (fun v w'=>v=.int .i64 (idxF p zs)∧SH w w' [] []):=by
 refine fE (N:=19) Tryz.func133 r0 (by kernel_rfl) r0 ?_
 have hs0:=SH.refl w []
 have hzs_m:zs.length≤9223372036854775807:=Nat.le_trans hzs.cap hzs.capMax
 refine sr (tA (I 0) r0 (nn (sq (sr ?_))))
 refine tm (Z4 Azs zs czs) r0 (qt r0 (lnA (n:=zs.length) sl22 r0) (tm (I 0) r0 (nn (bl (lp (σ:=Nat) (fun(k:Nat) f w'=>Has f [(0,.slice Azs zs.length czs),(1,.func (.func kf) #[] #[]),(7,I (zs.length:Int)),(8,I (k:Int))]∧(k≤zs.length)∧(∀ j,j<k→p (zs.getD j 0)=false)∧SH w w' [] []) (fun k=>zs.length-k) 0 ⟨(hA r0),(by simp),(by intro j hj; omega),hs0⟩ ?_)))))
 rintro k f w1 ⟨hf,hk,hn,hs1⟩
 obtain ⟨g1,rfl⟩:=has_upd hf
 clear hf
 refine sr (qt r0 (lss (k:=.i64) (a:=(k:Int)) (b:=(zs.length:Int)) r0 r0) (nn (sq ?_)))
 refine cdd (p:=(k:Int)<(zs.length:Int)) r0 (fun h1=>?_) (fun h1=>?_)
 ·refine sk (nN (sq (bl (sr (tm (I (k:Int)) r0 (tA (I (k:Int)) r0 ?_))))))
  refine nx (tm (.func (.func kf) #[] #[]) r0 (tm (Z4 Azs zs czs) r0 (tm (I (k:Int)) r0 (ixw1 k sl22 r0 r0 hzs (by omega) (getm I 0 (by omega)) trivial r0 (fun a1 ha1=>?_)))))
  refine qt r0 (lda (v:=I (zs.getD k 0)) hs1 ha1 (fun _ h=>h) r0 r0 one3) (clv (k:=kf) trivial r0 r0 (hf (zs.getD k 0) _) ?_)
  rintro _ w2 ⟨rfl,hs2⟩
  replace hs2:=hs1.call0 hs2
  refine nn ?_
  refine cd (b:=p (zs.getD k 0)) r0 (fun h2=>?_) (fun h2=>?_)
  ·refine sr (tm (I (k:Int)) r0 (tA (I (k:Int)) r0 (nn ?_)))
   refine rt (bR (tR (tR (bR (tR ?_)))))
   refine fT (I (k:Int)) r0 ?_
   have e1:(k:Int)=idxF p zs:=by exact idxF_eq (by omega) hn h2
   exact⟨(congrArg (Value.int .i64) e1),hs2⟩
  ·refine sk (bN (nN (rg (qt r0 (add (a:=(k:Int)) (b:=1) r0 r0 (by exact⟨by omega,by omega⟩)) (tm (I ((k:Int)+1)) r0 (nn ?_))))))
   refine⟨(k+1),⟨(hA r0),(by omega),(by intro j hj; rcases Nat.lt_succ_iff_lt_or_eq.1 hj with h | h; exact hn j h; subst h; exact h2),hs2⟩,?_⟩
   omega
 ·refine ex (tE (tE (bE ?_)))
  refine nN (sr (tA (I (-1)) r0 (nn (rt (fT (I (-1)) r0 ?_)))))
  have e2:(-1)=idxF p zs:=by exact idxF_none (fun j hj=>hn j (by omega))
  exact⟨(congrArg (Value.int .i64) e2),hs1⟩
theorem slContainsFunc (p:Int→Bool) {Azs:Option Addr} {czs:Nat} (zs:List Int) (kf:FuncId) (w:World) (hzs:Sl w [] 1 Azs zs.length czs (zs.map I)) (hf: ∀ (x:Int) (w:World),Does Tryz.prog kf [.int .i64 x] w (fun v w'=>v=.bool (p x)∧SH w w' [] [])):Does Tryz.prog 75 [.slice Azs zs.length czs,.func (.func kf) #[] #[]] w (fun v w'=>v=.bool (zs.any p)∧SH w w' [] []):=by
 refine fE (N:=9) Tryz.func75 r0 (by kernel_rfl) r0 ?_
 have hs0:=SH.refl w []
 have hzs_m:zs.length≤9223372036854775807:=Nat.le_trans hzs.cap hzs.capMax
 refine sr (tA (.bool false) r0 (nx (tm (Z4 Azs zs czs) r0 ?_)))
 refine tm (.func (.func kf) #[] #[]) r0 (cL r0 (slIndexFunc (p:=p) (Azs:=Azs) (czs:=czs) (zs:=zs) (kf:=kf) (w:=_) (hzs:=(hzs.up0 hs0)) (hf:=hf)) ?_)
 rintro _ w1 ⟨rfl,hs1⟩
 replace hs1:=hs0.call0 hs1
 refine qt r0 (geq (k:=.i64) (a:=idxF p zs) (b:=0) r0 r0) (tA (.bool (decide ((0:Int)≤(idxF p zs)))) r0 (nn (rt (fT (.bool (decide ((0:Int)≤(idxF p zs)))) r0 ?_))))
 have e1:(decide ((0:Int)≤(idxF p zs)))=zs.any p:=by exact idxF_any p zs
 exact⟨(congrArg (Value.bool) e1),hs1⟩
theorem iBytesValid {Azs:Option Addr} {czs:Nat} (zs:List Int) (w:World) (hzs:Sl w [] 1 Azs zs.length czs (zs.map I)):Does Tryz.prog 46 [.slice Azs zs.length czs] w (fun v w'=>v=.bool (isBytes zs)∧SH w w' [] []):=by
 refine fE (N:=11) Tryz.func46 r0 (by kernel_rfl) r0 ?_
 have hs0:=SH.refl w []
 have hzs_m:zs.length≤9223372036854775807:=Nat.le_trans hzs.cap hzs.capMax
 refine sr (tA (.bool false) r0 (nx (tm (Z4 Azs zs czs) r0 ?_)))
 refine qt r0 (lnA (n:=zs.length) sl22 r0) (qt r0 (leq (k:=.i64) (a:=(zs.length:Int)) (b:=120) r0 r0) (tm (.bool (decide ((zs.length:Int)≤120))) r0 ?_))
 refine spd (p:=(zs.length:Int)≤120) 6 r0 (fun h1=>?_) (fun h1=>?_)
 ·refine q ⟨_,rfl,rfl⟩ r0 r0 (mv (v:=.slice Azs zs.length czs) r0) (cl ⟨_,rfl,rfl⟩ r0 (slContainsFunc (p:=(fun x=>(decide (¬ (0≤x∧x≤255))))) (Azs:=Azs) (czs:=czs) (zs:=zs) (kf:=103) (w:=_) (hzs:=(hzs.up0 hs0)) (hf:=(fun x w=>iBV1 x w))) ?_)
  rintro _ w1 ⟨rfl,hs1⟩
  replace hs1:=hs0.call0 hs1
  refine q ⟨_,rfl,rfl⟩ r0 r0 (nt (b:=zs.any (fun x=>(decide (¬ (0≤x∧x≤255))))) r0) (qt r0 (pt (v:=.bool (!(zs.any (fun x=>(decide (¬ (0≤x∧x≤255))))))) r0 r0) (tA (.bool (!(zs.any (fun x=>(decide (¬ (0≤x∧x≤255))))))) r0 (nn (rt (fT (.bool (!(zs.any (fun x=>(decide (¬ (0≤x∧x≤255))))))) r0 ?_)))))
  have e1:(!(zs.any (fun x=>(decide (¬ (0≤x∧x≤255))))))=isBytes zs:=by rw[← isBytes_not]; simp[*]
  exact⟨(congrArg (Value.bool) e1),hs1⟩
 ·refine gf5 r0 (gf5 r0 (gf5 r0 (qt r0 (pf (v:=.bool false) r0 r0) (tA (.bool false) r0 (nn (rt ?_))))))
  refine fT (.bool false) r0 ?_
  have e2:false=isBytes zs:=by rw[← isBytes_not]; simp[*]
  exact⟨(congrArg (Value.bool) e2),hs0⟩
theorem sameBytes {Axs:Option Addr} {cxs:Nat} (xs:List Int) {Abs:Option Addr} {cbs:Nat} (bs:List Int) (w:World) (hxs:Sl w [] 1 Axs xs.length cxs (xs.map I)) (hbs:Sl w [] 1 Abs bs.length cbs (bs.map I)):Does Tryz.prog 23 [.slice Axs xs.length cxs,.slice Abs bs.length cbs] w (fun v w'=>v=.bool (decide (xs=bs))∧SH w w' [] []):=by
 refine fE (N:=26) Tryz.func23 r0 (by kernel_rfl) r0 ?_
 have hs0:=SH.refl w []
 have hxs_m:xs.length≤9223372036854775807:=Nat.le_trans hxs.cap hxs.capMax
 have hbs_m:bs.length≤9223372036854775807:=Nat.le_trans hbs.cap hbs.capMax
 refine sr (tA (.bool false) r0 (nn (sq (sr ?_))))
 refine tm (Z4 Axs xs cxs) r0 (qt r0 (lnA (n:=xs.length) sl22 r0) (tm (Z4 Abs bs cbs) r0 (qt r0 (lnA (n:=bs.length) sl22 r0) (qt r0 (nei (k:=.i64) (a:=(xs.length:Int)) (b:=(bs.length:Int)) r0 r0) (nn ?_)))))
 refine cdd (p:=(xs.length:Int)≠(bs.length:Int)) r0 (fun h1=>?_) (fun h1=>?_)
 ·refine sr (tA (.bool false) r0 (nn (rt (tR ?_))))
  refine fT (.bool false) r0 ?_
  have e1:false=(decide (xs=bs)):=by simp; intro h; subst h; exact h1 r0
  exact⟨(congrArg (Value.bool) e1),hs0⟩
 ·refine sk (nN (sq (sr (tA (I 0) r0 (nn ?_)))))
  refine bl (lp (σ:=Nat) (fun(k:Nat) f w'=>Hz f [(0,.slice Axs xs.length cxs),(1,.slice Abs bs.length cbs),(5,I (k:Int))]∧(xs.length=bs.length)∧(k≤xs.length)∧(xs.take k=bs.take k)∧SH w w' [] []) (fun k=>xs.length-k) 0 ⟨(zR r0),(by omega),(by simp),(by simp),hs0⟩ ?_)
  rintro k f w1 ⟨⟨g1,rfl⟩,hl,hk,ha,hs1⟩
  refine sq (sr (tm (I (k:Int)) r0 (tm (Z4 Axs xs cxs) r0 (qt r0 (lnA (n:=xs.length) sl22 r0) (qt r0 (lss (k:=.i64) (a:=(k:Int)) (b:=(xs.length:Int)) r0 r0) (nl ?_))))))
  refine nN ?_
  refine cdd (p:=(k:Int)<(xs.length:Int)) r0 (fun h2=>?_) (fun h2=>?_)
  ·refine sk (nN (sq (bl (sq (rq (fun w'=>SH w w' [] []) mixed (by kernel_rfl) hs1.drew (qA r0 (mv (v:=.slice Axs xs.length cxs) r0) (qA r0 (mv (v:=I (k:Int)) r0) ?_)))))))
   refine ixq1 k sl22 r0 r0 hxs (by omega) (getm I 0 (by omega)) trivial r0 (fun a1 ha1=>?_)
   refine qB r0 (fun hsq=>lda (v:=I (xs.getD k 0)) hsq ha1 (fun _ h=>h) r0 r0 one3) (qA r0 (mv (v:=.slice Abs bs.length cbs) r0) (qA r0 (mv (v:=I (k:Int)) r0) (ixq1 k sl22 r0 r0 hbs (by omega) (getm I 0 (by omega)) trivial r0 (fun a2 ha2=>?_))))
   refine qB r0 (fun hsq=>lda (v:=I (bs.getD k 0)) hsq ha2 (fun _ h=>h) r0 r0 one3) (qA r0 (nei (k:=.i64) (a:=xs.getD k 0) (b:=bs.getD k 0) r0 r0) (qn (fun w2 hs2=>?_)))
   refine nN ?_
   refine cdd (p:=(xs.getD k 0)≠(bs.getD k 0)) r0 (fun h3=>?_) (fun h3=>?_)
   ·refine sr (tA (.bool false) r0 (nn ?_))
    refine rt (bR (tR (tR (bR (tR ?_)))))
    refine fT (.bool false) r0 ?_
    have e2:false=(decide (xs=bs)):=by simp; intro h; subst h; exact h3 r0
    exact⟨(congrArg (Value.bool) e2),hs2⟩
   ·refine sk (bN (nN (rg (tm (I (k:Int)) r0 (qt r0 (add (a:=(k:Int)) (b:=1) r0 r0 (by exact⟨by omega,by omega⟩)) (tA (I ((k:Int)+1)) r0 (nl ?_)))))))
    refine nN ?_
    refine⟨(k+1),⟨(zR r0),(hl),(by omega),(take_succ_eq (by omega) (by omega) ha (by simpa using h3)),hs2⟩,?_⟩
    omega
  ·refine ex (tE (tE (bE ?_)))
   refine nN (sr (tA (.bool true) r0 (nn (rt (fT (.bool true) r0 ?_)))))
   have e3:true=(decide (xs=bs)):=by simp; exact take_all_eq hl (by omega) ha
   exact⟨(congrArg (Value.bool) e3),hs1⟩
theorem slIndexByte (l:List UInt8) (c:UInt8) (w:World):Does Tryz.prog 192 [Str l,.int .u8 (c.toNat:Int)] w (fun v w'=>v=.int .i64 (idxB l c)∧SH w w' [] []):=by
 refine fE (N:=8) Tryz.func192 r0 (by kernel_rfl) r0 ?_
 have hs0:=SH.refl w []
 refine sr (tA (I 0) r0 (nx (tm (Str l) r0 ?_)))
 refine tm (.int .u8 (c.toNat:Int)) r0 (qt r0 (ibs (l:=l) (c:=c) Tryz.func211 (by kernel_rfl) r0 (by kernel_rfl) (by kernel_rfl) r0 r0) (tA (I (idxB l c)) r0 (nn (rt (fT (I (idxB l c)) r0 ?_)))))
 exact⟨rfl,hs0⟩
theorem stIndexByte (l:List UInt8) (c:UInt8) (w:World):Does Tryz.prog 177 [Str l,.int .u8 (c.toNat:Int)] w (fun v w'=>v=.int .i64 (idxB l c)∧SH w w' [] []):=by
 refine fE (N:=8) Tryz.func177 r0 (by kernel_rfl) r0 ?_
 have hs0:=SH.refl w []
 refine sr (tA (I 0) r0 (nx (tm (Str l) r0 ?_)))
 refine tm (.int .u8 (c.toNat:Int)) r0 (cL r0 (slIndexByte (l:=l) (c:=c) (w:=_)) ?_)
 rintro _ w1 ⟨rfl,hs1⟩
 replace hs1:=hs0.call0 hs1
 refine tA (I (idxB l c)) r0 (nn (rt (fT (I (idxB l c)) r0 ?_)))
 exact⟨rfl,hs1⟩
theorem pick {rb:Nat} {Ab:Option Addr} {cb:Nat} {bs:List UInt8} {p:Nat} (n:Int) (w:World) (hr:w.heap[rb]?=some (.cells [.slice Ab bs.length cb,.int .i64 (p:Int)].toArray 124 (0,0))) (hb:Sl w [rb] 1 Ab bs.length cb (bs.map U)) (hbn:bs.length≤2000) (hp:p≤1099511627776):Does Tryz.prog 57 [pB rb,I n] w (fun v w'=>∃ r:Int,∃ q:Nat,v=.int .i64 r∧(0≤r∧(r<n∨r=0))∧(q≤p+1)∧SH w w' [rb] [.blk rb 124 [.slice Ab bs.length cb,I (q:Int)]]):=by
 refine fE (N:=99) Tryz.func57 r0 (by kernel_rfl) r0 ?_
 have hs0:=SH.entry1 hr
 refine sr (tA (I 0) r0 (nx (tm (pB rb) r0 ?_)))
 refine tm (pB rb) r0 (tn r0 (qt r0 (fa 1 fo124_1 r0) (qt r0 (lD (I (p:Int)) hs0 0 r0 one3) (qt r0 (add (a:=(p:Int)) (b:=1) r0 r0 (by have h1_:=u8_bd (bs.getD ((p+1-1) % bs.length) 0); have h2_:=u8_bd (bs.getD (((p+1-1)*7+3) % bs.length) 0); have h3_:=div_bd (p+1-1) bs.length; exact⟨by omega,by omega⟩)) (tn r0 (qt r0 (fa 1 fo124_1 r0) (sT (I ((p:Int)+1)) hs0 0 r0 one3 (fun w1 hs1=>?_))))))))
 refine nn (sq (sr (tm (I n) r0 (qt r0 (lss (k:=.i64) (a:=n) (b:=1) r0 r0) (tm (.bool (decide (n<1))) r0 ?_)))))
 refine spd (p:=n<1) 17 r0 (fun h1=>?_) (fun h1=>?_)
 ·refine gt5 r0 (gt5 r0 (gt5 r0 (gt5 r0 (gt5 r0 (gt5 r0 (qt r0 (pt (v:=.bool true) r0 r0) (nl ?_)))))))
  refine nN (cdt r0 (sr (tA (I 0) r0 (nn (rt (tR ?_))))))
  refine fT (I 0) r0 ?_
  exact⟨0,p+1,rfl,(by simp),(by omega),hs1⟩
 ·refine q ⟨_,rfl,rfl⟩ r0 r0 (mv (v:=pB rb) r0) (q ⟨_,rfl,rfl⟩ r0 r0 (nc r0) (q ⟨_,rfl,rfl⟩ r0 r0 (fa 0 fo124_0 r0) (q ⟨_,rfl,rfl⟩ r0 r0 (lD (.slice Ab bs.length cb) hs1 0 r0 one39) (q ⟨_,rfl,rfl⟩ r0 r0 (lnA (n:=bs.length) sl39 r0) (q ⟨_,rfl,rfl⟩ r0 r0 (eqi (k:=.i64) (a:=(bs.length:Int)) (b:=0) r0 r0) (qt r0 (pf (v:=.bool (decide ((bs.length:Int)=0))) r0 r0) (nl ?_)))))))
  refine nN ?_
  refine cdd (p:=(bs.length:Int)=0) r0 (fun h2=>?_) (fun h2=>?_)
  ·refine sr (tA (I 0) r0 (nn (rt (tR ?_))))
   refine fT (I 0) r0 ?_
   exact⟨0,p+1,rfl,(by simp),(by omega),hs1⟩
  ·refine sk (nN (sr (tm (pB rb) r0 (tn r0 (qt r0 (fa 1 fo124_1 r0) (qt r0 (lD (I ((p:Int)+1)) hs1 0 r0 one3) ?_))))))
   refine qt r0 (subN (a:=p+1) (b:=1) r0 r0 (by omega) (by omega)) (tA (I (((p+1)-1:Nat):Int)) r0 (nn (sq (sr (tm (I (((p+1)-1:Nat):Int)) r0 ?_)))))
   refine tm (pB rb) r0 (tn r0 (qt r0 (fa 0 fo124_0 r0) (qt r0 (lD (.slice Ab bs.length cb) hs1 0 r0 one39) (qt r0 (lnA (n:=bs.length) sl39 r0) (qt r0 (lss (k:=.i64) (a:=(((p+1)-1:Nat):Int)) (b:=(bs.length:Int)) r0 r0) (nn ?_))))))
   refine cdd (p:=(((p+1)-1:Nat):Int)<(bs.length:Int)) r0 (fun h3=>?_) (fun h3=>?_)
   ·refine sr (tm (pB rb) r0 (tn r0 (qt r0 (fa 0 fo124_0 r0) (qt r0 (lD (.slice Ab bs.length cb) hs1 0 r0 one39) (tm (I (((p+1)-1:Nat):Int)) r0 (ixw1 ((p+1)-1) sl39 r0 r0 hb (by omega) (getm U 0 (by omega)) trivial r0 (fun a1 ha1=>?_)))))))
    refine qt r0 (lda (v:=.int .u8 (((bs.getD ((p+1)-1) 0).toNat:Nat):Int)) hs1 ha1 (fun _ h=>h) r0 r0 one5) (qt r0 (cvI (a:=(((bs.getD ((p+1)-1) 0).toNat:Nat):Int)) (s:=.u8) ti5 ti3 r0 (by have:=u8_bd ((bs.getD ((p+1)-1) 0)); exact⟨by omega,by omega⟩)) (tm (I n) r0 (qt r0 (rem (a:=(((bs.getD ((p+1)-1) 0).toNat:Nat):Int)) (b:=n) r0 r0 (by have h1_:=u8_bd (bs.getD ((p+1-1) % bs.length) 0); have h2_:=u8_bd (bs.getD (((p+1-1)*7+3) % bs.length) 0); have h3_:=div_bd (p+1-1) bs.length; omega) (by omega)) (tA (I ((((bs.getD ((p+1)-1) 0).toNat:Nat):Int) % n)) r0 (nn (rt (tR ?_)))))))
    refine fT (I ((((bs.getD ((p+1)-1) 0).toNat:Nat):Int) % n)) r0 ?_
    exact⟨(((bs.getD ((p+1)-1) 0).toNat:Nat):Int) % n,p+1,rfl,(mod_pos (by omega)),(by omega),hs1⟩
   ·refine sk (nN (sq (rq (fun w'=>SH w w' [rb] [.blk rb 124 [.slice Ab bs.length cb,I ((p:Int)+1)]]) mixed (by kernel_rfl) hs1.drew (qA r0 (mv (v:=pB rb) r0) (qA r0 (nc r0) (qA r0 (fa 0 fo124_0 r0) (qB r0 (fun hsq=>lD (.slice Ab bs.length cb) hsq 0 r0 one39) ?_)))))))
    refine qA r0 (mv (v:=I (((p+1)-1:Nat):Int)) r0) (qA r0 (mv (v:=pB rb) r0) (qA r0 (nc r0) (qA r0 (fa 0 fo124_0 r0) (qB r0 (fun hsq=>lD (.slice Ab bs.length cb) hsq 0 r0 one39) (qA r0 (lnA (n:=bs.length) sl39 r0) (qA r0 (rem (a:=(((p+1)-1:Nat):Int)) (b:=(bs.length:Int)) r0 r0 (by have h1_:=u8_bd (bs.getD ((p+1-1) % bs.length) 0); have h2_:=u8_bd (bs.getD (((p+1-1)*7+3) % bs.length) 0); have h3_:=div_bd (p+1-1) bs.length; omega) (by omega)) (ixq1 (((p+1)-1) % bs.length) sl39 r0 r0 hb (by exact Nat.mod_lt _ (by omega)) (getm U 0 (by exact Nat.mod_lt _ (by omega))) trivial r0 (fun a2 ha2=>?_))))))))
    refine qB r0 (fun hsq=>lda (v:=.int .u8 (((bs.getD (((p+1)-1) % bs.length) 0).toNat:Nat):Int)) hsq ha2 (fun _ h=>h) r0 r0 one5) (qA r0 (cvI (a:=(((bs.getD (((p+1)-1) % bs.length) 0).toNat:Nat):Int)) (s:=.u8) ti5 ti3 r0 (by have:=u8_bd ((bs.getD (((p+1)-1) % bs.length) 0)); exact⟨by omega,by omega⟩)) (qA r0 (mul (a:=(((bs.getD (((p+1)-1) % bs.length) 0).toNat:Nat):Int)) (b:=131) r0 r0 (by have h1_:=u8_bd (bs.getD ((p+1-1) % bs.length) 0); have h2_:=u8_bd (bs.getD (((p+1-1)*7+3) % bs.length) 0); have h3_:=div_bd (p+1-1) bs.length; exact⟨by omega,by omega⟩)) (qA r0 (mv (v:=pB rb) r0) (qA r0 (nc r0) (qA r0 (fa 0 fo124_0 r0) (qB r0 (fun hsq=>lD (.slice Ab bs.length cb) hsq 0 r0 one39) (qA r0 (mv (v:=I (((p+1)-1:Nat):Int)) r0) ?_)))))))
    refine qA r0 (mul (a:=(((p+1)-1:Nat):Int)) (b:=7) r0 r0 (by have h1_:=u8_bd (bs.getD ((p+1-1) % bs.length) 0); have h2_:=u8_bd (bs.getD (((p+1-1)*7+3) % bs.length) 0); have h3_:=div_bd (p+1-1) bs.length; exact⟨by omega,by omega⟩)) (qA r0 (add (a:=(((p+1)-1:Nat):Int)*7) (b:=3) r0 r0 (by have h1_:=u8_bd (bs.getD ((p+1-1) % bs.length) 0); have h2_:=u8_bd (bs.getD (((p+1-1)*7+3) % bs.length) 0); have h3_:=div_bd (p+1-1) bs.length; exact⟨by omega,by omega⟩)) (qA r0 (mv (v:=pB rb) r0) (qA r0 (nc r0) (qA r0 (fa 0 fo124_0 r0) (qB r0 (fun hsq=>lD (.slice Ab bs.length cb) hsq 0 r0 one39) (qA r0 (lnA (n:=bs.length) sl39 r0) (qA r0 (rem (a:=((((p+1)-1:Nat):Int)*7)+3) (b:=(bs.length:Int)) r0 r0 (by have h1_:=u8_bd (bs.getD ((p+1-1) % bs.length) 0); have h2_:=u8_bd (bs.getD (((p+1-1)*7+3) % bs.length) 0); have h3_:=div_bd (p+1-1) bs.length; omega) (by omega)) ?_)))))))
    refine ixq1 (((((p+1)-1)*7)+3) % bs.length) sl39 r0 r0 hb (by exact Nat.mod_lt _ (by omega)) (getm U 0 (by exact Nat.mod_lt _ (by omega))) trivial r0 (fun a3 ha3=>?_)
    refine qB r0 (fun hsq=>lda (v:=.int .u8 (((bs.getD (((((p+1)-1)*7)+3) % bs.length) 0).toNat:Nat):Int)) hsq ha3 (fun _ h=>h) r0 r0 one5) (qA r0 (cvI (a:=(((bs.getD (((((p+1)-1)*7)+3) % bs.length) 0).toNat:Nat):Int)) (s:=.u8) ti5 ti3 r0 (by have:=u8_bd ((bs.getD (((((p+1)-1)*7)+3) % bs.length) 0)); exact⟨by omega,by omega⟩)) (qA r0 (mul (a:=(((bs.getD (((((p+1)-1)*7)+3) % bs.length) 0).toNat:Nat):Int)) (b:=1117) r0 r0 (by have h1_:=u8_bd (bs.getD ((p+1-1) % bs.length) 0); have h2_:=u8_bd (bs.getD (((p+1-1)*7+3) % bs.length) 0); have h3_:=div_bd (p+1-1) bs.length; exact⟨by omega,by omega⟩)) (qA r0 (add (a:=(((bs.getD (((p+1)-1) % bs.length) 0).toNat:Nat):Int)*131) (b:=(((bs.getD (((((p+1)-1)*7)+3) % bs.length) 0).toNat:Nat):Int)*1117) r0 r0 (by have h1_:=u8_bd (bs.getD ((p+1-1) % bs.length) 0); have h2_:=u8_bd (bs.getD (((p+1-1)*7+3) % bs.length) 0); have h3_:=div_bd (p+1-1) bs.length; exact⟨by omega,by omega⟩)) (qA r0 (mv (v:=I (((p+1)-1:Nat):Int)) r0) (qA r0 (mul (a:=(((p+1)-1:Nat):Int)) (b:=29) r0 r0 (by have h1_:=u8_bd (bs.getD ((p+1-1) % bs.length) 0); have h2_:=u8_bd (bs.getD (((p+1-1)*7+3) % bs.length) 0); have h3_:=div_bd (p+1-1) bs.length; exact⟨by omega,by omega⟩)) (qA r0 (add (a:=((((bs.getD (((p+1)-1) % bs.length) 0).toNat:Nat):Int)*131)+((((bs.getD (((((p+1)-1)*7)+3) % bs.length) 0).toNat:Nat):Int)*1117)) (b:=(((p+1)-1:Nat):Int)*29) r0 r0 (by have h1_:=u8_bd (bs.getD ((p+1-1) % bs.length) 0); have h2_:=u8_bd (bs.getD (((p+1-1)*7+3) % bs.length) 0); have h3_:=div_bd (p+1-1) bs.length; exact⟨by omega,by omega⟩)) (qA r0 (mv (v:=I (((p+1)-1:Nat):Int)) r0) ?_)))))))
    refine qA r0 (mv (v:=pB rb) r0) (qA r0 (nc r0) (qA r0 (fa 0 fo124_0 r0) (qB r0 (fun hsq=>lD (.slice Ab bs.length cb) hsq 0 r0 one39) (qA r0 (lnA (n:=bs.length) sl39 r0) (qA r0 (quo (a:=(((p+1)-1:Nat):Int)) (b:=(bs.length:Int)) r0 r0 (by have h1_:=u8_bd (bs.getD ((p+1-1) % bs.length) 0); have h2_:=u8_bd (bs.getD (((p+1-1)*7+3) % bs.length) 0); have h3_:=div_bd (p+1-1) bs.length; omega) (by have h1_:=u8_bd (bs.getD ((p+1-1) % bs.length) 0); have h2_:=u8_bd (bs.getD (((p+1-1)*7+3) % bs.length) 0); have h3_:=div_bd (p+1-1) bs.length; omega) (by have h1_:=u8_bd (bs.getD ((p+1-1) % bs.length) 0); have h2_:=u8_bd (bs.getD (((p+1-1)*7+3) % bs.length) 0); have h3_:=div_bd (p+1-1) bs.length; omega)) (qA r0 (mul (a:=(((p+1)-1:Nat):Int) / (bs.length:Int)) (b:=53) r0 r0 (by have h1_:=u8_bd (bs.getD ((p+1-1) % bs.length) 0); have h2_:=u8_bd (bs.getD (((p+1-1)*7+3) % bs.length) 0); have h3_:=div_bd (p+1-1) bs.length; exact⟨by omega,by omega⟩)) (qA r0 (add (a:=(((((bs.getD (((p+1)-1) % bs.length) 0).toNat:Nat):Int)*131)+((((bs.getD (((((p+1)-1)*7)+3) % bs.length) 0).toNat:Nat):Int)*1117))+((((p+1)-1:Nat):Int)*29)) (b:=((((p+1)-1:Nat):Int) / (bs.length:Int))*53) r0 r0 (by have h1_:=u8_bd (bs.getD ((p+1-1) % bs.length) 0); have h2_:=u8_bd (bs.getD (((p+1-1)*7+3) % bs.length) 0); have h3_:=div_bd (p+1-1) bs.length; exact⟨by omega,by omega⟩)) ?_)))))))
    refine qA r0 (asg (v:=I (((((((bs.getD (((p+1)-1) % bs.length) 0).toNat:Nat):Int)*131)+((((bs.getD (((((p+1)-1)*7)+3) % bs.length) 0).toNat:Nat):Int)*1117))+((((p+1)-1:Nat):Int)*29))+(((((p+1)-1:Nat):Int) / (bs.length:Int))*53))) r0) (qn (fun w2 hs2=>?_))
    refine nN (sr (tm (I (((((((bs.getD (((p+1)-1) % bs.length) 0).toNat:Nat):Int)*131)+((((bs.getD (((((p+1)-1)*7)+3) % bs.length) 0).toNat:Nat):Int)*1117))+((((p+1)-1:Nat):Int)*29))+(((((p+1)-1:Nat):Int) / (bs.length:Int))*53))) r0 (tm (I (((((((bs.getD (((p+1)-1) % bs.length) 0).toNat:Nat):Int)*131)+((((bs.getD (((((p+1)-1)*7)+3) % bs.length) 0).toNat:Nat):Int)*1117))+((((p+1)-1:Nat):Int)*29))+(((((p+1)-1:Nat):Int) / (bs.length:Int))*53))) r0 (qt r0 (quo (a:=((((((bs.getD (((p+1)-1) % bs.length) 0).toNat:Nat):Int)*131)+((((bs.getD (((((p+1)-1)*7)+3) % bs.length) 0).toNat:Nat):Int)*1117))+((((p+1)-1:Nat):Int)*29))+(((((p+1)-1:Nat):Int) / (bs.length:Int))*53)) (b:=64) r0 r0 (by have h1_:=u8_bd (bs.getD ((p+1-1) % bs.length) 0); have h2_:=u8_bd (bs.getD (((p+1-1)*7+3) % bs.length) 0); have h3_:=div_bd (p+1-1) bs.length; omega) (by have h1_:=u8_bd (bs.getD ((p+1-1) % bs.length) 0); have h2_:=u8_bd (bs.getD (((p+1-1)*7+3) % bs.length) 0); have h3_:=div_bd (p+1-1) bs.length; omega) (by have h1_:=u8_bd (bs.getD ((p+1-1) % bs.length) 0); have h2_:=u8_bd (bs.getD (((p+1-1)*7+3) % bs.length) 0); have h3_:=div_bd (p+1-1) bs.length; omega)) (qt r0 (xr (a:=(((((bs.getD (((p+1)-1) % bs.length) 0).toNat)*131)+(((bs.getD (((((p+1)-1)*7)+3) % bs.length) 0).toNat)*1117))+(((p+1)-1)*29))+((((p+1)-1) / bs.length)*53)) (b:=((((((bs.getD (((p+1)-1) % bs.length) 0).toNat)*131)+(((bs.getD (((((p+1)-1)*7)+3) % bs.length) 0).toNat)*1117))+(((p+1)-1)*29))+((((p+1)-1) / bs.length)*53)) / 64) r0 r0 (by have h1_:=u8_bd (bs.getD ((p+1-1) % bs.length) 0); have h2_:=u8_bd (bs.getD (((p+1-1)*7+3) % bs.length) 0); have h3_:=div_bd (p+1-1) bs.length; omega) (by have h1_:=u8_bd (bs.getD ((p+1-1) % bs.length) 0); have h2_:=u8_bd (bs.getD (((p+1-1)*7+3) % bs.length) 0); have h3_:=div_bd (p+1-1) bs.length; omega)) (tA (I ((((((((bs.getD (((p+1)-1) % bs.length) 0).toNat)*131)+(((bs.getD (((((p+1)-1)*7)+3) % bs.length) 0).toNat)*1117))+(((p+1)-1)*29))+((((p+1)-1) / bs.length)*53)) ^^^ (((((((bs.getD (((p+1)-1) % bs.length) 0).toNat)*131)+(((bs.getD (((((p+1)-1)*7)+3) % bs.length) 0).toNat)*1117))+(((p+1)-1)*29))+((((p+1)-1) / bs.length)*53)) / 64):Nat):Int)) r0 ?_))))))
    refine nx (tm (I ((((((((bs.getD (((p+1)-1) % bs.length) 0).toNat)*131)+(((bs.getD (((((p+1)-1)*7)+3) % bs.length) 0).toNat)*1117))+(((p+1)-1)*29))+((((p+1)-1) / bs.length)*53)) ^^^ (((((((bs.getD (((p+1)-1) % bs.length) 0).toNat)*131)+(((bs.getD (((((p+1)-1)*7)+3) % bs.length) 0).toNat)*1117))+(((p+1)-1)*29))+((((p+1)-1) / bs.length)*53)) / 64):Nat):Int)) r0 (tm (I n) r0 (qt r0 (rem (a:=((((((((bs.getD (((p+1)-1) % bs.length) 0).toNat)*131)+(((bs.getD (((((p+1)-1)*7)+3) % bs.length) 0).toNat)*1117))+(((p+1)-1)*29))+((((p+1)-1) / bs.length)*53)) ^^^ (((((((bs.getD (((p+1)-1) % bs.length) 0).toNat)*131)+(((bs.getD (((((p+1)-1)*7)+3) % bs.length) 0).toNat)*1117))+(((p+1)-1)*29))+((((p+1)-1) / bs.length)*53)) / 64):Nat):Int)) (b:=n) r0 r0 (by have h1_:=u8_bd (bs.getD ((p+1-1) % bs.length) 0); have h2_:=u8_bd (bs.getD (((p+1-1)*7+3) % bs.length) 0); have h3_:=div_bd (p+1-1) bs.length; omega) (by omega)) (tA (I (((((((((bs.getD (((p+1)-1) % bs.length) 0).toNat)*131)+(((bs.getD (((((p+1)-1)*7)+3) % bs.length) 0).toNat)*1117))+(((p+1)-1)*29))+((((p+1)-1) / bs.length)*53)) ^^^ (((((((bs.getD (((p+1)-1) % bs.length) 0).toNat)*131)+(((bs.getD (((((p+1)-1)*7)+3) % bs.length) 0).toNat)*1117))+(((p+1)-1)*29))+((((p+1)-1) / bs.length)*53)) / 64):Nat):Int) % n)) r0 ?_))))
    refine nn (rt (fT (I (((((((((bs.getD (((p+1)-1) % bs.length) 0).toNat)*131)+(((bs.getD (((((p+1)-1)*7)+3) % bs.length) 0).toNat)*1117))+(((p+1)-1)*29))+((((p+1)-1) / bs.length)*53)) ^^^ (((((((bs.getD (((p+1)-1) % bs.length) 0).toNat)*131)+(((bs.getD (((((p+1)-1)*7)+3) % bs.length) 0).toNat)*1117))+(((p+1)-1)*29))+((((p+1)-1) / bs.length)*53)) / 64):Nat):Int) % n)) r0 ?_))
    exact⟨((((((((bs.getD (((p+1)-1) % bs.length) 0).toNat)*131)+(((bs.getD (((((p+1)-1)*7)+3) % bs.length) 0).toNat)*1117))+(((p+1)-1)*29))+((((p+1)-1) / bs.length)*53)) ^^^ (((((((bs.getD (((p+1)-1) % bs.length) 0).toNat)*131)+(((bs.getD (((((p+1)-1)*7)+3) % bs.length) 0).toNat)*1117))+(((p+1)-1)*29))+((((p+1)-1) / bs.length)*53)) / 64):Nat):Int) % n,p+1,rfl,(mod_pos (by omega)),(by omega),hs2⟩
theorem l6Open {Acs:Option Addr} {ccs:Nat} (cs:List UInt8) (w:World) (hcs:Sl w [] 1 Acs cs.length ccs (cs.map U)):Does Tryz.prog 54 [.slice Acs cs.length ccs] w (fun v w'=>∃ gr:Nat,v=.pointer (some ⟨gr,0,none⟩)∧SH w w' [] [.blk gr 124 [.slice Acs ((cs.take 2000).length) ccs,I 0]]):=by
 refine fE (N:=11) Tryz.func54 r0 (by kernel_rfl) r0 ?_
 have hs0:=SH.refl w []
 have hcs_m:cs.length≤9223372036854775807:=Nat.le_trans hcs.cap hcs.capMax
 refine sr (tA (.pointer none) r0 (nn (sq (sr ?_))))
 refine tm (.slice Acs cs.length ccs) r0 (qt r0 (lnA (n:=cs.length) sl39 r0) (qt r0 (gtr (k:=.i64) (a:=(cs.length:Int)) (b:=2000) r0 r0) (nn ?_)))
 refine cdd (p:=(2000:Int)<(cs.length:Int)) r0 (fun h1=>?_) (fun h1=>?_)
 ·refine rg (tm (.slice Acs cs.length ccs) r0 (qt r0 (cuhm_ (zs:=cs) 2000 sl39 r0 r0 (by omega) hcs.cap) (tA (.slice Acs ((cs.take 2000).length) ccs) r0 (nx ?_))))
  refine tm (.slice Acs ((cs.take 2000).length) ccs) r0 (qt r0 (bdv (v:=.agg #[.slice Acs ((cs.take 2000).length) ccs,I 0]) [(0,.slice Acs ((cs.take 2000).length) ccs)] r0 (fun _=>by kernel_rfl)) (bx (v:=.agg #[.slice Acs ((cs.take 2000).length) ccs,I 0]) (cs:=[.slice Acs ((cs.take 2000).length) ccs,I 0]) hs0 r0 r0 trivial r0 (fun b1 w1 hs1=>?_)))
  refine tA (pB b1) r0 (nn (rt (fT (pB b1) r0 ?_)))
  exact⟨b1,rfl,hs1⟩
 ·refine sk (nN (sr (tm (.slice Acs cs.length ccs) r0 (qt r0 (bdv (v:=.agg #[.slice Acs cs.length ccs,I 0]) [(0,.slice Acs cs.length ccs)] r0 (fun _=>by kernel_rfl)) (bx (v:=.agg #[.slice Acs cs.length ccs,I 0]) (cs:=[.slice Acs cs.length ccs,I 0]) hs0 r0 r0 trivial r0 (fun b2 w2 hs2=>?_))))))
  refine tA (pB b2) r0 (nn (rt (fT (pB b2) r0 ?_)))
  have e1:cs.length=(cs.take 2000).length:=by rw[List.take_of_length_le (by omega)]
  exact⟨b2,rfl,(hs2.cast (lc (congrArg (It.blk b2 124) (lc (slv r0 e1 r0) (lc r0 r0))) r0))⟩
theorem rdOf {rb:Nat} {Ab:Option Addr} {cb:Nat} {bs:List UInt8} {p:Nat} {Ass:Option Addr} {css:Nat} (ss:List (List UInt8)) (w:World) (hr:w.heap[rb]?=some (.cells [.slice Ab bs.length cb,.int .i64 (p:Int)].toArray 124 (0,0))) (hb:Sl w [rb] 1 Ab bs.length cb (bs.map U)) (hbn:bs.length≤2000) (hp:p≤549755813888) (hss:Sl w [rb] 1 Ass ss.length css (ss.map Str)) (hne:0<ss.length):Does Tryz.prog 180 [pB rb,.slice Ass ss.length css] w (fun v w'=>∃ s:List UInt8,∃ q:Nat,v=Str s∧(s∈ss)∧(q≤p+1)∧SH w w' [rb] [.blk rb 124 [.slice Ab bs.length cb,I (q:Int)]]):=by
 refine fE (N:=12) Tryz.func180 r0 (by kernel_rfl) r0 ?_
 have hs0:=SH.entry1 hr
 have hss_m:ss.length≤9223372036854775807:=Nat.le_trans hss.cap hss.capMax
 refine sr (tA (Str []) r0 (nx (tm (.slice Ass ss.length css) r0 ?_)))
 refine tm (pB rb) r0 (tm (.slice Ass ss.length css) r0 (qt r0 (lnA (n:=ss.length) sl147 r0) (cL r0 (pick (rb:=rb) (Ab:=Ab) (cb:=cb) (bs:=bs) (p:=p) (n:=(ss.length:Int)) (w:=_) (hr:=(blk_heap hs0 0 r0)) (hb:=(hb.up hs0 (fun _ h=>h) (fun _ h=>.inl h))) (hbn:=(by assumption)) (hp:=(by omega))) ?_)))
 rintro _ w1 ⟨r1,q1,rfl,p1,p2,hs1⟩
 replace hs1:=hs0.callM 0 r0 hs1 m_1
 refine ixw1 r1.toNat sl147 r0 (ieq (x:=r1) (by omega)) hss (by omega) (getm Str [] (by omega)) trivial r0 (fun a1 ha1=>?_)
 refine qt r0 (lda (v:=Str (ss.getD r1.toNat [])) hs1 ha1 (fun _ h=>h) r0 r0 one9) (tA (Str (ss.getD r1.toNat [])) r0 (nn (rt (fT (Str (ss.getD r1.toNat [])) r0 ?_))))
 exact⟨ss.getD r1.toNat [],q1,rfl,(getD_mem (by omega)),(by omega),hs1⟩
theorem l91Bytes {rb:Nat} {Ab:Option Addr} {cb:Nat} {bs:List UInt8} {p:Nat} (n:Int) (w:World) (hr:w.heap[rb]?=some (.cells [.slice Ab bs.length cb,.int .i64 (p:Int)].toArray 124 (0,0))) (hb:Sl w [rb] 1 Ab bs.length cb (bs.map U)) (hbn:bs.length≤2000) (hp:p≤549755813888) (hn:0≤n∧n≤100000):Does Tryz.prog 116 [pB rb,I n] w (fun v w'=>∃ Ar:Option Addr,∃ cr:Nat,∃ r:List Int,∃ q:Nat,v=.slice Ar r.length cr∧((r.length:Int)≤n)∧(q≤p+5+4*n.toNat)∧SH w w' [rb] [.blk rb 124 [.slice Ab bs.length cb,I (q:Int)],.own Ar r.length cr 3 1 (r.map I)]):=by
 refine fE (N:=48) Tryz.func116 r0 (by kernel_rfl) r0 ?_
 have hs0:=SH.entry1 hr
 refine sr (tA ns r0 (nx (bsk hs0 sl22 [] [] trivial r0 (fun b1 w1 hs1=>?_))))
 refine tA (sb b1 (([]:List Int).length) 0) r0 (nx (tm (pB rb) r0 (tm (I n) r0 (qt r0 (add (a:=n) (b:=1) r0 r0 (by exact⟨by omega,by omega⟩)) ?_))))
 refine cL r0 (pick (rb:=rb) (Ab:=Ab) (cb:=cb) (bs:=bs) (p:=p) (n:=n+1) (w:=_) (hr:=(blk_heap hs1 0 r0)) (hb:=(hb.up hs1 (fun _ h=>h) (fun _ h=>.inl h))) (hbn:=(by assumption)) (hp:=(by omega))) ?_
 rintro _ w2 ⟨r1,q1,rfl,p1,p2,hs2⟩
 replace hs2:=hs1.callM 0 r0 hs2 m_1
 refine tA (I r1) r0 (nn (sq (sr (tA (I 0) r0 (nl ?_)))))
 refine nN (bl (lp (σ:=(Option Addr)×Nat×Nat×Nat×(List Int)) (fun⟨Ag5,cg5,q0,k,zs⟩ f w'=>Hz f [(0,pB rb),(5,.slice Ag5 zs.length cg5),(6,I r1),(7,I (k:Int))]∧((k:Int)≤r1)∧(zs.length=k)∧(q0≤p+1+3*k)∧SH w w' [rb] [.own Ag5 zs.length cg5 3 1 (zs.map I),(Z3 rb Ab bs cb q0)]) (fun⟨Ag5,cg5,q0,k,zs⟩=>(r1-k).toNat) ((Z2 b1),0,q1,0,([]:List Int)) ⟨(zR r0),(by omega),(rfl),(by omega),hs2⟩ ?_))
 rintro ⟨Ag5,cg5,q0,k,zs⟩ f w3 ⟨⟨g1,rfl⟩,hk,hz,hq,hs3⟩
 refine sq (sr (tm (I (k:Int)) r0 (tm (I r1) r0 (qt r0 (lss (k:=.i64) (a:=(k:Int)) (b:=r1) r0 r0) (nn ?_)))))
 refine cdd (p:=(k:Int)<r1) r0 (fun h1=>?_) (fun h1=>?_)
 ·refine sk (nN (sq (bl (rg (tm (.slice Ag5 zs.length cg5) r0 (tm (pB rb) r0 (cL r0 (pick (rb:=rb) (Ab:=Ab) (cb:=cb) (bs:=bs) (p:=q0) (n:=6) (w:=_) (hr:=(blk_heap hs3 1 r0)) (hb:=(hb.up hs3 (fun _ h=>h) (fun _ h=>.inl h))) (hbn:=(by assumption)) (hp:=(by omega))) ?_)))))))
  rintro _ w4 ⟨r2,q2,rfl,p3,p4,hs4⟩
  replace hs4:=hs3.callM 1 r0 hs4 m_1
  refine tm (pB rb) r0 (cL r0 (pick (rb:=rb) (Ab:=Ab) (cb:=cb) (bs:=bs) (p:=q2) (n:=256) (w:=_) (hr:=(blk_heap hs4 1 r0)) (hb:=(hb.up hs4 (fun _ h=>h) (fun _ h=>.inl h))) (hbn:=(by assumption)) (hp:=(by omega))) ?_)
  rintro _ w5 ⟨r3,q3,rfl,p5,p6,hs5⟩
  replace hs5:=hs4.callM 1 r0 hs5 m_1
  refine bsk hs5 sl22 [I r2,I r3] [I r2,I r3] trivial r0 (fun b2 w6 hs6=>?_)
  refine tm (pB rb) r0 (cL r0 (pick (rb:=rb) (Ab:=Ab) (cb:=cb) (bs:=bs) (p:=q3) (n:=2) (w:=_) (hr:=(blk_heap hs6 1 r0)) (hb:=(hb.up hs6 (fun _ h=>h) (fun _ h=>.inl h))) (hbn:=(by assumption)) (hp:=(by omega))) ?_)
  rintro _ w7 ⟨r4,q4,rfl,p7,p8,hs7⟩
  replace hs7:=hs6.callM 1 r0 hs7 m_1
  refine qt r0 (ixo r4.toNat sl22 r0 (ieq (x:=r4) (by omega)) (by omega)) (qt r0 (ldo1n (g:=I) (ys:=([r2,r3]:List Int)) (o:=r4.toNat) 0 hs7 1 r0 r0 (by(simp; omega)) one3) (bsk hs7 sl22 [I (([r2,r3]:List Int).getD r4.toNat 0)] [I (([r2,r3]:List Int).getD r4.toNat 0)] trivial r0 (fun b3 w8 hs8=>?_)))
  refine apm (g:=I) (ys:=zs) (zs:=([([r2,r3]:List Int).getD r4.toNat 0]:List Int)) hs8 0 r0 sl22 r0 r0 r0 (hs8.sl0 3 r0) (fun _=>rfl) (by unfold maxLen; (simp; omega)) (by(simp; omega)) trivial r0 (fun A1 c1 w9 hs9=>?_)
  refine tA (.slice A1 ((zs++([([r2,r3]:List Int).getD r4.toNat 0]:List Int)).length) c1) r0 (nl (bN (nN ?_)))
  have hs10:=hs9.pq [1,3] r0
  refine rg (tm (I (k:Int)) r0 (qt r0 (add (a:=(k:Int)) (b:=1) r0 r0 (by exact⟨by omega,by omega⟩)) (tA (I ((k:Int)+1)) r0 (nn ?_))))
  refine⟨(A1,c1,q4,k+1,(zs++([([r2,r3]:List Int).getD r4.toNat 0]:List Int))),⟨(zR r0),(by omega),(by simp; omega),(by omega),(hs10.pk [1,0] r0)⟩,?_⟩
  show (r1-(k+1)).toNat<(r1-k).toNat
  omega
 ·refine ex (tE (tE (bE ?_)))
  refine nN (sq (sr (tm (I r1) r0 (qt r0 (gtr (k:=.i64) (a:=r1) (b:=0) r0 r0) (tm (.bool (decide ((0:Int)<r1))) r0 ?_)))))
  refine spd (p:=(0:Int)<r1) 32 r0 (fun h2=>?_) (fun h2=>?_)
  ·refine q ⟨_,rfl,rfl⟩ r0 r0 (mv (v:=pB rb) r0) (cl ⟨_,rfl,rfl⟩ r0 (pick (rb:=rb) (Ab:=Ab) (cb:=cb) (bs:=bs) (p:=q0) (n:=50) (w:=_) (hr:=(blk_heap hs3 1 r0)) (hb:=(hb.up hs3 (fun _ h=>h) (fun _ h=>.inl h))) (hbn:=(by assumption)) (hp:=(by omega))) ?_)
   rintro _ w10 ⟨r5,q5,rfl,p9,p10,hs11⟩
   replace hs11:=hs3.callM 1 r0 hs11 m_1
   refine q ⟨_,rfl,rfl⟩ r0 r0 (eqi (k:=.i64) (a:=r5) (b:=0) r0 r0) (qt r0 (pt (v:=.bool (decide (r5=0))) r0 r0) (nn ?_))
   refine cdd (p:=r5=0) r0 (fun h3=>?_) (fun h3=>?_)
   ·refine rg (tm (.slice Ag5 zs.length cg5) r0 (tm (pB rb) r0 (tm (I r1) r0 (cL r0 (pick (rb:=rb) (Ab:=Ab) (cb:=cb) (bs:=bs) (p:=q5) (n:=r1) (w:=_) (hr:=(blk_heap hs11 1 r0)) (hb:=(hb.up hs11 (fun _ h=>h) (fun _ h=>.inl h))) (hbn:=(by assumption)) (hp:=(by omega))) ?_))))
    rintro _ w11 ⟨r6,q6,rfl,p11,p12,hs12⟩
    replace hs12:=hs11.callM 1 r0 hs12 m_1
    refine bsk hs12 sl22 [I (-1),I 256] [I (-1),I 256] trivial r0 (fun b4 w12 hs13=>?_)
    refine tm (pB rb) r0 (cL r0 (pick (rb:=rb) (Ab:=Ab) (cb:=cb) (bs:=bs) (p:=q6) (n:=2) (w:=_) (hr:=(blk_heap hs13 1 r0)) (hb:=(hb.up hs13 (fun _ h=>h) (fun _ h=>.inl h))) (hbn:=(by assumption)) (hp:=(by omega))) ?_)
    rintro _ w13 ⟨r7,q7,rfl,p13,p14,hs14⟩
    replace hs14:=hs13.callM 1 r0 hs14 m_1
    refine qt r0 (ixo r7.toNat sl22 r0 (ieq (x:=r7) (by omega)) (by omega)) (qt r0 (ldo1n (g:=I) (ys:=([(-1),256]:List Int)) (o:=r7.toNat) 0 hs14 1 r0 r0 (by(simp; omega)) one3) ?_)
    obtain ⟨b5,rfl⟩:=own_form hs14 0 r0 (by omega)
    refine qt r0 (ixo r6.toNat sl22 r0 (ieq (x:=r6) (by omega)) (by omega)) (stomn (g:=I) (ys:=zs) (o:=r6.toNat) (u:=([(-1),256]:List Int).getD r7.toNat 0) hs14 0 r0 r0 r0 r0 (by omega) r0 one3 trivial (fun w14 hs15=>?_))
    refine nx (tm (sb b5 zs.length cg5) r0 (tA (sb b5 zs.length cg5) r0 (nn ?_)))
    refine rt (fT (sb b5 zs.length cg5) r0 ?_)
    have e1:zs.length=(zs.set r6.toNat (([(-1),256]:List Int).getD r7.toNat 0)).length:=by(simp; done)
    exact⟨(Z2 b5),cg5,zs.set r6.toNat (([(-1),256]:List Int).getD r7.toNat 0),q7,(slv r0 e1 r0),(by(try simp); omega),(by omega),((hs15.pq [1,2] r0).cast (lc r0 (lc (own_eq (g:=I) r0 e1 r0 r0) r0)))⟩
   ·refine sk (nN (sr (tm (.slice Ag5 zs.length cg5) r0 (tA (.slice Ag5 zs.length cg5) r0 (nn ?_)))))
    refine rt (fT (.slice Ag5 zs.length cg5) r0 ?_)
    exact⟨Ag5,cg5,zs,q5,rfl,(by(try simp); omega),(by omega),(hs11.pk [1,0] r0)⟩
  ·refine gf5 r0 (gf5 r0 (gf5 r0 (qt r0 (pf (v:=.bool false) r0 r0) (nn (cdf r0 (sk ?_))))))
   refine nN (sr (tm (.slice Ag5 zs.length cg5) r0 (tA (.slice Ag5 zs.length cg5) r0 (nn (rt ?_)))))
   refine fT (.slice Ag5 zs.length cg5) r0 ?_
   exact⟨Ag5,cg5,zs,q0,rfl,(by(try simp); omega),(by omega),(hs3.pk [1,0] r0)⟩
theorem bStringN {bb:Nat} {pb:Option Addr} (w:World) (hbd:w.heap[bb]?=some (.cells [.pointer pb,.slice none 0 0].toArray 181 (0,0))):Does Tryz.prog 195 [pB bb] w (fun v w'=>v=Str []∧SH w w' [bb] []):=by
 refine fE (N:=14) Tryz.func195 r0 (by kernel_rfl) r0 ?_
 have hs0:=SH.entry1 hbd
 refine sr (tA (Str []) r0 (nn (sq (ra (fun w'=>∃ L,SH w w' [bb] L∧(.blk bb 181 [.pointer pb,ns])∈L∧True) mixed ?_))))
 have hs1:=hs0.drew
 refine tk (fuel:=2) (is:=[0,1,2,3,4,5,6,7,8,9]) (.cons r0 (.cons r0 (.cons r0 (.cons r0 (.cons r0 (.cons r0 (.cons r0 (.cons r0 (.cons r0 (.cons r0 (.nil))))))))))) (by kernel_rfl) (by kernel_rfl) (m1 hs1 0 r0) (yA r0 (mv (v:=pB bb) r0) (yA r0 (nc r0) (yA r0 (fa 1 fo181_1 r0) (yB r0 (fun ⟨Lq,hsq,mh0,_⟩=>lM ns hsq mh0 r0 one39) (yA r0 (usd0 r0) (yA r0 (mv (v:=pB bb) r0) (yA r0 (nc r0) ?_)))))))
 refine yA r0 (fa 1 fo181_1 r0) (yB r0 (fun ⟨Lq,hsq,mh0,_⟩=>lM ns hsq mh0 r0 one39) (yA r0 (lnA (n:=0) sl39 r0) (.nil (a1 (i:=10) (by kernel_rfl) (one_ r0 (qt r0 (ust0 (p:=none) r0 r0) (nk (m1 hs1 0 r0) ?_)))))))
 refine tk (fuel:=0) (is:=[11]) (.cons r0 (.nil)) (by kernel_rfl) (by kernel_rfl) (m1 hs1 0 r0) (yA r0 (asg (v:=Str []) r0) (.nil (ad (by kernel_rfl) (nN (rt (fT (Str []) r0 ?_))))))
 exact⟨rfl,(hs1.pk [] r0)⟩
theorem bStringR {bb gb:Nat} {pb:Option Addr} {cbb:Nat} (l:List UInt8) (w:World) (hbd:w.heap[bb]?=some (.cells [.pointer pb,.slice (some ⟨gb,0,none⟩) l.length cbb].toArray 181 (0,0))) (hbo:OwnR w (some ⟨gb,0,none⟩) l.length cbb 5 1 (l.map U)) (hbx: ∀ k,(It.own (some ⟨gb,0,none⟩) l.length cbb 5 1 (l.map U)).has k→ ¬ (It.blk bb 181 [.pointer pb,.slice (some ⟨gb,0,none⟩) l.length cbb]).has k) (hl0:0<l.length) (hlc:cbb≠0):Does Tryz.prog 195 [pB bb] w (fun v w'=>v=Str l∧SH w w' ([bb]++(ownM (some ⟨gb,0,none⟩) cbb++[])) []):=by
 refine fE (N:=14) Tryz.func195 r0 (by kernel_rfl) r0 ?_
 have hs0:SH w w ([bb]++(ownM (Z2 gb) cbb++[])) [.blk bb 181 [.pointer pb,sb gb l.length cbb],.own (Z2 gb) l.length cbb 5 1 (l.map U)]:=entryB hbd hbo hbx
 refine sr (tA (Str []) r0 (nn (sq (ra (fun w'=>∃ L,SH w w' ([bb]++(ownM (Z2 gb) cbb++[])) L∧(.blk bb 181 [.pointer pb,sb gb l.length cbb])∈L∧True) mixed ?_))))
 have hs1:=hs0.drew
 refine tk (fuel:=2) (is:=[0,1,2,3,4,5,6,7,8,9]) (.cons r0 (.cons r0 (.cons r0 (.cons r0 (.cons r0 (.cons r0 (.cons r0 (.cons r0 (.cons r0 (.cons r0 (.nil))))))))))) (by kernel_rfl) (by kernel_rfl) (m1 hs1 0 r0) (yA r0 (mv (v:=pB bb) r0) (yA r0 (nc r0) (yA r0 (fa 1 fo181_1 r0) (yB r0 (fun ⟨Lq,hsq,mh0,_⟩=>lM (sb gb l.length cbb) hsq mh0 r0 one39) (yA r0 (usd (a:=⟨gb,0,none⟩) r0 (by exact hlc)) (yA r0 (mv (v:=pB bb) r0) (yA r0 (nc r0) ?_)))))))
 refine yA r0 (fa 1 fo181_1 r0) (yB r0 (fun ⟨Lq,hsq,mh0,_⟩=>lM (sb gb l.length cbb) hsq mh0 r0 one39) (yA r0 (lnA (n:=l.length) sl39 r0) (.nil (a1 (i:=10) (by kernel_rfl) (one_ r0 (ust (l:=l) hs1 1 r0 tp197 (by kernel_rfl) r0 r0 (by omega) trivial r0 (fun w1 hs2=>?_)))))))
 refine nk (m1 hs2 0 r0) ?_
 refine tk (fuel:=0) (is:=[11]) (.cons r0 (.nil)) (by kernel_rfl) (by kernel_rfl) (m1 hs2 0 r0) (yA r0 (asg (v:=Str l) r0) (.nil (ad (by kernel_rfl) (nN (rt (fT (Str l) r0 ?_))))))
 exact⟨rfl,(hs2.pk [] r0)⟩
theorem bString {bb:Nat} {pb:Option Addr} {Abb:Option Addr} {cbb:Nat} (l:List UInt8) (w:World) (hbd:w.heap[bb]?=some (.cells [.pointer pb,.slice Abb l.length cbb].toArray 181 (0,0))) (hpb:pb=none∨pb=some ⟨bb,0,none⟩) (hbo:OwnR w Abb l.length cbb 5 1 (l.map U)) (hbx: ∀ k,(It.own Abb l.length cbb 5 1 (l.map U)).has k→ ¬ (It.blk bb 181 [.pointer pb,.slice Abb l.length cbb]).has k) (hA:l.length=0→Abb=none∧cbb=0):Does Tryz.prog 195 [pB bb] w (fun v w'=>v=Str l∧SH w w' ([bb]++(ownM Abb cbb++[])) []):=by
 rcases Nat.eq_zero_or_pos l.length with h0 | h0
 ·obtain ⟨rfl,rfl⟩:=hA h0
  have hl:l=[]:=List.eq_nil_of_length_eq_zero h0
  subst hl
  exact(bStringN w hbd).mono fun v w' h=>⟨h.1,h.2.monoM (by intro k hk; simp at hk; subst hk; simp)⟩
 ·obtain ⟨gb,rfl⟩:=ownR_form hbo h0
  exact bStringR l w hbd hbo hbx h0 (by have:=hbo.2.1; omega)
theorem iLetter (c:UInt8) (w:World):Does Tryz.prog 156 [.int .u8 (c.toNat:Int)] w (fun v w'=>v=.bool (decide (97≤(c.toNat:Int)∧(c.toNat:Int)≤122))∧SH w w' [] []):=by
 refine fE (N:=9) Tryz.func156 r0 (by kernel_rfl) r0 ?_
 have hs0:=SH.refl w []
 refine sr (tA (.bool false) r0 (nx (tm (.int .u8 (c.toNat:Int)) r0 ?_)))
 refine qt r0 (geq (k:=.u8) (a:=(c.toNat:Int)) (b:=97) r0 r0) (tm (.bool (decide ((97:Int)≤(c.toNat:Int)))) r0 ?_)
 refine spd (p:=(97:Int)≤(c.toNat:Int)) 5 r0 (fun h1=>?_) (fun h1=>?_)
 ·refine q ⟨_,rfl,rfl⟩ r0 r0 (mv (v:=.int .u8 (c.toNat:Int)) r0) (q ⟨_,rfl,rfl⟩ r0 r0 (leq (k:=.u8) (a:=(c.toNat:Int)) (b:=122) r0 r0) (qt r0 (pt (v:=.bool (decide ((c.toNat:Int)≤122))) r0 r0) (tA (.bool (decide ((c.toNat:Int)≤122))) r0 (nn (rt (fT (.bool (decide ((c.toNat:Int)≤122))) r0 ?_))))))
  have e1:(decide ((c.toNat:Int)≤122))=(decide (97≤(c.toNat:Int)∧(c.toNat:Int)≤122)):=by simp[h1]
  exact⟨(congrArg (Value.bool) e1),hs0⟩
 ·refine gf5 r0 (gf5 r0 (qt r0 (pf (v:=.bool false) r0 r0) (tA (.bool false) r0 (nn (rt (fT (.bool false) r0 ?_))))))
  have e2:false=(decide (97≤(c.toNat:Int)∧(c.toNat:Int)≤122)):=by simp[h1]
  exact⟨(congrArg (Value.bool) e2),hs0⟩
theorem iDigit (c:UInt8) (w:World):Does Tryz.prog 176 [.int .u8 (c.toNat:Int)] w (fun v w'=>v=.bool (decide (48≤(c.toNat:Int)∧(c.toNat:Int)≤57))∧SH w w' [] []):=by
 refine fE (N:=9) Tryz.func176 r0 (by kernel_rfl) r0 ?_
 have hs0:=SH.refl w []
 refine sr (tA (.bool false) r0 (nx (tm (.int .u8 (c.toNat:Int)) r0 ?_)))
 refine qt r0 (geq (k:=.u8) (a:=(c.toNat:Int)) (b:=48) r0 r0) (tm (.bool (decide ((48:Int)≤(c.toNat:Int)))) r0 ?_)
 refine spd (p:=(48:Int)≤(c.toNat:Int)) 5 r0 (fun h1=>?_) (fun h1=>?_)
 ·refine q ⟨_,rfl,rfl⟩ r0 r0 (mv (v:=.int .u8 (c.toNat:Int)) r0) (q ⟨_,rfl,rfl⟩ r0 r0 (leq (k:=.u8) (a:=(c.toNat:Int)) (b:=57) r0 r0) (qt r0 (pt (v:=.bool (decide ((c.toNat:Int)≤57))) r0 r0) (tA (.bool (decide ((c.toNat:Int)≤57))) r0 (nn (rt (fT (.bool (decide ((c.toNat:Int)≤57))) r0 ?_))))))
  have e1:(decide ((c.toNat:Int)≤57))=(decide (48≤(c.toNat:Int)∧(c.toNat:Int)≤57)):=by simp[h1]
  exact⟨(congrArg (Value.bool) e1),hs0⟩
 ·refine gf5 r0 (gf5 r0 (qt r0 (pf (v:=.bool false) r0 r0) (tA (.bool false) r0 (nn (rt (fT (.bool false) r0 ?_))))))
  have e2:false=(decide (48≤(c.toNat:Int)∧(c.toNat:Int)≤57)):=by simp[h1]
  exact⟨(congrArg (Value.bool) e2),hs0⟩
theorem sLetter (c:UInt8) (w:World):Does Tryz.prog 181 [.int .u8 (c.toNat:Int)] w (fun v w'=>v=.bool (letC c)∧SH w w' [] []):=by
 refine fE (N:=21) Tryz.func181 r0 (by kernel_rfl) r0 ?_
 have hs0:=SH.refl w []
 refine sr (tA (.bool false) r0 (nx (tm (.int .u8 (c.toNat:Int)) r0 ?_)))
 refine qt r0 (geq (k:=.u8) (a:=(c.toNat:Int)) (b:=97) r0 r0) (tm (.bool (decide ((97:Int)≤(c.toNat:Int)))) r0 ?_)
 refine spd (p:=(97:Int)≤(c.toNat:Int)) 5 r0 (fun h1=>?_) (fun h1=>?_)
 ·refine q ⟨_,rfl,rfl⟩ r0 r0 (mv (v:=.int .u8 (c.toNat:Int)) r0) (q ⟨_,rfl,rfl⟩ r0 r0 (leq (k:=.u8) (a:=(c.toNat:Int)) (b:=122) r0 r0) (qt r0 (pt (v:=.bool (decide ((c.toNat:Int)≤122))) r0 r0) (tm (.bool (decide ((c.toNat:Int)≤122))) r0 ?_)))
  refine spd (p:=(c.toNat:Int)≤122) 9 r0 (fun h2=>?_) (fun h2=>?_)
  ·refine gt5 r0 (gt5 r0 (gt5 r0 (gku r0 r0 r0 r0 r0 (gku r0 r0 r0 r0 r0 (gt5 r0 (qt r0 (pt (v:=.bool true) r0 r0) (tm (.bool true) r0 ?_)))))))
   refine gt5 r0 (gt5 r0 (qt r0 (pt (v:=.bool true) r0 r0) (tA (.bool true) r0 (nn (rt (fT (.bool true) r0 ?_))))))
   have e1:true=letC c:=by simp only[letC]; (simp; omega)
   exact⟨(congrArg (Value.bool) e1),hs0⟩
  ·refine q ⟨_,rfl,rfl⟩ r0 r0 (mv (v:=.int .u8 (c.toNat:Int)) r0) (q ⟨_,rfl,rfl⟩ r0 r0 (geq (k:=.u8) (a:=(c.toNat:Int)) (b:=48) r0 r0) (q ⟨_,rfl,rfl⟩ r0 r0 (mv (v:=.bool (decide ((48:Int)≤(c.toNat:Int)))) r0) ?_))
   refine spd (p:=(48:Int)≤(c.toNat:Int)) 12 r0 (fun h3=>?_) (fun h3=>?_)
   ·refine q ⟨_,rfl,rfl⟩ r0 r0 (mv (v:=.int .u8 (c.toNat:Int)) r0) (q ⟨_,rfl,rfl⟩ r0 r0 (leq (k:=.u8) (a:=(c.toNat:Int)) (b:=57) r0 r0) (q ⟨_,rfl,rfl⟩ r0 r0 (pt (v:=.bool (decide ((c.toNat:Int)≤57))) r0 r0) (qt r0 (pf (v:=.bool (decide ((c.toNat:Int)≤57))) r0 r0) (tm (.bool (decide ((c.toNat:Int)≤57))) r0 ?_))))
    refine spd (p:=(c.toNat:Int)≤57) 17 r0 (fun h4=>?_) (fun h4=>?_)
    ·refine gt5 r0 (gt5 r0 (qt r0 (pt (v:=.bool true) r0 r0) (tA (.bool true) r0 (nn (rt (fT (.bool true) r0 ?_))))))
     have e2:true=letC c:=by simp only[letC]; (simp; omega)
     exact⟨(congrArg (Value.bool) e2),hs0⟩
    ·refine q ⟨_,rfl,rfl⟩ r0 r0 (mv (v:=.int .u8 (c.toNat:Int)) r0) (q ⟨_,rfl,rfl⟩ r0 r0 (eqi (k:=.u8) (a:=(c.toNat:Int)) (b:=45) r0 r0) (qt r0 (pf (v:=.bool (decide ((c.toNat:Int)=45))) r0 r0) (tA (.bool (decide ((c.toNat:Int)=45))) r0 (nn (rt (fT (.bool (decide ((c.toNat:Int)=45))) r0 ?_))))))
     have e3:(decide ((c.toNat:Int)=45))=letC c:=by simp only[letC]; simp[h1,h2,h3,h4]
     exact⟨(congrArg (Value.bool) e3),hs0⟩
   ·refine gf5 r0 (gf5 r0 (q ⟨_,rfl,rfl⟩ r0 r0 (pf (v:=.bool false) r0 r0) (qt r0 (pf (v:=.bool false) r0 r0) (tm (.bool false) r0 (q ⟨_,rfl,rfl⟩ r0 r0 (mv (v:=.int .u8 (c.toNat:Int)) r0) (q ⟨_,rfl,rfl⟩ r0 r0 (eqi (k:=.u8) (a:=(c.toNat:Int)) (b:=45) r0 r0) (qt r0 (pf (v:=.bool (decide ((c.toNat:Int)=45))) r0 r0) ?_)))))))
    refine tA (.bool (decide ((c.toNat:Int)=45))) r0 (nn (rt (fT (.bool (decide ((c.toNat:Int)=45))) r0 ?_)))
    have e4:(decide ((c.toNat:Int)=45))=letC c:=by simp only[letC]; (simp; omega)
    exact⟨(congrArg (Value.bool) e4),hs0⟩
 ·refine gf5 r0 (gf5 r0 (qt r0 (pf (v:=.bool false) r0 r0) (tm (.bool false) r0 (q ⟨_,rfl,rfl⟩ r0 r0 (mv (v:=.int .u8 (c.toNat:Int)) r0) (q ⟨_,rfl,rfl⟩ r0 r0 (geq (k:=.u8) (a:=(c.toNat:Int)) (b:=48) r0 r0) (q ⟨_,rfl,rfl⟩ r0 r0 (mv (v:=.bool (decide ((48:Int)≤(c.toNat:Int)))) r0) ?_))))))
  refine spd (p:=(48:Int)≤(c.toNat:Int)) 12 r0 (fun h5=>?_) (fun h5=>?_)
  ·refine q ⟨_,rfl,rfl⟩ r0 r0 (mv (v:=.int .u8 (c.toNat:Int)) r0) (q ⟨_,rfl,rfl⟩ r0 r0 (leq (k:=.u8) (a:=(c.toNat:Int)) (b:=57) r0 r0) (q ⟨_,rfl,rfl⟩ r0 r0 (pt (v:=.bool (decide ((c.toNat:Int)≤57))) r0 r0) (qt r0 (pf (v:=.bool (decide ((c.toNat:Int)≤57))) r0 r0) (tm (.bool (decide ((c.toNat:Int)≤57))) r0 ?_))))
   refine spd (p:=(c.toNat:Int)≤57) 17 r0 (fun h6=>?_) (fun h6=>?_)
   ·refine gt5 r0 (gt5 r0 (qt r0 (pt (v:=.bool true) r0 r0) (tA (.bool true) r0 (nn (rt (fT (.bool true) r0 ?_))))))
    have e5:true=letC c:=by simp only[letC]; (simp; omega)
    exact⟨(congrArg (Value.bool) e5),hs0⟩
   ·refine q ⟨_,rfl,rfl⟩ r0 r0 (mv (v:=.int .u8 (c.toNat:Int)) r0) (q ⟨_,rfl,rfl⟩ r0 r0 (eqi (k:=.u8) (a:=(c.toNat:Int)) (b:=45) r0 r0) (qt r0 (pf (v:=.bool (decide ((c.toNat:Int)=45))) r0 r0) (tA (.bool (decide ((c.toNat:Int)=45))) r0 (nn (rt (fT (.bool (decide ((c.toNat:Int)=45))) r0 ?_))))))
    have e6:(decide ((c.toNat:Int)=45))=letC c:=by simp only[letC]; simp[h1,h5,h6]
    exact⟨(congrArg (Value.bool) e6),hs0⟩
  ·refine gf5 r0 (gf5 r0 (q ⟨_,rfl,rfl⟩ r0 r0 (pf (v:=.bool false) r0 r0) (qt r0 (pf (v:=.bool false) r0 r0) (tm (.bool false) r0 (q ⟨_,rfl,rfl⟩ r0 r0 (mv (v:=.int .u8 (c.toNat:Int)) r0) (q ⟨_,rfl,rfl⟩ r0 r0 (eqi (k:=.u8) (a:=(c.toNat:Int)) (b:=45) r0 r0) (qt r0 (pf (v:=.bool (decide ((c.toNat:Int)=45))) r0 r0) ?_)))))))
   refine tA (.bool (decide ((c.toNat:Int)=45))) r0 (nn (rt (fT (.bool (decide ((c.toNat:Int)=45))) r0 ?_)))
   have e7:(decide ((c.toNat:Int)=45))=letC c:=by simp only[letC]; simp[h1,h5]
   exact⟨(congrArg (Value.bool) e7),hs0⟩
theorem isPort (x:Int) (w:World):Does Tryz.prog 122 [I x] w (fun v w'=>v=.bool (decide (0≤x∧x≤65535))∧SH w w' [] []):=by
 refine fE (N:=5) Tryz.func122 r0 (by kernel_rfl) r0 ?_
 have hs0:=SH.refl w []
 refine sr (tA (.bool false) r0 (nx (tm (I x) r0 ?_)))
 refine cL r0 (iWithin (x:=x) (lo:=0) (hi:=65535) (w:=_)) ?_
 rintro _ w1 ⟨rfl,hs1⟩
 replace hs1:=hs0.call0 hs1
 refine tA (.bool (decide (0≤x∧x≤65535))) r0 (nn (rt (fT (.bool (decide (0≤x∧x≤65535))) r0 ?_)))
 exact⟨rfl,hs1⟩
theorem iConsists (l:List UInt8) (m:List UInt8) (w:World) (hl_n:l.length≤9223372036854775807):Does Tryz.prog 155 [Str l,Str m] w (fun v w'=>v=.bool (l.all (okC m))∧SH w w' [] []):=by
 refine fE (N:=32) Tryz.func155 r0 (by kernel_rfl) r0 ?_
 have hs0:=SH.refl w []
 refine sr (tA (.bool false) r0 (nn (sq (sr ?_))))
 refine tm (Str l) r0 (qt r0 (lnS (l:=l) st9 r0) (tm (I 0) r0 (nn (bl (lp (σ:=Nat) (fun(k:Nat) f w'=>Hz f [(0,Str l),(1,Str m),(7,I (l.length:Int)),(8,I (k:Int))]∧(k≤l.length)∧((l.take k).all (okC m)=true)∧SH w w' [] []) (fun k=>l.length-k) 0 ⟨(zR r0),(by simp),(by simp),hs0⟩ ?_)))))
 rintro k f w1 ⟨⟨g1,rfl⟩,hk,ha,hs1⟩
 refine sr (qt r0 (lss (k:=.i64) (a:=(k:Int)) (b:=(l.length:Int)) r0 r0) (nn (sq ?_)))
 refine cdd (p:=(k:Int)<(l.length:Int)) r0 (fun h1=>?_) (fun h1=>?_)
 ·refine sk (nN (sq (bl (sr (tm (I (k:Int)) r0 (tA (I (k:Int)) r0 ?_))))))
  refine nx (tm (Str l) r0 (tm (I (k:Int)) r0 (qt r0 (ixs (l:=l) k st9 r0 r0 (by omega)) (cL r0 (iLetter (c:=(l.getD k 0)) (w:=_)) ?_))))
  rintro _ w2 ⟨rfl,hs2⟩
  replace hs2:=hs1.call0 hs2
  refine qt r0 (nd (p:=97≤(((l.getD k 0).toNat:Nat):Int)∧(((l.getD k 0).toNat:Nat):Int)≤122) r0) (tm (.bool (decide (¬ (97≤(((l.getD k 0).toNat:Nat):Int)∧(((l.getD k 0).toNat:Nat):Int)≤122)))) r0 ?_)
  refine spd (p:=¬ (97≤(((l.getD k 0).toNat:Nat):Int)∧(((l.getD k 0).toNat:Nat):Int)≤122)) 16 r0 (fun h2=>?_) (fun h2=>?_)
  ·refine q ⟨_,rfl,rfl⟩ r0 r0 (mv (v:=Str l) r0) (q ⟨_,rfl,rfl⟩ r0 r0 (mv (v:=I (k:Int)) r0) (q ⟨_,rfl,rfl⟩ r0 r0 (ixs (l:=l) k st9 r0 r0 (by omega)) (cl ⟨_,rfl,rfl⟩ r0 (iDigit (c:=(l.getD k 0)) (w:=_)) ?_)))
   rintro _ w3 ⟨rfl,hs3⟩
   replace hs3:=hs2.call0 hs3
   refine q ⟨_,rfl,rfl⟩ r0 r0 (nd (p:=48≤(((l.getD k 0).toNat:Nat):Int)∧(((l.getD k 0).toNat:Nat):Int)≤57) r0) (qt r0 (pt (v:=.bool (decide (¬ (48≤(((l.getD k 0).toNat:Nat):Int)∧(((l.getD k 0).toNat:Nat):Int)≤57)))) r0 r0) (tm (.bool (decide (¬ (48≤(((l.getD k 0).toNat:Nat):Int)∧(((l.getD k 0).toNat:Nat):Int)≤57)))) r0 ?_))
   refine spd (p:=¬ (48≤(((l.getD k 0).toNat:Nat):Int)∧(((l.getD k 0).toNat:Nat):Int)≤57)) 23 r0 (fun h3=>?_) (fun h3=>?_)
   ·refine q ⟨_,rfl,rfl⟩ r0 r0 (mv (v:=Str m) r0) (q ⟨_,rfl,rfl⟩ r0 r0 (mv (v:=Str l) r0) (q ⟨_,rfl,rfl⟩ r0 r0 (mv (v:=I (k:Int)) r0) (q ⟨_,rfl,rfl⟩ r0 r0 (ixs (l:=l) k st9 r0 r0 (by omega)) (cl ⟨_,rfl,rfl⟩ r0 (stIndexByte (l:=m) (c:=(l.getD k 0)) (w:=_)) ?_))))
    rintro _ w4 ⟨rfl,hs4⟩
    replace hs4:=hs3.call0 hs4
    refine q ⟨_,rfl,rfl⟩ r0 r0 (lss (k:=.i64) (a:=idxB m (l.getD k 0)) (b:=0) r0 r0) (qt r0 (pt (v:=.bool (decide ((idxB m (l.getD k 0))<0))) r0 r0) (nn ?_))
    refine cdd (p:=(idxB m (l.getD k 0))<0) r0 (fun h4=>?_) (fun h4=>?_)
    ·refine sr (tA (.bool false) r0 (nn ?_))
     refine rt (bR (tR (tR (bR (tR ?_)))))
     refine fT (.bool false) r0 ?_
     have e1:false=l.all (okC m):=by exact(all_no (d:=0) (k:=k) (by omega) (by simp only[okC,decide_eq_false_iff_not]; omega)).symm
     exact⟨(congrArg (Value.bool) e1),hs4⟩
    ·refine sk (bN (nN (rg (qt r0 (add (a:=(k:Int)) (b:=1) r0 r0 (by exact⟨by omega,by omega⟩)) (tm (I ((k:Int)+1)) r0 (nn ?_))))))
     refine⟨(k+1),⟨(zR r0),(by omega),(all_step (d:=0) (by omega) ha (by simp only[okC,decide_eq_true_eq]; omega)),hs4⟩,?_⟩
     omega
   ·refine gf5 r0 (gf5 r0 (gf5 r0 (gf5 r0 (gf5 r0 (gf5 r0 (qt r0 (pf (v:=.bool false) r0 r0) (nl ?_)))))))
    refine nN (cdf r0 (sk (bN (nN (rg (qt r0 (add (a:=(k:Int)) (b:=1) r0 r0 (by exact⟨by omega,by omega⟩)) (tm (I ((k:Int)+1)) r0 ?_)))))))
    refine nn ?_
    refine⟨(k+1),⟨(zR r0),(by omega),(all_step (d:=0) (by omega) ha (by simp only[okC,decide_eq_true_eq]; omega)),hs3⟩,?_⟩
    omega
  ·refine gf5 r0 (gf5 r0 (gf5 r0 (gf5 r0 (gf5 r0 (qt r0 (pf (v:=.bool false) r0 r0) (tm (.bool false) r0 (gf5 r0 ?_)))))))
   refine gf5 r0 (gf5 r0 (gf5 r0 (gf5 r0 (gf5 r0 (qt r0 (pf (v:=.bool false) r0 r0) (nn ?_))))))
   refine cdf r0 (sk (bN (nN (rg (qt r0 (add (a:=(k:Int)) (b:=1) r0 r0 (by exact⟨by omega,by omega⟩)) (tm (I ((k:Int)+1)) r0 (nl ?_)))))))
   refine nN ?_
   refine⟨(k+1),⟨(zR r0),(by omega),(all_step (d:=0) (by omega) ha (by simp only[okC,decide_eq_true_eq]; omega)),hs2⟩,?_⟩
   omega
 ·refine ex (tE (tE (bE ?_)))
  refine nN (sr (tA (.bool true) r0 (nn (rt (fT (.bool true) r0 ?_)))))
  have e2:true=l.all (okC m):=by exact(all_yes (by omega) ha).symm
  exact⟨(congrArg (Value.bool) e2),hs1⟩
theorem slClone {Axs:Option Addr} {cxs:Nat} (xs:List Int) (w:World) (hxs:Sl w [] 1 Axs xs.length cxs (xs.map I)) (hxs_n:xs.length≤1099511627776):Does Tryz.prog 104 [.slice Axs xs.length cxs] w (fun v w'=>∃ Ar:Option Addr,∃ cr:Nat,v=.slice Ar xs.length cr∧SH w w' [] [.own Ar xs.length cr 3 1 (xs.map I)]):=by
 refine fE (N:=8) Tryz.func104 r0 (by kernel_rfl) r0 ?_
 have hs0:=SH.refl w []
 have hxs_m:xs.length≤9223372036854775807:=Nat.le_trans hxs.cap hxs.capMax
 refine sr (tA ns r0 (nn (sq (sr ?_))))
 refine tm (Z4 Axs xs cxs) r0 (qt r0 (slnil (A:=Axs) sl22 r0 r0) (nn ?_))
 refine cdd (p:=Axs=none) r0 (fun h1=>?_) (fun h1=>?_)
 ·refine sr (tA ns r0 (nn (rt (tR ?_))))
  refine fT ns r0 ?_
  have hs1:=hs0.nl [.own none (([]:List Int).length) 0 3 1 (([]:List Int).map I)] r0
  have e1:([]:List Int)=xs:=by exact(sl_none hxs (by assumption)).symm
  have e2:=congrArg List.length e1
  exact⟨none,0,(slv r0 e2 r0),(hs1.cast (lc (own_eq (g:=I) r0 e2 r0 e1) r0))⟩
 ·refine sk (nN (sr (bsk hs0 sl22 [] [] trivial r0 (fun b1 w1 hs2=>?_))))
  refine tm (Z4 Axs xs cxs) r0 (apm (g:=I) (ys:=([]:List Int)) (zs:=xs) hs2 0 r0 sl22 r0 r0 r0 (hxs.up0 hs2) (fun _=>rfl) (by unfold maxLen; (simp; omega)) (by(simp; omega)) trivial r0 (fun A1 c1 w2 hs3=>?_))
  refine tA (.slice A1 xs.length c1) r0 (nn (rt (fT (.slice A1 xs.length c1) r0 ?_)))
  exact⟨A1,c1,rfl,hs3⟩
theorem slIndexS (l:List UInt8) (c:UInt8) (w:World):Does Tryz.prog 182 [Str l,Str [c]] w (fun v w'=>v=.int .i64 (idxB l c)∧SH w w' [] []):=by
 refine fE (N:=143) Tryz.func182 r0 (by kernel_rfl) r0 ?_
 have hs0:=SH.refl w []
 refine sr (tA (I 0) r0 (nx (tm (Str [c]) r0 ?_)))
 refine qt r0 (lnS (l:=[c]) st9 r0) (tA (I (([c].length:Nat):Int)) r0 (nn (sq (bl (sr ?_)))))
 refine tm (I (([c].length:Nat):Int)) r0 (qt r0 (eqi (k:=.i64) (a:=(([c].length:Nat):Int)) (b:=0) r0 r0) (tm (.bool (decide ((([c].length:Nat):Int)=0))) r0 ?_))
 refine spd (p:=(([c].length:Nat):Int)=0) 19 r0 (fun h1=>absurd h1 (by simp)) (fun h1=>?_)
 refine q ⟨_,rfl,rfl⟩ r0 r0 (mv (v:=Str [c]) r0) (q ⟨_,rfl,rfl⟩ r0 r0 (mv (v:=Str l) r0) (q ⟨_,rfl,rfl⟩ r0 r0 (eqs (l:=[c]) (m:=l) r0 r0) (qt r0 (pf (v:=.bool (decide ([c]=l))) r0 r0) (tA (.bool (decide ([c]=l))) r0 (nn ?_)))))
 refine cdd (p:=[c]=l) r0 (fun h2=>?_) (fun h2=>?_)
 ·refine sr (tA (I 0) r0 (nn ?_))
  refine rt (bR (tR ?_))
  refine fT (I 0) r0 ?_
  have e1:0=idxB l c:=by subst h2; exact(idxB_self c).symm
  exact⟨(congrArg (Value.int .i64) e1),hs0⟩
 ·refine sr (tm (I (([c].length:Nat):Int)) r0 (qt r0 (eqi (k:=.i64) (a:=(([c].length:Nat):Int)) (b:=1) r0 r0) (tA (.bool (decide ((([c].length:Nat):Int)=1))) r0 (nn ?_))))
  refine cdd (p:=(([c].length:Nat):Int)=1) r0 (fun h3=>?_) (fun h3=>absurd (by rfl) h3)
  refine sr (tm (Str l) r0 (tm (Str [c]) r0 (qt r0 (ixs (l:=[c]) 0 st9 r0 r0 (by omega)) (cL r0 (slIndexByte (l:=l) (c:=([c].getD 0 0)) (w:=_)) ?_))))
  rintro _ w1 ⟨rfl,hs1⟩
  replace hs1:=hs0.call0 hs1
  refine tA (I (idxB l ([c].getD 0 0))) r0 (nn ?_)
  refine rt (bR (tR ?_))
  refine fT (I (idxB l ([c].getD 0 0))) r0 ?_
  have e2:idxB l ([c].getD 0 0)=idxB l c:=by rfl
  exact⟨(congrArg (Value.int .i64) e2),hs1⟩
theorem stIndex (l:List UInt8) (c:UInt8) (w:World):Does Tryz.prog 191 [Str l,Str [c]] w (fun v w'=>v=.int .i64 (idxB l c)∧SH w w' [] []):=by
 refine fE (N:=8) Tryz.func191 r0 (by kernel_rfl) r0 ?_
 have hs0:=SH.refl w []
 refine sr (tA (I 0) r0 (nx (tm (Str l) r0 ?_)))
 refine tm (Str [c]) r0 (cL r0 (slIndexS (l:=l) (c:=c) (w:=_)) ?_)
 rintro _ w1 ⟨rfl,hs1⟩
 replace hs1:=hs0.call0 hs1
 refine tA (I (idxB l c)) r0 (nn (rt (fT (I (idxB l c)) r0 ?_)))
 exact⟨rfl,hs1⟩
theorem stCount (l:List UInt8) (c:UInt8) (w:World):Does Tryz.prog 190 [Str l,Str [c]] w (fun v w'=>v=.int .i64 ((l.count c:Nat):Int)∧SH w w' [] []):=by
 refine fE (N:=34) Tryz.func190 r0 (by kernel_rfl) r0 ?_
 have hs0:=SH.refl w []
 refine sr (tA (I 0) r0 (nn (sq (sr ?_))))
 refine tm (Str [c]) r0 (qt r0 (lnS (l:=[c]) st9 r0) (qt r0 (eqi (k:=.i64) (a:=(([c].length:Nat):Int)) (b:=0) r0 r0) (nn ?_)))
 refine cdd (p:=(([c].length:Nat):Int)=0) r0 (fun h1=>absurd h1 (by simp)) (fun h1=>?_)
 refine sk (nN (sq (sr (tm (Str [c]) r0 (qt r0 (lnS (l:=[c]) st9 r0) (qt r0 (eqi (k:=.i64) (a:=(([c].length:Nat):Int)) (b:=1) r0 r0) ?_))))))
 refine nn ?_
 refine cdd (p:=(([c].length:Nat):Int)=1) r0 (fun h2=>?_) (fun h2=>absurd (by rfl) h2)
 refine sr (tm (Str l) r0 (tm (Str [c]) r0 (qt r0 (ixs (l:=[c]) 0 st9 r0 r0 (by omega)) (qt r0 (csc (l:=l) (c:=([c].getD 0 0)) Tryz.func210 (by kernel_rfl) r0 (by kernel_rfl) (by kernel_rfl) r0 r0) (tA (I ((l.count ([c].getD 0 0):Nat):Int)) r0 (nl ?_))))))
 refine nN (rt (tR ?_))
 refine fT (I ((l.count ([c].getD 0 0):Nat):Int)) r0 ?_
 have e1:((l.count ([c].getD 0 0):Nat):Int)=((l.count c:Nat):Int):=by rfl
 exact⟨(congrArg (Value.int .i64) e1),hs0⟩
theorem genSplit (l:List UInt8) (c:UInt8) (w:World) (hl_n:l.length≤1099511627776):Does Tryz.prog 175 [Str l,Str [c],I 0,I (-1)] w (fun v w'=>∃ Ar:Option Addr,∃ cr:Nat,v=.slice Ar (splitB c l).length cr∧SH w w' [] [.own Ar ((splitB c l).length) cr 9 1 ((splitB c l).map Str)]):=by
 refine fE (N:=66) Tryz.func175 r0 (by kernel_rfl) r0 ?_
 have hs0:=SH.refl w []
 refine sr (tA ns r0 (nn (sq (sr ?_))))
 refine tm (I (-1)) r0 (qt r0 (eqi (k:=.i64) (a:=(-1)) (b:=0) r0 r0) (nn ?_))
 refine cdd (p:=((-1):Int)=0) r0 (fun h1=>absurd h1 (by decide)) (fun h1=>?_)
 refine sk (nN (sq (sr (tm (Str [c]) r0 (qt r0 (eqs (l:=[c]) (m:=[]) r0 r0) (nl ?_))))))
 refine nN ?_
 refine cdd (p:=[c]=[]) r0 (fun h2=>absurd h2 (by simp)) (fun h2=>?_)
 refine sk (nN (sq (sr (tm (I (-1)) r0 (qt r0 (lss (k:=.i64) (a:=(-1)) (b:=0) r0 r0) (nl ?_))))))
 refine nN ?_
 refine cdd (p:=(-1)<0) r0 (fun h3=>?_) (fun h3=>absurd (by decide) h3)
 refine rg (tm (Str l) r0 (tm (Str [c]) r0 (cL r0 (stCount (l:=l) (c:=c) (w:=_)) ?_)))
 rintro _ w1 ⟨rfl,hs1⟩
 replace hs1:=hs0.call0 hs1
 refine qt r0 (add (a:=((l.count c:Nat):Int)) (b:=1) r0 r0 (by(have hsl:=splitB_len c l; have hcl:=List.count_le_length (a:=c) (l:=l); exact⟨by omega,by omega⟩))) (tA (I (((l.count c:Nat):Int)+1)) r0 (nx (tm (I (((l.count c:Nat):Int)+1)) r0 (tm (Str l) r0 ?_))))
 refine qt r0 (lnS (l:=l) st9 r0) (qt r0 (add (a:=(l.length:Int)) (b:=1) r0 r0 (by(exact⟨by omega,by omega⟩))) (qt r0 (mnI (a:=((l.count c:Nat):Int)+1) (b:=(l.length:Int)+1) r0 r0) (tA (I (min (((l.count c:Nat):Int)+1) ((l.length:Int)+1))) r0 (nx ?_))))
 refine tm (I (min (((l.count c:Nat):Int)+1) ((l.length:Int)+1))) r0 (mkm (g:=Str) (z:=[]) (n:=(min (((l.count c:Nat):Int)+1) ((l.length:Int)+1)).toNat) hs1 sl147 r0 (ieq (x:=min (((l.count c:Nat):Int)+1) ((l.length:Int)+1)) (by(omega))) (ieq (x:=min (((l.count c:Nat):Int)+1) ((l.length:Int)+1)) (by(omega))) (by(omega)) (by unfold maxLen; (omega)) trivial r0 (fun b1 w2 hs2=>?_))
 refine tA (sb b1 ((List.replicate ((min (((l.count c:Nat):Int)+1) ((l.length:Int)+1)).toNat) ([]:List UInt8)).length) ((min (((l.count c:Nat):Int)+1) ((l.length:Int)+1)).toNat)) r0 (nx (tm (I (min (((l.count c:Nat):Int)+1) ((l.length:Int)+1))) r0 (qt r0 (sub (a:=min (((l.count c:Nat):Int)+1) ((l.length:Int)+1)) (b:=1) r0 r0 (by(exact⟨by omega,by omega⟩))) (tA (I ((min (((l.count c:Nat):Int)+1) ((l.length:Int)+1))-1)) r0 ?_))))
 refine nx (tA (I 0) r0 (nn (sq ?_)))
 refine bl ?_
 have e1:List.replicate ((min (((l.count c:Nat):Int)+1) ((l.length:Int)+1)).toNat) ([]:List UInt8)=(splitB c l).take 0++List.replicate ((splitB c l).length-0) ([]:List UInt8):=by have hsl:=splitB_len c l; have hcl:=List.count_le_length (a:=c) (l:=l); rw[show (min (((l.count c:Nat):Int)+1) ((l.length:Int)+1)).toNat=(splitB c l).length by omega]; simp
 have e2:(List.replicate ((min (((l.count c:Nat):Int)+1) ((l.length:Int)+1)).toNat) ([]:List UInt8)).length=(splitB c l).length:=by(have hsl:=splitB_len c l; have hcl:=List.count_le_length (a:=c) (l:=l); first | rfl | (simp; done) | (simp; omega) | omega)
 refine lp (σ:=(Option Addr)×Nat×Nat×(List UInt8)) (fun⟨Ag9,cg9,k,s⟩ f w'=>Hz f [(0,Str s),(1,Str [c]),(2,I 0),(3,I ((l.count c:Nat):Int)),(9,.slice Ag9 ((splitB c l).length) cg9),(10,I (k:Int))]∧(k<(splitB c l).length)∧(splitB c s=(splitB c l).drop k)∧(s.length≤l.length)∧SH w w' [] [.own Ag9 ((splitB c l).length) cg9 9 1 (((splitB c l).take k++List.replicate ((splitB c l).length-k) ([]:List UInt8)).map Str)]) (fun⟨Ag9,cg9,k,s⟩=>l.length+1-k) ((Z2 b1),(min (((l.count c:Nat):Int)+1) ((l.length:Int)+1)).toNat,0,l) ⟨(zH ⟨rfl,rfl,rfl,(show (I ((min (((l.count c:Nat):Int)+1) ((l.length:Int)+1))-1):Value)=I ((l.count c:Nat):Int) from congrArg (Value.int .i64) (by have hsl:=splitB_len c l; have hcl:=List.count_le_length (a:=c) (l:=l); omega)),(show (.slice (Z2 b1) ((List.replicate ((min (((l.count c:Nat):Int)+1) ((l.length:Int)+1)).toNat) ([]:List UInt8)).length) ((min (((l.count c:Nat):Int)+1) ((l.length:Int)+1)).toNat):Value)=.slice (Z2 b1) ((splitB c l).length) ((min (((l.count c:Nat):Int)+1) ((l.length:Int)+1)).toNat) from slv r0 e2 r0),rfl,trivial⟩),(by have hsl:=splitB_len c l; have hcl:=List.count_le_length (a:=c) (l:=l); omega),(by simp),(Nat.le_refl _),(hs2.cast (lc (own_eq (g:=Str) r0 e2 r0 e1) r0))⟩ ?_
 rintro ⟨Ag9,cg9,k,s⟩ f w3 ⟨⟨g1,rfl⟩,hk,hs_,hsn,hs3⟩
 refine sq (sr (tm (I (k:Int)) r0 (tm (I ((l.count c:Nat):Int)) r0 (qt r0 (lss (k:=.i64) (a:=(k:Int)) (b:=((l.count c:Nat):Int)) r0 r0) (nn ?_)))))
 refine cdd (p:=(k:Int)<((l.count c:Nat):Int)) r0 (fun h4=>?_) (fun h4=>?_)
 ·refine sk (nN (bl (sr (tm (Str s) r0 (tm (Str [c]) r0 (cL r0 (stIndex (l:=s) (c:=c) (w:=_)) ?_))))))
  rintro _ w4 ⟨rfl,hs4⟩
  replace hs4:=hs3.call0 hs4
  refine tA (I (idxB s c)) r0 (nn (sq (sr (tm (I (idxB s c)) r0 (qt r0 (lss (k:=.i64) (a:=idxB s c) (b:=0) r0 r0) ?_)))))
  refine nn ?_
  refine cdd (p:=(idxB s c)<0) r0 (fun h5=>?_) (fun h5=>?_)
  ·refine ex (tE (bX r0 (tE (bE ?_))))
   refine nN (sr (tm (.slice Ag9 ((splitB c l).length) cg9) r0 (tm (I (k:Int)) r0 (tm (Str s) r0 ?_))))
   obtain ⟨b2,rfl⟩:=own_form hs4 0 r0 (by(omega))
   refine qt r0 (ixo k sl147 r0 r0 (by(omega))) (stomn (g:=Str) (ys:=(splitB c l).take k++List.replicate ((splitB c l).length-k) ([]:List UInt8)) (o:=k) (u:=s) hs4 0 r0 r0 r0 r0 (by(omega)) r0 one9 trivial (fun w5 hs5=>?_))
   refine nx (tm (sb b2 ((splitB c l).length) cg9) r0 (tm (I (k:Int)) r0 (qt r0 (add (a:=(k:Int)) (b:=1) r0 r0 (by(have hsl:=splitB_len c l; have hcl:=List.count_le_length (a:=c) (l:=l); exact⟨by omega,by omega⟩))) ?_)))
   have e3:((((splitB c l).take k++List.replicate ((splitB c l).length-k) ([]:List UInt8)).set k s).map Str).take ((k+1)*1)=((((splitB c l).take k++List.replicate ((splitB c l).length-k) ([]:List UInt8)).set k s).take (k+1)).map Str:=by simp[List.map_take]
   have hs6:SH w w5 [] [.own (Z2 b2) (k+1) cg9 9 1 (((((splitB c l).take k++List.replicate ((splitB c l).length-k) ([]:List UInt8)).set k s).take (k+1)).map Str)]:=e3 ▸ SH.trunc hs5 0 (k+1) r0 (by(first | omega | (simp; omega)))
   refine qt r0 (cuh (k+1) sl147 r0 r0 (Nat.le_trans (by(first | omega | (simp; omega))) (own_cap hs5 0 r0).1)) (tA (sb b2 (k+1) cg9) r0 ?_)
   have e4:k+1=((((splitB c l).take k++List.replicate ((splitB c l).length-k) ([]:List UInt8)).set k s).take (k+1)).length:=by(first | rfl | (simp; done) | (simp; omega) | (simp at*; omega))
   have hs7:SH w w5 [] [.own (Z2 b2) (((((splitB c l).take k++List.replicate ((splitB c l).length-k) ([]:List UInt8)).set k s).take (k+1)).length) cg9 9 1 (((((splitB c l).take k++List.replicate ((splitB c l).length-k) ([]:List UInt8)).set k s).take (k+1)).map Str)]:=(hs6.cast (lc (own_eq (g:=Str) r0 e4 r0 r0) r0))
   refine re 8 (v:=sb b2 (((((splitB c l).take k++List.replicate ((splitB c l).length-k) ([]:List UInt8)).set k s).take (k+1)).length) cg9) (show (sb b2 (k+1) cg9:Value)=sb b2 (((((splitB c l).take k++List.replicate ((splitB c l).length-k) ([]:List UInt8)).set k s).take (k+1)).length) cg9 from slv r0 e4 r0) (nn (rt (fT (sb b2 (((((splitB c l).take k++List.replicate ((splitB c l).length-k) ([]:List UInt8)).set k s).take (k+1)).length) cg9) r0 ?_)))
   have e5:(((splitB c l).take k++List.replicate ((splitB c l).length-k) ([]:List UInt8)).set k s).take (k+1)=splitB c l:=by exact split_end (split_stop hs_ (by omega))
   have e6:=congrArg List.length e5
   exact⟨(Z2 b2),cg9,(slv r0 e6 r0),(hs7.cast (lc (own_eq (g:=Str) r0 e6 r0 e5) r0))⟩
  ·refine sk (nN (sr (tm (.slice Ag9 ((splitB c l).length) cg9) r0 (tm (I (k:Int)) r0 (tm (Str s) r0 (tm (I (idxB s c)) r0 ?_))))))
   refine tm (I 0) r0 (qt r0 (add (a:=idxB s c) (b:=0) r0 r0 (by(have hsl:=splitB_len c l; have hcl:=List.count_le_length (a:=c) (l:=l); have hib:=idxB_lt s c; (try have e1:[c].length=1:=rfl); exact⟨by omega,by omega⟩))) (qt r0 (cuhs (l:=s) (((idxB s c)+0).toNat) st9 r0 (ieq (x:=(idxB s c)+0) (by(omega))) (by(have hsl:=splitB_len c l; have hcl:=List.count_le_length (a:=c) (l:=l); have hib:=idxB_lt s c; (try have e1:[c].length=1:=rfl); first | omega | (simp; omega)))) ?_))
   obtain ⟨b3,rfl⟩:=own_form hs4 0 r0 (by(omega))
   refine qt r0 (ixo k sl147 r0 r0 (by(omega))) (stomn (g:=Str) (ys:=(splitB c l).take k++List.replicate ((splitB c l).length-k) ([]:List UInt8)) (o:=k) (u:=s.take (((idxB s c)+0).toNat)) hs4 0 r0 r0 r0 r0 (by(omega)) r0 one9 trivial (fun w6 hs8=>?_))
   refine nx (tm (Str s) r0 (tm (I (idxB s c)) r0 (tm (Str [c]) r0 (qt r0 (lnS (l:=[c]) st9 r0) ?_))))
   refine qt r0 (add (a:=idxB s c) (b:=(([c].length:Nat):Int)) r0 r0 (by(have hsl:=splitB_len c l; have hcl:=List.count_le_length (a:=c) (l:=l); have hib:=idxB_lt s c; (try have e1:[c].length=1:=rfl); exact⟨by omega,by omega⟩))) (qt r0 (culs (l:=s) (((idxB s c)+(([c].length:Nat):Int)).toNat) st9 r0 (ieq (x:=(idxB s c)+(([c].length:Nat):Int)) (by(omega))) (by(have hsl:=splitB_len c l; have hcl:=List.count_le_length (a:=c) (l:=l); have hib:=idxB_lt s c; (try have e1:[c].length=1:=rfl); first | omega | (simp; omega)))) (tA (Str (s.drop (((idxB s c)+(([c].length:Nat):Int)).toNat))) r0 (nn (rg (tm (I (k:Int)) r0 (qt r0 (add (a:=(k:Int)) (b:=1) r0 r0 (by(have hsl:=splitB_len c l; have hcl:=List.count_le_length (a:=c) (l:=l); exact⟨by omega,by omega⟩))) ?_))))))
   refine tA (I ((k:Int)+1)) r0 (nl (bN (nN ?_)))
   have e7:((splitB c l).take k++List.replicate ((splitB c l).length-k) ([]:List UInt8)).set k (s.take (((idxB s c)+0).toNat))=(splitB c l).take (k+1)++List.replicate ((splitB c l).length-(k+1)) ([]:List UInt8):=by exact split_set (split_take hs_ (by omega) (by omega))
   refine⟨((Z2 b3),cg9,k+1,(s.drop (((idxB s c)+(([c].length:Nat):Int)).toNat))),⟨(zR r0),(by have h_:=splitB_len c l; omega),(split_next hs_ (by omega) (by simp; omega)),(by simp; omega),(hs8.cast (lc (own_eq (g:=Str) r0 r0 r0 e7) r0))⟩,?_⟩
   show l.length+1-(k+1)<l.length+1-k
   (have hcl:=List.count_le_length (a:=c) (l:=l); omega)
 ·refine ex (tE (tE (bE ?_)))
  refine nN (sr (tm (.slice Ag9 ((splitB c l).length) cg9) r0 (tm (I (k:Int)) r0 (tm (Str s) r0 ?_))))
  obtain ⟨b4,rfl⟩:=own_form hs3 0 r0 (by(omega))
  refine qt r0 (ixo k sl147 r0 r0 (by(omega))) (stomn (g:=Str) (ys:=(splitB c l).take k++List.replicate ((splitB c l).length-k) ([]:List UInt8)) (o:=k) (u:=s) hs3 0 r0 r0 r0 r0 (by(omega)) r0 one9 trivial (fun w7 hs9=>?_))
  refine nx (tm (sb b4 ((splitB c l).length) cg9) r0 (tm (I (k:Int)) r0 (qt r0 (add (a:=(k:Int)) (b:=1) r0 r0 (by(have hsl:=splitB_len c l; have hcl:=List.count_le_length (a:=c) (l:=l); exact⟨by omega,by omega⟩))) ?_)))
  have e8:((((splitB c l).take k++List.replicate ((splitB c l).length-k) ([]:List UInt8)).set k s).map Str).take ((k+1)*1)=((((splitB c l).take k++List.replicate ((splitB c l).length-k) ([]:List UInt8)).set k s).take (k+1)).map Str:=by simp[List.map_take]
  have hs10:SH w w7 [] [.own (Z2 b4) (k+1) cg9 9 1 (((((splitB c l).take k++List.replicate ((splitB c l).length-k) ([]:List UInt8)).set k s).take (k+1)).map Str)]:=e8 ▸ SH.trunc hs9 0 (k+1) r0 (by(first | omega | (simp; omega)))
  refine qt r0 (cuh (k+1) sl147 r0 r0 (Nat.le_trans (by(first | omega | (simp; omega))) (own_cap hs9 0 r0).1)) (tA (sb b4 (k+1) cg9) r0 ?_)
  have e9:k+1=((((splitB c l).take k++List.replicate ((splitB c l).length-k) ([]:List UInt8)).set k s).take (k+1)).length:=by(first | rfl | (simp; done) | (simp; omega) | (simp at*; omega))
  have hs11:SH w w7 [] [.own (Z2 b4) (((((splitB c l).take k++List.replicate ((splitB c l).length-k) ([]:List UInt8)).set k s).take (k+1)).length) cg9 9 1 (((((splitB c l).take k++List.replicate ((splitB c l).length-k) ([]:List UInt8)).set k s).take (k+1)).map Str)]:=(hs10.cast (lc (own_eq (g:=Str) r0 e9 r0 r0) r0))
  refine re 8 (v:=sb b4 (((((splitB c l).take k++List.replicate ((splitB c l).length-k) ([]:List UInt8)).set k s).take (k+1)).length) cg9) (show (sb b4 (k+1) cg9:Value)=sb b4 (((((splitB c l).take k++List.replicate ((splitB c l).length-k) ([]:List UInt8)).set k s).take (k+1)).length) cg9 from slv r0 e9 r0) (nn (rt (fT (sb b4 (((((splitB c l).take k++List.replicate ((splitB c l).length-k) ([]:List UInt8)).set k s).take (k+1)).length) cg9) r0 ?_)))
  have e10:(((splitB c l).take k++List.replicate ((splitB c l).length-k) ([]:List UInt8)).set k s).take (k+1)=splitB c l:=by exact split_end (split_last hs_ hk (by omega))
  have e11:=congrArg List.length e10
  exact⟨(Z2 b4),cg9,(slv r0 e11 r0),(hs11.cast (lc (own_eq (g:=Str) r0 e11 r0 e10) r0))⟩
theorem stSplit (l:List UInt8) (c:UInt8) (w:World) (hl_n:l.length≤1099511627776):Does Tryz.prog 154 [Str l,Str [c]] w (fun v w'=>∃ Ar:Option Addr,∃ cr:Nat,v=.slice Ar (splitB c l).length cr∧SH w w' [] [.own Ar ((splitB c l).length) cr 9 1 ((splitB c l).map Str)]):=by
 refine fE (N:=8) Tryz.func154 r0 (by kernel_rfl) r0 ?_
 have hs0:=SH.refl w []
 refine sr (tA ns r0 (nx (tm (Str l) r0 ?_)))
 refine tm (Str [c]) r0 (cL r0 (genSplit (l:=l) (c:=c) (w:=_) (hl_n:=(by omega))) ?_)
 rintro _ w1 ⟨A1,c1,rfl,hs1⟩
 replace hs1:=hs0.call0 hs1
 refine tA (.slice A1 ((splitB c l).length) c1) r0 (nn (rt (fT (.slice A1 ((splitB c l).length) c1) r0 ?_)))
 exact⟨A1,c1,rfl,hs1⟩
theorem l2Cut (l:List UInt8) (c:UInt8) (w:World) (hl_n:l.length≤1099511627776):Does Tryz.prog 141 [Str l,.int .u8 (c.toNat:Int)] w (fun v w'=>∃ Ar:Option Addr,∃ cr:Nat,v=.slice Ar (splitB c l).length cr∧SH w w' [] [.own Ar ((splitB c l).length) cr 9 1 ((splitB c l).map Str)]):=by
 refine fE (N:=35) Tryz.func141 r0 (by kernel_rfl) r0 ?_
 have hs0:=SH.refl w []
 refine sr (tA ns r0 (nx (bsk hs0 sl147 [] [] trivial r0 (fun b1 w1 hs1=>?_))))
 refine tA (sb b1 (([]:List (List UInt8)).length) 0) r0 (nx (tA (I 0) r0 (nn ?_)))
 refine sq (sr (tA (I 0) r0 (nn (bl (lp (σ:=(Option Addr)×Nat×Nat×Nat×(List (List UInt8))) (fun⟨Ag5,cg5,i,a,zs⟩ f w'=>Hz f [(0,Str l),(1,.int .u8 (c.toNat:Int)),(5,.slice Ag5 zs.length cg5),(6,I (a:Int)),(7,I (i:Int))]∧(i≤l.length)∧(a≤i)∧(zs++splitB c (l.drop a)=splitB c l)∧(∀ j,a≤j→j<i→l.getD j 0≠c)∧SH w w' [] [.own Ag5 zs.length cg5 9 1 (zs.map Str)]) (fun⟨Ag5,cg5,i,a,zs⟩=>l.length-i) ((Z2 b1),0,0,0,([]:List (List UInt8))) ⟨(zR r0),(by omega),(by omega),(by simp),(by intro j _ hj; omega),hs1⟩ ?_)))))
 rintro ⟨Ag5,cg5,i,a,zs⟩ f w2 ⟨⟨g1,rfl⟩,hi,ha,hz,hn,hs2⟩
 refine sq (sr (tm (I (i:Int)) r0 (tm (Str l) r0 (qt r0 (lnS (l:=l) st9 r0) (qt r0 (lss (k:=.i64) (a:=(i:Int)) (b:=(l.length:Int)) r0 r0) (nl ?_))))))
 refine nN ?_
 refine cdd (p:=(i:Int)<(l.length:Int)) r0 (fun h1=>?_) (fun h1=>?_)
 ·refine sk (nN (sq (bl (sr (tm (Str l) r0 (tm (I (i:Int)) r0 ?_))))))
  refine qt r0 (ixs (l:=l) i st9 r0 r0 (by(omega))) (tm (.int .u8 (c.toNat:Int)) r0 (qt r0 (eqi (k:=.u8) (a:=(((l.getD i 0).toNat:Nat):Int)) (b:=(c.toNat:Int)) r0 r0) (nn ?_)))
  refine cdd (p:=(((l.getD i 0).toNat:Nat):Int)=(c.toNat:Int)) r0 (fun h2=>?_) (fun h2=>?_)
  ·refine sr (tm (.slice Ag5 zs.length cg5) r0 (tm (Str l) r0 (tm (I (a:Int)) r0 (tm (I (i:Int)) r0 (qt r0 (cus (l:=l) a i st9 r0 r0 r0 (by(omega)) (by(omega))) (bsk hs2 sl147 [Str ((l.take i).drop a)] [Str ((l.take i).drop a)] trivial r0 (fun b2 w3 hs3=>?_)))))))
   refine apm (g:=Str) (ys:=zs) (zs:=([(l.take i).drop a]:List (List UInt8))) hs3 0 r0 sl147 r0 r0 r0 (hs3.sl0 1 r0) (fun _=>rfl) (by unfold maxLen; (have hzl:=cut_len hz; (simp; omega))) (by(have hzl:=cut_len hz; (simp; omega))) trivial r0 (fun A1 c1 w4 hs4=>?_)
   refine tA (.slice A1 ((zs++([(l.take i).drop a]:List (List UInt8))).length) c1) r0 (nn (rg (tm (I (i:Int)) r0 (qt r0 (add (a:=(i:Int)) (b:=1) r0 r0 (by(exact⟨by omega,by omega⟩))) (tA (I ((i:Int)+1)) r0 (nl ?_))))))
   refine bN (nN (rg (tm (I (i:Int)) r0 (qt r0 (add (a:=(i:Int)) (b:=1) r0 r0 (by(exact⟨by omega,by omega⟩))) (tA (I ((i:Int)+1)) r0 (nn ?_))))))
   refine⟨(A1,c1,i+1,i+1,(zs++([(l.take i).drop a]:List (List UInt8)))),⟨(zR r0),(by omega),(by omega),(cut_step hz ha (by omega) hn (u8_eq (by omega))),(by intro j h_ hj; omega),(hs4.pk [1] r0)⟩,?_⟩
   show l.length-(i+1)<l.length-i
   omega
  ·refine sk (bN (nN (rg (tm (I (i:Int)) r0 (qt r0 (add (a:=(i:Int)) (b:=1) r0 r0 (by(exact⟨by omega,by omega⟩))) (tA (I ((i:Int)+1)) r0 (nl ?_)))))))
   refine nN ?_
   refine⟨(Ag5,cg5,i+1,a,zs),⟨(zR r0),(by omega),(by omega),(hz),(by intro j h_ hj; rcases Nat.lt_succ_iff_lt_or_eq.1 hj with h | h; exact hn j h_ h; subst h; intro he; exact absurd (congrArg (fun z=>((UInt8.toNat z:Nat):Int)) he) (by assumption)),hs2⟩,?_⟩
   show l.length-(i+1)<l.length-i
   omega
 ·refine ex (tE (tE (bE ?_)))
  refine nN (sr (tm (.slice Ag5 zs.length cg5) r0 (tm (Str l) r0 (tm (I (a:Int)) r0 (qt r0 (culs (l:=l) a st9 r0 r0 (by(omega))) (bsk hs2 sl147 [Str (l.drop a)] [Str (l.drop a)] trivial r0 (fun b3 w5 hs5=>?_)))))))
  refine apm (g:=Str) (ys:=zs) (zs:=([l.drop a]:List (List UInt8))) hs5 0 r0 sl147 r0 r0 r0 (hs5.sl0 1 r0) (fun _=>rfl) (by unfold maxLen; (have hzl:=cut_len hz; (simp; omega))) (by(have hzl:=cut_len hz; (simp; omega))) trivial r0 (fun A2 c2 w6 hs6=>?_)
  refine tA (.slice A2 ((zs++([l.drop a]:List (List UInt8))).length) c2) r0 (nn (rt (fT (.slice A2 ((zs++([l.drop a]:List (List UInt8))).length) c2) r0 ?_)))
  have e1:zs++([l.drop a]:List (List UInt8))=splitB c l:=by exact cut_end hz (by omega) hn
  have e2:=congrArg List.length e1
  exact⟨A2,c2,(slv r0 e2 r0),((hs6.pq [1] r0).cast (lc (own_eq (g:=Str) r0 e2 r0 e1) r0))⟩
theorem iNameValid (l:List UInt8) (w:World) (hl_n:l.length≤1099511627776):Does Tryz.prog 123 [Str l] w (fun v w'=>v=.bool (nameOk l)∧SH w w' [] []):=by
 refine fE (N:=35) Tryz.func123 r0 (by kernel_rfl) r0 ?_
 have hs0:=SH.refl w []
 refine sr (tA (.bool false) r0 (nx (tm (Str l) r0 ?_)))
 refine cL r0 (stSplit (l:=l) (c:=46) (w:=_) (hl_n:=(by(omega)))) ?_
 rintro _ w1 ⟨A1,c1,rfl,hs1⟩
 replace hs1:=hs0.call0 hs1
 refine tA (.slice A1 ((splitB 46 l).length) c1) r0 (nn (sq (sr (tm (.slice A1 ((splitB 46 l).length) c1) r0 (qt r0 (lnA (n:=(splitB 46 l).length) sl147 r0) ?_)))))
 refine tm (I 0) r0 (nn (bl (lp (σ:=Nat) (fun(k:Nat) f w'=>Hz f [(0,Str l),(3,.slice A1 ((splitB 46 l).length) c1),(8,.slice A1 ((splitB 46 l).length) c1),(9,I (((splitB 46 l).length:Nat):Int)),(10,I (k:Int))]∧(k≤(splitB 46 l).length)∧(((splitB 46 l).take k).all partOk=true)∧SH w w' [] [.own A1 ((splitB 46 l).length) c1 9 1 ((splitB 46 l).map Str)]) (fun k=>(splitB 46 l).length-k) 0 ⟨(zR r0),(by simp),(by simp),hs1⟩ ?_)))
 rintro k f w2 ⟨⟨g1,rfl⟩,hk,ha,hs2⟩
 refine sr (qt r0 (lss (k:=.i64) (a:=(k:Int)) (b:=(((splitB 46 l).length:Nat):Int)) r0 r0) (nn (sq ?_)))
 refine cdd (p:=(k:Int)<(((splitB 46 l).length:Nat):Int)) r0 (fun h1=>?_) (fun h1=>?_)
 ·refine sk (nN (sq (bl (sr (ixw1 k sl147 r0 r0 (hs2.sl0 0 r0) (by(omega)) (getm Str [] (by(omega))) trivial r0 (fun a1 ha1=>?_))))))
  refine qt r0 (lda (v:=Str ((splitB 46 l).getD k [])) (SH.refl w2 []) ha1 (fun _ h=>h) r0 r0 one9) (tA (Str ((splitB 46 l).getD k [])) r0 (nx (tm (Str ((splitB 46 l).getD k [])) r0 (qt r0 (eqs (l:=(splitB 46 l).getD k []) (m:=[]) r0 r0) ?_))))
  refine tm (.bool (decide ((splitB 46 l).getD k []=[]))) r0 ?_
  refine spd (p:=(splitB 46 l).getD k []=[]) 16 r0 (fun h2=>?_) (fun h2=>?_)
  ·refine gt5 r0 (gt5 r0 (gt5 r0 (qt r0 (pt (v:=.bool true) r0 r0) (nn (cdt r0 (sq ?_))))))
   refine rg (tA (.bool false) r0 (nn ?_))
   refine rt (bR (tR (tR (bR (tR ?_)))))
   refine fT (.bool false) r0 ?_
   have e1:false=nameOk l:=by(exact(name_bad (k:=k) (by omega) (part_nil (by assumption))).symm)
   exact⟨(congrArg (Value.bool) e1),(hs2.pk [] r0)⟩
  ·refine q ⟨_,rfl,rfl⟩ r0 r0 (mv (v:=Str ((splitB 46 l).getD k [])) r0) (cl ⟨_,rfl,rfl⟩ r0 (iConsists (l:=(splitB 46 l).getD k []) (m:=[45]) (w:=_) (hl_n:=(by(have hsb:=splitB_getD 46 l k; have hsl:=splitB_len 46 l; have hcl:=List.count_le_length (a:=(46:UInt8)) (l:=l); omega)))) ?_)
   rintro _ w3 ⟨rfl,hs3⟩
   replace hs3:=hs2.call0 hs3
   refine q ⟨_,rfl,rfl⟩ r0 r0 (nt (b:=((splitB 46 l).getD k []).all (okC [45])) r0) (qt r0 (pf (v:=.bool (!(((splitB 46 l).getD k []).all (okC [45])))) r0 r0) (nn ?_))
   refine cd (b:=!(((splitB 46 l).getD k []).all (okC [45]))) r0 (fun h3=>?_) (fun h3=>?_)
   ·have h4:(((splitB 46 l).getD k []).all (okC [45]))=false:=by simpa using h3
    refine sr (tA (.bool false) r0 (nn ?_))
    refine rt (bR (tR (tR (bR (tR ?_)))))
    refine fT (.bool false) r0 ?_
    have e2:false=nameOk l:=by(exact(name_bad (k:=k) (by omega) (part_bad (by assumption))).symm)
    exact⟨(congrArg (Value.bool) e2),(hs3.pk [] r0)⟩
   ·have h5:(((splitB 46 l).getD k []).all (okC [45]))=true:=by simpa using h3
    refine sk (bN (nN (rg (qt r0 (add (a:=(k:Int)) (b:=1) r0 r0 (by(have hsb:=splitB_getD 46 l k; have hsl:=splitB_len 46 l; have hcl:=List.count_le_length (a:=(46:UInt8)) (l:=l); exact⟨by omega,by omega⟩))) (tm (I ((k:Int)+1)) r0 (nn ?_))))))
    refine⟨(k+1),⟨(zR r0),(by omega),(all_step (d:=[]) (by omega) ha (part_mk (by assumption) (by assumption))),hs3⟩,?_⟩
    omega
 ·refine ex (tE (tE (bE ?_)))
  refine nN (sr (tm (Str l) r0 (qt r0 (lnS (l:=l) st9 r0) (qt r0 (leq (k:=.i64) (a:=(l.length:Int)) (b:=20) r0 r0) (tm (.bool (decide ((l.length:Int)≤20))) r0 ?_)))))
  refine spd (p:=(l.length:Int)≤20) 25 r0 (fun h6=>?_) (fun h6=>?_)
  ·refine q ⟨_,rfl,rfl⟩ r0 r0 (mv (v:=.slice A1 ((splitB 46 l).length) c1) r0) (q ⟨_,rfl,rfl⟩ r0 r0 (mv (v:=.slice A1 ((splitB 46 l).length) c1) r0) (q ⟨_,rfl,rfl⟩ r0 r0 (lnA (n:=(splitB 46 l).length) sl147 r0) (q ⟨_,rfl,rfl⟩ r0 r0 (subN (a:=(splitB 46 l).length) (b:=1) r0 r0 (by have hsb:=splitB_getD 46 l k; have hsl:=splitB_len 46 l; have hcl:=List.count_le_length (a:=(46:UInt8)) (l:=l); have:=splitB_pos 46 l; omega) (by have hsb:=splitB_getD 46 l k; have hsl:=splitB_len 46 l; have hcl:=List.count_le_length (a:=(46:UInt8)) (l:=l); have:=splitB_pos 46 l; omega)) (ixw1 (((splitB 46 l).length)-1) sl147 r0 r0 (hs2.sl0 0 r0) (by(have hsb:=splitB_getD 46 l k; have hsl:=splitB_len 46 l; have hcl:=List.count_le_length (a:=(46:UInt8)) (l:=l); omega)) (getm Str [] (by(have hsb:=splitB_getD 46 l k; have hsl:=splitB_len 46 l; have hcl:=List.count_le_length (a:=(46:UInt8)) (l:=l); omega))) ⟨_,rfl,rfl⟩ r0 (fun a2 ha2=>?_)))))
   refine q ⟨_,rfl,rfl⟩ r0 r0 (lda (v:=Str ((splitB 46 l).getD (((splitB 46 l).length)-1) [])) (SH.refl w2 []) ha2 (fun _ h=>h) r0 r0 one9) (q ⟨_,rfl,rfl⟩ r0 r0 (ixs (l:=(splitB 46 l).getD (((splitB 46 l).length)-1) []) 0 st9 r0 r0 (by exact name_last (by omega) ha (by have:=splitB_pos 46 l; omega))) (cl ⟨_,rfl,rfl⟩ r0 (iLetter (c:=(((splitB 46 l).getD (((splitB 46 l).length)-1) []).getD 0 0)) (w:=_)) ?_))
   rintro _ w4 ⟨rfl,hs4⟩
   replace hs4:=hs2.call0 hs4
   refine qt r0 (pt (v:=.bool (decide (97≤(((((splitB 46 l).getD (((splitB 46 l).length)-1) []).getD 0 0).toNat:Nat):Int)∧(((((splitB 46 l).getD (((splitB 46 l).length)-1) []).getD 0 0).toNat:Nat):Int)≤122))) r0 r0) (tA (.bool (decide (97≤(((((splitB 46 l).getD (((splitB 46 l).length)-1) []).getD 0 0).toNat:Nat):Int)∧(((((splitB 46 l).getD (((splitB 46 l).length)-1) []).getD 0 0).toNat:Nat):Int)≤122))) r0 (nn (rt (fT (.bool (decide (97≤(((((splitB 46 l).getD (((splitB 46 l).length)-1) []).getD 0 0).toNat:Nat):Int)∧(((((splitB 46 l).getD (((splitB 46 l).length)-1) []).getD 0 0).toNat:Nat):Int)≤122))) r0 ?_))))
   have e3:(decide (97≤(((((splitB 46 l).getD (((splitB 46 l).length)-1) []).getD 0 0).toNat:Nat):Int)∧(((((splitB 46 l).getD (((splitB 46 l).length)-1) []).getD 0 0).toNat:Nat):Int)≤122))=nameOk l:=by(exact(name_end2 (by omega) ha (by omega)).symm)
   exact⟨(congrArg (Value.bool) e3),(hs4.pk [] r0)⟩
  ·refine gf5 r0 (gf5 r0 (gf5 r0 (gf5 r0 (gf5 r0 (gf5 r0 (gf5 r0 (gf5 r0 ?_)))))))
   refine qt r0 (pf (v:=.bool false) r0 r0) (tA (.bool false) r0 (nn (rt (fT (.bool false) r0 ?_))))
   have e4:false=nameOk l:=by(exact(name_end1 (by omega) ha (by omega)).symm)
   exact⟨(congrArg (Value.bool) e4),(hs2.pk [] r0)⟩
theorem sNameValid (l:List UInt8) (w:World) (hl_n:l.length≤1099511627776):Does Tryz.prog 163 [Str l] w (fun v w'=>v=.bool (nameOk l)∧SH w w' [] []):=by
 refine fE (N:=53) Tryz.func163 r0 (by kernel_rfl) r0 ?_
 have hs0:=SH.refl w []
 refine sr (tA (.bool false) r0 (nx (tm (Str l) r0 ?_)))
 refine cL r0 (l2Cut (l:=l) (c:=(46:UInt8)) (w:=_) (hl_n:=(by(omega)))) ?_
 rintro _ w1 ⟨A1,c1,rfl,hs1⟩
 replace hs1:=hs0.call0 hs1
 refine tA (.slice A1 ((splitB (46:UInt8) l).length) c1) r0 (nn (sq (sr (tA (I 0) r0 (nl ?_)))))
 refine nN (bl (lp (σ:=Nat) (fun(k:Nat) f w'=>Hz f [(0,Str l),(3,.slice A1 ((splitB (46:UInt8) l).length) c1),(4,I (k:Int))]∧(k≤(splitB 46 l).length)∧(((splitB 46 l).take k).all partOk=true)∧SH w w' [] [.own A1 ((splitB (46:UInt8) l).length) c1 9 1 ((splitB (46:UInt8) l).map Str)]) (fun k=>(splitB 46 l).length-k) 0 ⟨(zR r0),(by simp),(by simp),hs1⟩ ?_))
 rintro k f w2 ⟨⟨g1,rfl⟩,hk,ha,hs2⟩
 refine sq (sr (tm (I (k:Int)) r0 (tm (.slice A1 ((splitB (46:UInt8) l).length) c1) r0 (qt r0 (lnA (n:=(splitB (46:UInt8) l).length) sl147 r0) (qt r0 (lss (k:=.i64) (a:=(k:Int)) (b:=(((splitB (46:UInt8) l).length:Nat):Int)) r0 r0) (nl ?_))))))
 refine nN ?_
 refine cdd (p:=(k:Int)<(((splitB (46:UInt8) l).length:Nat):Int)) r0 (fun h1=>?_) (fun h1=>?_)
 ·refine sk (nN (sq (bl (sr (tm (.slice A1 ((splitB (46:UInt8) l).length) c1) r0 (tm (I (k:Int)) r0 ?_))))))
  refine ixw1 k sl147 r0 r0 (hs2.sl0 0 r0) (by(omega)) (getm Str [] (by(omega))) trivial r0 (fun a1 ha1=>?_)
  refine qt r0 (lda (v:=Str ((splitB (46:UInt8) l).getD k [])) (SH.refl w2 []) ha1 (fun _ h=>h) r0 r0 one9) (tA (Str ((splitB (46:UInt8) l).getD k [])) r0 (nn (sq (sr (tm (Str ((splitB (46:UInt8) l).getD k [])) r0 ?_)))))
  refine qt r0 (lnS (l:=(splitB (46:UInt8) l).getD k []) st9 r0) (qt r0 (eqi (k:=.i64) (a:=((((splitB (46:UInt8) l).getD k []).length:Nat):Int)) (b:=0) r0 r0) (nn ?_))
  refine cdd (p:=((((splitB (46:UInt8) l).getD k []).length:Nat):Int)=0) r0 (fun h2=>?_) (fun h2=>?_)
  ·refine sr (tA (.bool false) r0 (nn ?_))
   refine rt (tR (bR (tR (tR (bR (tR ?_))))))
   refine fT (.bool false) r0 ?_
   have e1:false=nameOk l:=by(exact(name_bad (k:=k) (by omega) (part_len0 (by omega))).symm)
   exact⟨(congrArg (Value.bool) e1),(hs2.pk [] r0)⟩
  ·refine sk (nN (sr (tA (I 0) r0 (nn (bl ?_)))))
   refine lp (σ:=Nat) (fun(j:Nat) f w'=>Hz f [(0,Str l),(3,.slice A1 ((splitB (46:UInt8) l).length) c1),(4,I (k:Int)),(5,Str ((splitB (46:UInt8) l).getD k [])),(6,I (j:Int))]∧(j≤((splitB 46 l).getD k []).length)∧((((splitB 46 l).getD k []).take j).all letC=true)∧SH w w' [] [.own A1 ((splitB (46:UInt8) l).length) c1 9 1 ((splitB (46:UInt8) l).map Str)]) (fun j=>((splitB 46 l).getD k []).length-j) 0 ⟨(zR r0),(by simp),(by simp),hs2⟩ ?_
   rintro j f w3 ⟨⟨g2,rfl⟩,hj,hb,hs3⟩
   refine sq (sr (tm (I (j:Int)) r0 (tm (Str ((splitB (46:UInt8) l).getD k [])) r0 (qt r0 (lnS (l:=(splitB (46:UInt8) l).getD k []) st9 r0) (qt r0 (lss (k:=.i64) (a:=(j:Int)) (b:=((((splitB (46:UInt8) l).getD k []).length:Nat):Int)) r0 r0) (nl ?_))))))
   refine nN ?_
   refine cdd (p:=(j:Int)<((((splitB (46:UInt8) l).getD k []).length:Nat):Int)) r0 (fun h3=>?_) (fun h3=>?_)
   ·refine sk (nN (sq (bl (sr (tm (Str ((splitB (46:UInt8) l).getD k [])) r0 (tm (I (j:Int)) r0 ?_))))))
    refine qt r0 (ixs (l:=(splitB (46:UInt8) l).getD k []) j st9 r0 r0 (by omega)) (cL r0 (sLetter (c:=(((splitB (46:UInt8) l).getD k []).getD j 0)) (w:=_)) ?_)
    rintro _ w4 ⟨rfl,hs4⟩
    replace hs4:=hs3.call0 hs4
    refine qt r0 (nt (b:=letC (((splitB (46:UInt8) l).getD k []).getD j 0)) r0) (nn ?_)
    refine cd (b:=!(letC (((splitB (46:UInt8) l).getD k []).getD j 0))) r0 (fun h4=>?_) (fun h4=>?_)
    ·have h5:(letC (((splitB (46:UInt8) l).getD k []).getD j 0))=false:=by simpa using h4
     refine sr (tA (.bool false) r0 (nn ?_))
     refine rt (bR (tR (tR (bR (bR (tR (tR (bR (tR ?_)))))))))
     refine fT (.bool false) r0 ?_
     have e2:false=nameOk l:=by(exact(name_bad (k:=k) (by omega) (part_bad1 (j:=j) (by omega) (by assumption))).symm)
     exact⟨(congrArg (Value.bool) e2),(hs4.pk [] r0)⟩
    ·have h6:(letC (((splitB (46:UInt8) l).getD k []).getD j 0))=true:=by simpa using h4
     refine sk (bN (nN (rg (tm (I (j:Int)) r0 (qt r0 (add (a:=(j:Int)) (b:=1) r0 r0 (by(have hsb:=splitB_getD 46 l k; have hsl:=splitB_len 46 l; have hcl:=List.count_le_length (a:=(46:UInt8)) (l:=l); exact⟨by omega,by omega⟩))) (tA (I ((j:Int)+1)) r0 (nl ?_)))))))
     refine nN ?_
     refine⟨(j+1),⟨(zR r0),(by omega),(all_step (d:=0) (by omega) hb (by assumption)),hs4⟩,?_⟩
     omega
   ·refine ex (tE (tE (bE ?_)))
    refine bN (nN (rg (tm (I (k:Int)) r0 (qt r0 (add (a:=(k:Int)) (b:=1) r0 r0 (by(have hsb:=splitB_getD 46 l k; have hsl:=splitB_len 46 l; have hcl:=List.count_le_length (a:=(46:UInt8)) (l:=l); exact⟨by omega,by omega⟩))) (tA (I ((k:Int)+1)) r0 (nn ?_))))))
    refine⟨(k+1),⟨(zR r0),(by omega),(all_step (d:=[]) (by omega) ha (part_mk1 (j:=j) (by omega) (by omega) hb)),hs3⟩,?_⟩
    omega
 ·refine ex (tE (tE (bE ?_)))
  refine nN (sr (tm (.slice A1 ((splitB (46:UInt8) l).length) c1) r0 (tm (.slice A1 ((splitB (46:UInt8) l).length) c1) r0 (qt r0 (lnA (n:=(splitB (46:UInt8) l).length) sl147 r0) (qt r0 (subN (a:=(splitB (46:UInt8) l).length) (b:=1) r0 r0 (by have hsb:=splitB_getD 46 l k; have hsl:=splitB_len 46 l; have hcl:=List.count_le_length (a:=(46:UInt8)) (l:=l); have:=splitB_pos 46 l; omega) (by have hsb:=splitB_getD 46 l k; have hsl:=splitB_len 46 l; have hcl:=List.count_le_length (a:=(46:UInt8)) (l:=l); have:=splitB_pos 46 l; omega)) (ixw1 (((splitB (46:UInt8) l).length)-1) sl147 r0 r0 (hs2.sl0 0 r0) (by(have hsb:=splitB_getD 46 l k; have hsl:=splitB_len 46 l; have hcl:=List.count_le_length (a:=(46:UInt8)) (l:=l); omega)) (getm Str [] (by(have hsb:=splitB_getD 46 l k; have hsl:=splitB_len 46 l; have hcl:=List.count_le_length (a:=(46:UInt8)) (l:=l); omega))) trivial r0 (fun a2 ha2=>?_)))))))
  refine qt r0 (lda (v:=Str ((splitB (46:UInt8) l).getD (((splitB (46:UInt8) l).length)-1) [])) (SH.refl w2 []) ha2 (fun _ h=>h) r0 r0 one9) (tA (Str ((splitB (46:UInt8) l).getD (((splitB (46:UInt8) l).length)-1) [])) r0 (nx (tm (Str l) r0 (qt r0 (lnS (l:=l) st9 r0) ?_))))
  refine qt r0 (leq (k:=.i64) (a:=(l.length:Int)) (b:=20) r0 r0) (tm (.bool (decide ((l.length:Int)≤20))) r0 ?_)
  refine spd (p:=(l.length:Int)≤20) 43 r0 (fun h7=>?_) (fun h7=>?_)
  ·refine q ⟨_,rfl,rfl⟩ r0 r0 (mv (v:=Str ((splitB (46:UInt8) l).getD (((splitB (46:UInt8) l).length)-1) [])) r0) (q ⟨_,rfl,rfl⟩ r0 r0 (ixs (l:=(splitB (46:UInt8) l).getD (((splitB (46:UInt8) l).length)-1) []) 0 st9 r0 r0 (by exact name_last (by omega) ha (by have:=splitB_pos 46 l; omega))) (q ⟨_,rfl,rfl⟩ r0 r0 (geq (k:=.u8) (a:=(((((splitB (46:UInt8) l).getD (((splitB (46:UInt8) l).length)-1) []).getD 0 0).toNat:Nat):Int)) (b:=97) r0 r0) (qt r0 (pt (v:=.bool (decide ((97:Int)≤(((((splitB (46:UInt8) l).getD (((splitB (46:UInt8) l).length)-1) []).getD 0 0).toNat:Nat):Int)))) r0 r0) (tm (.bool (decide ((97:Int)≤(((((splitB (46:UInt8) l).getD (((splitB (46:UInt8) l).length)-1) []).getD 0 0).toNat:Nat):Int)))) r0 ?_))))
   refine spd (p:=(97:Int)≤(((((splitB (46:UInt8) l).getD (((splitB (46:UInt8) l).length)-1) []).getD 0 0).toNat:Nat):Int)) 48 r0 (fun h8=>?_) (fun h8=>?_)
   ·refine q ⟨_,rfl,rfl⟩ r0 r0 (mv (v:=Str ((splitB (46:UInt8) l).getD (((splitB (46:UInt8) l).length)-1) [])) r0) (q ⟨_,rfl,rfl⟩ r0 r0 (ixs (l:=(splitB (46:UInt8) l).getD (((splitB (46:UInt8) l).length)-1) []) 0 st9 r0 r0 (by exact name_last (by omega) ha (by have:=splitB_pos 46 l; omega))) (q ⟨_,rfl,rfl⟩ r0 r0 (leq (k:=.u8) (a:=(((((splitB (46:UInt8) l).getD (((splitB (46:UInt8) l).length)-1) []).getD 0 0).toNat:Nat):Int)) (b:=122) r0 r0) (qt r0 (pt (v:=.bool (decide ((((((splitB (46:UInt8) l).getD (((splitB (46:UInt8) l).length)-1) []).getD 0 0).toNat:Nat):Int)≤122))) r0 r0) (tA (.bool (decide ((((((splitB (46:UInt8) l).getD (((splitB (46:UInt8) l).length)-1) []).getD 0 0).toNat:Nat):Int)≤122))) r0 (nn (rt ?_))))))
    refine fT (.bool (decide ((((((splitB (46:UInt8) l).getD (((splitB (46:UInt8) l).length)-1) []).getD 0 0).toNat:Nat):Int)≤122))) r0 ?_
    have e3:(decide ((((((splitB (46:UInt8) l).getD (((splitB (46:UInt8) l).length)-1) []).getD 0 0).toNat:Nat):Int)≤122))=nameOk l:=by exact name_end3 (by omega) ha (by omega) (by assumption)
    exact⟨(congrArg (Value.bool) e3),(hs2.pk [] r0)⟩
   ·refine gf5 r0 (gf5 r0 (gf5 r0 (qt r0 (pf (v:=.bool false) r0 r0) (tA (.bool false) r0 (nn (rt ?_))))))
    refine fT (.bool false) r0 ?_
    have e4:false=nameOk l:=by exact name_end4 (by omega) ha (by omega) (by assumption)
    exact⟨(congrArg (Value.bool) e4),(hs2.pk [] r0)⟩
  ·refine gf5 r0 (gf5 r0 (gf5 r0 (qt r0 (pf (v:=.bool false) r0 r0) (tm (.bool false) r0 (gf5 r0 (gf5 r0 (gf5 r0 ?_)))))))
   refine qt r0 (pf (v:=.bool false) r0 r0) (tA (.bool false) r0 (nn (rt (fT (.bool false) r0 ?_))))
   have e5:false=nameOk l:=by(exact(name_end1 (by omega) ha (by omega)).symm)
   exact⟨(congrArg (Value.bool) e5),(hs2.pk [] r0)⟩
theorem iQuadValid {Aqs:Option Addr} {cqs:Nat} (qs:List Int) (w:World) (hqs:Sl w [] 1 Aqs qs.length cqs (qs.map I)):Does Tryz.prog 121 [.slice Aqs qs.length cqs] w (fun v w'=>v=.bool (quadOk qs)∧SH w w' [] []):=by
 refine fE (N:=10) Tryz.func121 r0 (by kernel_rfl) r0 ?_
 have hs0:=SH.refl w []
 have hqs_m:qs.length≤9223372036854775807:=Nat.le_trans hqs.cap hqs.capMax
 refine sr (tA (.bool false) r0 (nx (tm (Z4 Aqs qs cqs) r0 ?_)))
 refine qt r0 (lnA (n:=qs.length) sl22 r0) (qt r0 (eqi (k:=.i64) (a:=(qs.length:Int)) (b:=4) r0 r0) (tm (.bool (decide ((qs.length:Int)=4))) r0 ?_))
 refine spd (p:=(qs.length:Int)=4) 6 r0 (fun h1=>?_) (fun h1=>?_)
 ·refine q ⟨_,rfl,rfl⟩ r0 r0 (mv (v:=.slice Aqs qs.length cqs) r0) (cl ⟨_,rfl,rfl⟩ r0 (iBytesValid (Azs:=Aqs) (czs:=cqs) (zs:=qs) (w:=_) (hzs:=(hqs.up0 hs0))) ?_)
  rintro _ w1 ⟨rfl,hs1⟩
  replace hs1:=hs0.call0 hs1
  refine qt r0 (pt (v:=.bool (isBytes qs)) r0 r0) (tA (.bool (isBytes qs)) r0 (nn (rt (fT (.bool (isBytes qs)) r0 ?_))))
  have e1:(isBytes qs)=quadOk qs:=by simp[quadOk,h1] <;> omega
  exact⟨(congrArg (Value.bool) e1),hs1⟩
 ·refine gf5 r0 (gf5 r0 (qt r0 (pf (v:=.bool false) r0 r0) (tA (.bool false) r0 (nn (rt (fT (.bool false) r0 ?_))))))
  have e2:false=quadOk qs:=by simp[quadOk,h1] <;> omega
  exact⟨(congrArg (Value.bool) e2),hs0⟩
theorem sQuadValid {Aqs:Option Addr} {cqs:Nat} (qs:List Int) (w:World) (hqs:Sl w [] 1 Aqs qs.length cqs (qs.map I)):Does Tryz.prog 162 [.slice Aqs qs.length cqs] w (fun v w'=>v=.bool (quadOk qs)∧SH w w' [] []):=by
 refine fE (N:=10) Tryz.func162 r0 (by kernel_rfl) r0 ?_
 have hs0:=SH.refl w []
 have hqs_m:qs.length≤9223372036854775807:=Nat.le_trans hqs.cap hqs.capMax
 refine sr (tA (.bool false) r0 (nx (tm (Z4 Aqs qs cqs) r0 ?_)))
 refine cL r0 (sBytesValid (Azs:=Aqs) (czs:=cqs) (zs:=qs) (w:=_) (hzs:=(hqs.up0 hs0))) ?_
 rintro _ w1 ⟨rfl,hs1⟩
 replace hs1:=hs0.call0 hs1
 refine tm (.bool (isBytes qs)) r0 ?_
 refine spl (b:=isBytes qs) 5 r0 (fun h1=>?_) (fun h1=>?_)
 ·refine q ⟨_,rfl,rfl⟩ r0 r0 (mv (v:=.slice Aqs qs.length cqs) r0) (q ⟨_,rfl,rfl⟩ r0 r0 (lnA (n:=qs.length) sl22 r0) (q ⟨_,rfl,rfl⟩ r0 r0 (eqi (k:=.i64) (a:=(qs.length:Int)) (b:=4) r0 r0) (qt r0 (pt (v:=.bool (decide ((qs.length:Int)=4))) r0 r0) (tA (.bool (decide ((qs.length:Int)=4))) r0 (nn (rt ?_))))))
  refine fT (.bool (decide ((qs.length:Int)=4))) r0 ?_
  have e1:(decide ((qs.length:Int)=4))=quadOk qs:=by simp[quadOk,h1] <;> omega
  exact⟨(congrArg (Value.bool) e1),hs1⟩
 ·refine gf5 r0 (gf5 r0 (gf5 r0 (qt r0 (pf (v:=.bool false) r0 r0) (tA (.bool false) r0 (nn (rt ?_))))))
  refine fT (.bool false) r0 ?_
  have e2:false=quadOk qs:=by simp[quadOk,h1] <;> omega
  exact⟨(congrArg (Value.bool) e2),hs1⟩
theorem iUserValid (s:List UInt8) (w:World) (hs_n:s.length≤9223372036854775807):Does Tryz.prog 135 [Str s] w (fun v w'=>v=.bool (userOk s)∧SH w w' [] []):=by
 refine fE (N:=10) Tryz.func135 r0 (by kernel_rfl) r0 ?_
 have hs0:=SH.refl w []
 refine sr (tA (.bool false) r0 (nx (tm (Str s) r0 ?_)))
 refine qt r0 (lnS (l:=s) st9 r0) (qt r0 (leq (k:=.i64) (a:=(s.length:Int)) (b:=8) r0 r0) (tm (.bool (decide ((s.length:Int)≤8))) r0 ?_))
 refine spd (p:=(s.length:Int)≤8) 6 r0 (fun h1=>?_) (fun h1=>?_)
 ·refine q ⟨_,rfl,rfl⟩ r0 r0 (mv (v:=Str s) r0) (cl ⟨_,rfl,rfl⟩ r0 (iConsists (l:=s) (m:=[]) (w:=_) (hl_n:=(by omega))) ?_)
  rintro _ w1 ⟨rfl,hs1⟩
  replace hs1:=hs0.call0 hs1
  refine qt r0 (pt (v:=.bool (s.all (okC []))) r0 r0) (tA (.bool (s.all (okC []))) r0 (nn (rt (fT (.bool (s.all (okC []))) r0 ?_))))
  have e1:(s.all (okC []))=userOk s:=by simp[userOk,h1] <;> omega
  exact⟨(congrArg (Value.bool) e1),hs1⟩
 ·refine gf5 r0 (gf5 r0 (qt r0 (pf (v:=.bool false) r0 r0) (tA (.bool false) r0 (nn (rt (fT (.bool false) r0 ?_))))))
  have e2:false=userOk s:=by simp[userOk,h1] <;> omega
  exact⟨(congrArg (Value.bool) e2),hs0⟩
theorem sUserValid (s:List UInt8) (w:World) (hs_n:s.length≤9223372036854775807):Does Tryz.prog 164 [Str s] w (fun v w'=>v=.bool (userOk s)∧SH w w' [] []):=by
 refine fE (N:=24) Tryz.func164 r0 (by kernel_rfl) r0 ?_
 have hs0:=SH.refl w []
 refine sr (tA (.bool false) r0 (nn (sq (sr ?_))))
 refine tA (I 0) r0 (nn (bl (lp (σ:=Nat) (fun(k:Nat) f w'=>Hz f [(0,Str s),(3,I (k:Int))]∧(k≤s.length)∧((s.take k).all (okC [])=true)∧SH w w' [] []) (fun k=>s.length-k) 0 ⟨(zR r0),(by simp),(by simp),hs0⟩ ?_)))
 rintro k f w1 ⟨⟨g1,rfl⟩,hk,ha,hs1⟩
 refine sq (sr (tm (I (k:Int)) r0 (tm (Str s) r0 (qt r0 (lnS (l:=s) st9 r0) (qt r0 (lss (k:=.i64) (a:=(k:Int)) (b:=(s.length:Int)) r0 r0) (nl ?_))))))
 refine nN ?_
 refine cdd (p:=(k:Int)<(s.length:Int)) r0 (fun h1=>?_) (fun h1=>?_)
 ·refine sk (nN (sq (bl (sr (tm (Str s) r0 (tm (I (k:Int)) r0 ?_))))))
  refine qt r0 (ixs (l:=s) k st9 r0 r0 (by omega)) (cL r0 (sLetter (c:=(s.getD k 0)) (w:=_)) ?_)
  rintro _ w2 ⟨rfl,hs2⟩
  replace hs2:=hs1.call0 hs2
  refine qt r0 (nt (b:=letC (s.getD k 0)) r0) (tm (.bool (!(letC (s.getD k 0)))) r0 ?_)
  refine spl (b:=!(letC (s.getD k 0))) 15 r0 (fun h2=>?_) (fun h2=>?_)
  ·have h3:(letC (s.getD k 0))=false:=by simpa using h2
   refine gt5 r0 (gt5 r0 (gt5 r0 (gt5 r0 (qt r0 (pt (v:=.bool true) r0 r0) (nn (cdt r0 ?_))))))
   refine sr (tA (.bool false) r0 (nn ?_))
   refine rt (bR (tR (tR (bR (tR ?_)))))
   refine fT (.bool false) r0 ?_
   have e1:false=userOk s:=by exact(user_bad (k:=k) (by omega) (.inl (by assumption))).symm
   exact⟨(congrArg (Value.bool) e1),hs2⟩
  ·have h4:(letC (s.getD k 0))=true:=by simpa using h2
   refine q ⟨_,rfl,rfl⟩ r0 r0 (mv (v:=Str s) r0) (q ⟨_,rfl,rfl⟩ r0 r0 (mv (v:=I (k:Int)) r0) (q ⟨_,rfl,rfl⟩ r0 r0 (ixs (l:=s) k st9 r0 r0 (by omega)) (q ⟨_,rfl,rfl⟩ r0 r0 (eqi (k:=.u8) (a:=(((s.getD k 0).toNat:Nat):Int)) (b:=45) r0 r0) (qt r0 (pf (v:=.bool (decide ((((s.getD k 0).toNat:Nat):Int)=45))) r0 r0) (nn ?_)))))
   refine cdd (p:=(((s.getD k 0).toNat:Nat):Int)=45) r0 (fun h5=>?_) (fun h5=>?_)
   ·refine sr (tA (.bool false) r0 (nn ?_))
    refine rt (bR (tR (tR (bR (tR ?_)))))
    refine fT (.bool false) r0 ?_
    have e2:false=userOk s:=by exact(user_bad (k:=k) (by omega) (.inr (by assumption))).symm
    exact⟨(congrArg (Value.bool) e2),hs2⟩
   ·refine sk (bN (nN (rg (tm (I (k:Int)) r0 (qt r0 (add (a:=(k:Int)) (b:=1) r0 r0 (by exact⟨by omega,by omega⟩)) (tA (I ((k:Int)+1)) r0 (nl ?_)))))))
    refine nN ?_
    refine⟨(k+1),⟨(zR r0),(by omega),(all_step (d:=0) (by omega) ha (user_mk (by assumption) (by assumption))),hs2⟩,?_⟩
    omega
 ·refine ex (tE (tE (bE ?_)))
  refine nN (sr (tm (Str s) r0 (qt r0 (lnS (l:=s) st9 r0) (qt r0 (leq (k:=.i64) (a:=(s.length:Int)) (b:=8) r0 r0) (tA (.bool (decide ((s.length:Int)≤8))) r0 (nl ?_))))))
  refine nN (rt (fT (.bool (decide ((s.length:Int)≤8))) r0 ?_))
  have e3:(decide ((s.length:Int)≤8))=userOk s:=by exact user_end (by omega) ha
  exact⟨(congrArg (Value.bool) e3),hs1⟩
theorem slIndex {Azs:Option Addr} {czs:Nat} (zs:List Int) (n:Int) (w:World) (hzs:Sl w [] 1 Azs zs.length czs (zs.map I)):Does Tryz.prog 136 [.slice Azs zs.length czs,I n] w (fun v w'=>v=.int .i64 (idxP (fun x=>decide (n=x)) zs)∧SH w w' [] []):=by
 refine fE (N:=19) Tryz.func136 r0 (by kernel_rfl) r0 ?_
 have hs0:=SH.refl w []
 have hzs_m:zs.length≤9223372036854775807:=Nat.le_trans hzs.cap hzs.capMax
 refine sr (tA (I 0) r0 (nn (sq (sr ?_))))
 refine tm (Z4 Azs zs czs) r0 (qt r0 (lnA (n:=zs.length) sl22 r0) (tm (I 0) r0 (nn (bl (lp (σ:=Nat) (fun(k:Nat) f w'=>Hz f [(0,.slice Azs zs.length czs),(1,I n),(7,I (zs.length:Int)),(8,I (k:Int))]∧(k≤zs.length)∧(∀ j,j<k→decide (n=zs.getD j 0)=false)∧SH w w' [] []) (fun k=>zs.length-k) 0 ⟨(zR r0),(by simp),(by intro j hj; omega),hs0⟩ ?_)))))
 rintro k f w1 ⟨⟨g1,rfl⟩,hk,hn,hs1⟩
 refine sr (qt r0 (lss (k:=.i64) (a:=(k:Int)) (b:=(zs.length:Int)) r0 r0) (nn (sq ?_)))
 refine cdd (p:=(k:Int)<(zs.length:Int)) r0 (fun h1=>?_) (fun h1=>?_)
 ·refine sk (nN (sq (bl (sr (tm (I (k:Int)) r0 (tA (I (k:Int)) r0 ?_))))))
  refine nx (tm (I n) r0 (tm (Z4 Azs zs czs) r0 (tm (I (k:Int)) r0 (ixw1 k sl22 r0 r0 hzs (by omega) (getm I 0 (by omega)) trivial r0 (fun a1 ha1=>?_)))))
  refine qt r0 (lda (v:=I (zs.getD k 0)) hs1 ha1 (fun _ h=>h) r0 r0 one3) (qt r0 (eqi (k:=.i64) (a:=n) (b:=zs.getD k 0) r0 r0) (nn ?_))
  refine cdd (p:=n=(zs.getD k 0)) r0 (fun h2=>?_) (fun h2=>?_)
  ·refine sr (tm (I (k:Int)) r0 (tA (I (k:Int)) r0 (nn ?_)))
   refine rt (bR (tR (tR (bR (tR ?_)))))
   refine fT (I (k:Int)) r0 ?_
   have e1:(k:Int)=idxP (fun x=>decide (n=x)) zs:=by exact idxP_eq (d:=0) (by omega) hn (decide_eq_true (by assumption))
   exact⟨(congrArg (Value.int .i64) e1),hs1⟩
  ·refine sk (bN (nN (rg (qt r0 (add (a:=(k:Int)) (b:=1) r0 r0 (by exact⟨by omega,by omega⟩)) (tm (I ((k:Int)+1)) r0 (nn ?_))))))
   refine⟨(k+1),⟨(zR r0),(by omega),(by intro j hj; rcases Nat.lt_succ_iff_lt_or_eq.1 hj with h | h; exact hn j h; subst h; exact decide_eq_false (by assumption)),hs1⟩,?_⟩
   omega
 ·refine ex (tE (tE (bE ?_)))
  refine nN (sr (tA (I (-1)) r0 (nn (rt (fT (I (-1)) r0 ?_)))))
  have e2:(-1)=idxP (fun x=>decide (n=x)) zs:=by exact idxP_none (d:=0) (fun j hj=>hn j (by omega))
  exact⟨(congrArg (Value.int .i64) e2),hs1⟩
theorem slContains {Azs:Option Addr} {czs:Nat} (zs:List Int) (n:Int) (w:World) (hzs:Sl w [] 1 Azs zs.length czs (zs.map I)):Does Tryz.prog 80 [.slice Azs zs.length czs,I n] w (fun v w'=>v=.bool (decide (n∈zs))∧SH w w' [] []):=by
 refine fE (N:=9) Tryz.func80 r0 (by kernel_rfl) r0 ?_
 have hs0:=SH.refl w []
 have hzs_m:zs.length≤9223372036854775807:=Nat.le_trans hzs.cap hzs.capMax
 refine sr (tA (.bool false) r0 (nx (tm (Z4 Azs zs czs) r0 ?_)))
 refine tm (I n) r0 (cL r0 (slIndex (Azs:=Azs) (czs:=czs) (zs:=zs) (n:=n) (w:=_) (hzs:=(hzs.up0 hs0))) ?_)
 rintro _ w1 ⟨rfl,hs1⟩
 replace hs1:=hs0.call0 hs1
 refine qt r0 (geq (k:=.i64) (a:=idxP (fun x=>decide (n=x)) zs) (b:=0) r0 r0) (tA (.bool (decide ((0:Int)≤(idxP (fun x=>decide (n=x)) zs)))) r0 (nn (rt (fT (.bool (decide ((0:Int)≤(idxP (fun x=>decide (n=x)) zs)))) r0 ?_))))
 have e1:(decide ((0:Int)≤(idxP (fun x=>decide (n=x)) zs)))=(decide (n∈zs)):=by exact idxP_int n zs
 exact⟨(congrArg (Value.bool) e1),hs1⟩
theorem l5Has {Azs:Option Addr} {czs:Nat} (zs:List Int) (n:Int) (w:World) (hzs:Sl w [] 1 Azs zs.length czs (zs.map I)):Does Tryz.prog 93 [.slice Azs zs.length czs,I n] w (fun v w'=>v=.bool (decide (n∈zs))∧SH w w' [] []):=by
 refine fE (N:=18) Tryz.func93 r0 (by kernel_rfl) r0 ?_
 have hs0:=SH.refl w []
 have hzs_m:zs.length≤9223372036854775807:=Nat.le_trans hzs.cap hzs.capMax
 refine sr (tA (.bool false) r0 (nn (sq (sr ?_))))
 refine tA (I 0) r0 (nn (bl (lp (σ:=Nat) (fun(k:Nat) f w'=>Hz f [(0,.slice Azs zs.length czs),(1,I n),(5,I (k:Int))]∧(k≤zs.length)∧(n ∉ zs.take k)∧SH w w' [] []) (fun k=>zs.length-k) 0 ⟨(zR r0),(by simp),(by simp),hs0⟩ ?_)))
 rintro k f w1 ⟨⟨g1,rfl⟩,hk,hn,hs1⟩
 refine sq (sr (tm (I (k:Int)) r0 (tm (Z4 Azs zs czs) r0 (qt r0 (lnA (n:=zs.length) sl22 r0) (qt r0 (lss (k:=.i64) (a:=(k:Int)) (b:=(zs.length:Int)) r0 r0) (nl ?_))))))
 refine nN ?_
 refine cdd (p:=(k:Int)<(zs.length:Int)) r0 (fun h1=>?_) (fun h1=>?_)
 ·refine sk (nN (sq (bl (sr (tm (Z4 Azs zs czs) r0 (tm (I (k:Int)) r0 ?_))))))
  refine ixw1 k sl22 r0 r0 hzs (by omega) (getm I 0 (by omega)) trivial r0 (fun a1 ha1=>?_)
  refine qt r0 (lda (v:=I (zs.getD k 0)) hs1 ha1 (fun _ h=>h) r0 r0 one3) (tm (I n) r0 (qt r0 (eqi (k:=.i64) (a:=zs.getD k 0) (b:=n) r0 r0) (nn ?_)))
  refine cdd (p:=(zs.getD k 0)=n) r0 (fun h2=>?_) (fun h2=>?_)
  ·refine sr (tA (.bool true) r0 (nn ?_))
   refine rt (bR (tR (tR (bR (tR ?_)))))
   refine fT (.bool true) r0 ?_
   have e1:true=(decide (n∈zs)):=by exact(decide_eq_true (has_yes (k:=k) (by omega) (by omega))).symm
   exact⟨(congrArg (Value.bool) e1),hs1⟩
  ·refine sk (bN (nN (rg (tm (I (k:Int)) r0 (qt r0 (add (a:=(k:Int)) (b:=1) r0 r0 (by exact⟨by omega,by omega⟩)) (tA (I ((k:Int)+1)) r0 (nl ?_)))))))
   refine nN ?_
   refine⟨(k+1),⟨(zR r0),(by omega),(has_step (by omega) hn (by omega)),hs1⟩,?_⟩
   omega
 ·refine ex (tE (tE (bE ?_)))
  refine nN (sr (tA (.bool false) r0 (nn (rt (fT (.bool false) r0 ?_)))))
  have e2:false=(decide (n∈zs)):=by exact(decide_eq_false (has_no (k:=k) (by omega) hn)).symm
  exact⟨(congrArg (Value.bool) e2),hs1⟩
theorem iAreMethods {Ams:Option Addr} {cms:Nat} (ms:List Int) (w:World) (hms:Sl w [] 1 Ams ms.length cms (ms.map I)):Does Tryz.prog 74 [.slice Ams ms.length cms] w (fun v w'=>v=.bool (methOk ms)∧SH w w' [] []):=by
 refine fE (N:=26) Tryz.func74 r0 (by kernel_rfl) r0 ?_
 have hs0:=SH.refl w []
 have hms_m:ms.length≤9223372036854775807:=Nat.le_trans hms.cap hms.capMax
 refine sr (tA (.bool false) r0 (nn (sq (sr ?_))))
 refine tm (Z4 Ams ms cms) r0 (qt r0 (lnA (n:=ms.length) sl22 r0) (tm (I 0) r0 (nn (bl (lp (σ:=Nat) (fun(k:Nat) f w'=>Hz f [(0,.slice Ams ms.length cms),(5,.slice Ams ms.length cms),(6,I (ms.length:Int)),(7,I (k:Int))]∧(k≤ms.length)∧(methT ms k)∧SH w w' [] []) (fun k=>ms.length-k) 0 ⟨(zR r0),(by simp),(methT0 ms),hs0⟩ ?_)))))
 rintro k f w1 ⟨⟨g1,rfl⟩,hk,ha,hs1⟩
 refine sr (qt r0 (lss (k:=.i64) (a:=(k:Int)) (b:=(ms.length:Int)) r0 r0) (nn (sq ?_)))
 refine cdd (p:=(k:Int)<(ms.length:Int)) r0 (fun h1=>?_) (fun h1=>?_)
 ·refine sk (nN (sq (bl (sr (tm (I (k:Int)) r0 (ixw1 k sl22 r0 r0 hms (by omega) (getm I 0 (by omega)) trivial r0 (fun a1 ha1=>?_)))))))
  refine qt r0 (lda (v:=I (ms.getD k 0)) hs1 ha1 (fun _ h=>h) r0 r0 one3) (tA (I (k:Int)) r0 (tA (I (ms.getD k 0)) r0 (nx (tm (I (ms.getD k 0)) r0 ?_))))
  refine cL r0 (iWithin (x:=ms.getD k 0) (lo:=0) (hi:=254) (w:=_)) ?_
  rintro _ w2 ⟨rfl,hs2⟩
  replace hs2:=hs1.call0 hs2
  refine qt r0 (nd (p:=0≤(ms.getD k 0)∧(ms.getD k 0)≤254) r0) (tm (.bool (decide (¬ (0≤(ms.getD k 0)∧(ms.getD k 0)≤254)))) r0 ?_)
  refine spd (p:=¬ (0≤(ms.getD k 0)∧(ms.getD k 0)≤254)) 15 r0 (fun h2=>?_) (fun h2=>?_)
  ·refine gt5 r0 (gt5 r0 (gt5 r0 (gt5 r0 (gt5 r0 (qt r0 (pt (v:=.bool true) r0 r0) (nn ?_))))))
   refine cdt r0 (sr (tA (.bool false) r0 (nn ?_)))
   refine rt (bR (tR (tR (bR (tR ?_)))))
   refine fT (.bool false) r0 ?_
   have e1:false=methOk ms:=by exact(meth_bad1 (k:=k) (by omega) (by assumption)).symm
   exact⟨(congrArg (Value.bool) e1),hs2⟩
  ·refine q ⟨_,rfl,rfl⟩ r0 r0 (mv (v:=.slice Ams ms.length cms) r0) (q ⟨_,rfl,rfl⟩ r0 r0 (mv (v:=I (k:Int)) r0) (q ⟨_,rfl,rfl⟩ r0 r0 (cuhm_ (zs:=ms) k sl22 r0 r0 (by omega) hms.cap) (q ⟨_,rfl,rfl⟩ r0 r0 (mv (v:=I (ms.getD k 0)) r0) (cl ⟨_,rfl,rfl⟩ r0 (slContains (Azs:=Ams) (czs:=cms) (zs:=ms.take k) (n:=ms.getD k 0) (w:=_) (hzs:=(Sl.cuthm (hms.up0 hs2) (by omega)))) ?_))))
   rintro _ w3 ⟨rfl,hs3⟩
   replace hs3:=hs2.call0 hs3
   refine qt r0 (pf (v:=.bool (decide ((ms.getD k 0)∈(ms.take k)))) r0 r0) (nn ?_)
   refine cdd (p:=(ms.getD k 0)∈(ms.take k)) r0 (fun h3=>?_) (fun h3=>?_)
   ·refine sr (tA (.bool false) r0 (nn ?_))
    refine rt (bR (tR (tR (bR (tR ?_)))))
    refine fT (.bool false) r0 ?_
    have e2:false=methOk ms:=by exact(meth_bad2 (k:=k) (by omega) (by assumption)).symm
    exact⟨(congrArg (Value.bool) e2),hs3⟩
   ·refine sk (bN (nN (rg (qt r0 (add (a:=(k:Int)) (b:=1) r0 r0 (by exact⟨by omega,by omega⟩)) (tm (I ((k:Int)+1)) r0 (nn ?_))))))
    refine⟨(k+1),⟨(zR r0),(by omega),(methT_step (by omega) ha (Decidable.not_not.1 (by assumption)) (by assumption)),hs3⟩,?_⟩
    omega
 ·refine ex (tE (tE (bE ?_)))
  refine nN (sr (tm (Z4 Ams ms cms) r0 (qt r0 (lnA (n:=ms.length) sl22 r0) (cL r0 (iWithin (x:=(ms.length:Int)) (lo:=1) (hi:=8) (w:=_)) ?_))))
  rintro _ w4 ⟨rfl,hs4⟩
  replace hs4:=hs1.call0 hs4
  refine tA (.bool (decide (1≤(ms.length:Int)∧(ms.length:Int)≤8))) r0 (nn (rt (fT (.bool (decide (1≤(ms.length:Int)∧(ms.length:Int)≤8))) r0 ?_)))
  have e3:(decide (1≤(ms.length:Int)∧(ms.length:Int)≤8))=methOk ms:=by exact meth_end (by omega) ha
  exact⟨(congrArg (Value.bool) e3),hs4⟩
theorem sL5Ok {Ams:Option Addr} {cms:Nat} (ms:List Int) (w:World) (hms:Sl w [] 1 Ams ms.length cms (ms.map I)):Does Tryz.prog 127 [.slice Ams ms.length cms] w (fun v w'=>v=.bool (methOk ms)∧SH w w' [] []):=by
 refine fE (N:=29) Tryz.func127 r0 (by kernel_rfl) r0 ?_
 have hs0:=SH.refl w []
 have hms_m:ms.length≤9223372036854775807:=Nat.le_trans hms.cap hms.capMax
 refine sr (tA (.bool false) r0 (nn (sq (sr ?_))))
 refine tA (I 0) r0 (nn (bl (lp (σ:=Nat) (fun(k:Nat) f w'=>Hz f [(0,.slice Ams ms.length cms),(3,I (k:Int))]∧(k≤ms.length)∧(methT ms k)∧SH w w' [] []) (fun k=>ms.length-k) 0 ⟨(zR r0),(by simp),(methT0 ms),hs0⟩ ?_)))
 rintro k f w1 ⟨⟨g1,rfl⟩,hk,ha,hs1⟩
 refine sq (sr (tm (I (k:Int)) r0 (tm (Z4 Ams ms cms) r0 (qt r0 (lnA (n:=ms.length) sl22 r0) (qt r0 (lss (k:=.i64) (a:=(k:Int)) (b:=(ms.length:Int)) r0 r0) (nl ?_))))))
 refine nN ?_
 refine cdd (p:=(k:Int)<(ms.length:Int)) r0 (fun h1=>?_) (fun h1=>?_)
 ·refine sk (nN (sq (bl (sq (rq (fun w'=>SH w w' [] []) mixed (by kernel_rfl) hs1.drew (qA r0 (mv (v:=.slice Ams ms.length cms) r0) (qA r0 (mv (v:=I (k:Int)) r0) ?_)))))))
  refine ixq1 k sl22 r0 r0 hms (by omega) (getm I 0 (by omega)) trivial r0 (fun a1 ha1=>?_)
  refine qB r0 (fun hsq=>lda (v:=I (ms.getD k 0)) hsq ha1 (fun _ h=>h) r0 r0 one3) (qc (.bool (decide (0≤(ms.getD k 0)∧(ms.getD k 0)≤254))) trivial r0 (fun wq hsq=>(sIn (x:=ms.getD k 0) (lo:=0) (hi:=254) (w:=_)).mono (fun v w' h=>⟨h.1,by simpa using hsq.call0 h.2⟩)) (qA r0 (nd (p:=0≤(ms.getD k 0)∧(ms.getD k 0)≤254) r0) (qA r0 (mv (v:=.bool (decide (¬ (0≤(ms.getD k 0)∧(ms.getD k 0)≤254)))) r0) ?_)))
  refine qspd (p:=¬ (0≤(ms.getD k 0)∧(ms.getD k 0)≤254)) 16 r0 (fun h2=>?_) (fun h2=>?_)
  ·refine kt5 r0 (kt5 r0 (kt5 r0 (kt5 r0 (kt5 r0 (kt5 r0 (kt5 r0 (kt5 r0 ?_)))))))
   refine qA r0 (pt (v:=.bool true) r0 r0) (qn (fun w2 hs2=>?_))
   refine nN (cdt r0 (sr (tA (.bool false) r0 (nn ?_))))
   refine rt (bR (tR (tR (bR (tR ?_)))))
   refine fT (.bool false) r0 ?_
   have e1:false=methOk ms:=by exact(meth_bad1 (k:=k) (by omega) (by assumption)).symm
   exact⟨(congrArg (Value.bool) e1),hs2⟩
  ·refine qq ⟨_,rfl,rfl⟩ r0 r0 (fun wq hsq=>mv (v:=.slice Ams ms.length cms) r0) (qq ⟨_,rfl,rfl⟩ r0 r0 (fun wq hsq=>mv (v:=I (k:Int)) r0) (qq ⟨_,rfl,rfl⟩ r0 r0 (fun wq hsq=>cuhm_ (zs:=ms) k sl22 r0 r0 (by omega) hms.cap) (qq ⟨_,rfl,rfl⟩ r0 r0 (fun wq hsq=>mv (v:=.slice Ams ms.length cms) r0) (qq ⟨_,rfl,rfl⟩ r0 r0 (fun wq hsq=>mv (v:=I (k:Int)) r0) (ixq1 k sl22 r0 r0 hms (by omega) (getm I 0 (by omega)) ⟨_,rfl,rfl⟩ r0 (fun a2 ha2=>?_))))))
   refine qq ⟨_,rfl,rfl⟩ r0 r0 (fun wq hsq=>lda (v:=I (ms.getD k 0)) hsq ha2 (fun _ h=>h) r0 r0 one3) (qc (.bool (decide ((ms.getD k 0)∈(ms.take k)))) ⟨_,rfl,rfl⟩ r0 (fun wq hsq=>(l5Has (Azs:=Ams) (czs:=cms) (zs:=ms.take k) (n:=ms.getD k 0) (w:=_) (hzs:=(Sl.cuthm (hms.up0 hsq) (by omega)))).mono (fun v w' h=>⟨h.1,by simpa using hsq.call0 h.2⟩)) (qA r0 (pf (v:=.bool (decide ((ms.getD k 0)∈(ms.take k)))) r0 r0) (qn (fun w3 hs3=>?_))))
   refine nN ?_
   refine cdd (p:=(ms.getD k 0)∈(ms.take k)) r0 (fun h3=>?_) (fun h3=>?_)
   ·refine sr (tA (.bool false) r0 (nn ?_))
    refine rt (bR (tR (tR (bR (tR ?_)))))
    refine fT (.bool false) r0 ?_
    have e2:false=methOk ms:=by exact(meth_bad2 (k:=k) (by omega) (by assumption)).symm
    exact⟨(congrArg (Value.bool) e2),hs3⟩
   ·refine sk (bN (nN (rg (tm (I (k:Int)) r0 (qt r0 (add (a:=(k:Int)) (b:=1) r0 r0 (by exact⟨by omega,by omega⟩)) (tA (I ((k:Int)+1)) r0 (nl ?_)))))))
    refine nN ?_
    refine⟨(k+1),⟨(zR r0),(by omega),(methT_step (by omega) ha (Decidable.not_not.1 (by assumption)) (by assumption)),hs3⟩,?_⟩
    omega
 ·refine ex (tE (tE (bE ?_)))
  refine nN (sr (tm (Z4 Ams ms cms) r0 (qt r0 (lnA (n:=ms.length) sl22 r0) (cL r0 (sIn (x:=(ms.length:Int)) (lo:=1) (hi:=8) (w:=_)) ?_))))
  rintro _ w4 ⟨rfl,hs4⟩
  replace hs4:=hs1.call0 hs4
  refine tA (.bool (decide (1≤(ms.length:Int)∧(ms.length:Int)≤8))) r0 (nn (rt (fT (.bool (decide (1≤(ms.length:Int)∧(ms.length:Int)≤8))) r0 ?_)))
  have e3:(decide (1≤(ms.length:Int)∧(ms.length:Int)≤8))=methOk ms:=by exact meth_end (by omega) ha
  exact⟨(congrArg (Value.bool) e3),hs4⟩
theorem iAddressValid (ak:Int) {Aaq:Option Addr} {caq:Nat} (aq:List Int) (an:List UInt8) (apt:Int) (w:World) (haq:Sl w [] 1 Aaq aq.length caq (aq.map I)) (han_n:an.length≤1099511627776):Does Tryz.prog 62 [.agg #[I ak,.slice Aaq aq.length caq,Str an,I apt]] w (fun v w'=>v=.bool (addrOk ak aq an apt)∧SH w w' [] []):=by
 refine fE (N:=36) Tryz.func62 r0 (by kernel_rfl) r0 ?_
 have hs0:=SH.refl w []
 have haq_m:aq.length≤9223372036854775807:=Nat.le_trans haq.cap haq.capMax
 refine sr (bx (v:=.agg #[I ak,(Z8 Aaq aq caq),Str an,I apt]) (cs:=[I ak,(Z8 Aaq aq caq),Str an,I apt]) hs0 r0 r0 trivial r0 (fun b1 w1 hs1=>?_))
 refine tA (.bool false) r0 (nn (sq (sr (qt r0 (fa 0 fo43_0 r0) (qt r0 (lD (I ak) hs1 0 r0 one3) ?_)))))
 refine nn (bl (sr (qt r0 (eqi (k:=.i64) (a:=ak) (b:=1) r0 r0) (tA (.bool (decide (ak=1))) r0 (nl ?_)))))
 refine nN ?_
 refine cdd (p:=ak=1) r0 (fun h1=>?_) (fun h1=>?_)
 ·refine sr (qt r0 (fa 1 fo43_1 r0) (qt r0 (lD (Z4 Aaq aq caq) hs1 0 r0 one22) (cL r0 (iQuadValid (Aqs:=Aaq) (cqs:=caq) (qs:=aq) (w:=_) (hqs:=(haq.up0 hs1))) ?_)))
  rintro _ w2 ⟨rfl,hs2⟩
  replace hs2:=hs1.call0 hs2
  refine tm (.bool (quadOk aq)) r0 ?_
  refine spl (b:=quadOk aq) 10 r0 (fun h2=>?_) (fun h2=>?_)
  ·refine q ⟨_,rfl,rfl⟩ r0 r0 (fa 2 fo43_2 r0) (q ⟨_,rfl,rfl⟩ r0 r0 (lD (Str an) hs2 0 r0 one9) (q ⟨_,rfl,rfl⟩ r0 r0 (eqs (l:=an) (m:=[]) r0 r0) (qt r0 (pt (v:=.bool (decide (an=[]))) r0 r0) (tm (.bool (decide (an=[]))) r0 ?_))))
   refine spd (p:=an=[]) 15 r0 (fun h3=>?_) (fun h3=>?_)
   ·refine q ⟨_,rfl,rfl⟩ r0 r0 (fa 3 fo43_3 r0) (q ⟨_,rfl,rfl⟩ r0 r0 (lD (I apt) hs2 0 r0 one3) (cl ⟨_,rfl,rfl⟩ r0 (isPort (x:=apt) (w:=_)) ?_))
    rintro _ w3 ⟨rfl,hs3⟩
    replace hs3:=hs2.call0 hs3
    refine qt r0 (pt (v:=.bool (decide (0≤apt∧apt≤65535))) r0 r0) (tA (.bool (decide (0≤apt∧apt≤65535))) r0 (nn ?_))
    refine rt (bR (tR ?_))
    refine fT (.bool (decide (0≤apt∧apt≤65535))) r0 ?_
    have e1:(decide (0≤apt∧apt≤65535))=addrOk ak aq an apt:=by(rw[addr_is1 (by assumption)]; simp[h1,h2,h3]; done)
    exact⟨(congrArg (Value.bool) e1),(hs3.pk [] r0)⟩
   ·refine gf5 r0 (gf5 r0 (gf5 r0 (qt r0 (pf (v:=.bool false) r0 r0) (tA (.bool false) r0 (nn ?_)))))
    refine rt (bR (tR ?_))
    refine fT (.bool false) r0 ?_
    have e2:false=addrOk ak aq an apt:=by(rw[addr_is1 (by assumption)]; simp[h1,h2,h3]; done)
    exact⟨(congrArg (Value.bool) e2),(hs2.pk [] r0)⟩
  ·refine gf5 r0 (gf5 r0 (gf5 r0 (qt r0 (pf (v:=.bool false) r0 r0) (tm (.bool false) r0 (gf5 r0 (gf5 r0 (gf5 r0 ?_)))))))
   refine qt r0 (pf (v:=.bool false) r0 r0) (tA (.bool false) r0 (nn ?_))
   refine rt (bR (tR ?_))
   refine fT (.bool false) r0 ?_
   have e3:false=addrOk ak aq an apt:=by(rw[addr_is1 (by assumption)]; simp[h1,h2]; done)
   exact⟨(congrArg (Value.bool) e3),(hs2.pk [] r0)⟩
 ·refine sr (qt r0 (eqi (k:=.i64) (a:=ak) (b:=3) r0 r0) (tA (.bool (decide (ak=3))) r0 (nn ?_)))
  refine cdd (p:=ak=3) r0 (fun h4=>?_) (fun h4=>?_)
  ·refine sr (qt r0 (fa 2 fo43_2 r0) (qt r0 (lD (Str an) hs1 0 r0 one9) (cL r0 (iNameValid (l:=an) (w:=_) (hl_n:=(by omega))) ?_)))
   rintro _ w4 ⟨rfl,hs4⟩
   replace hs4:=hs1.call0 hs4
   refine tm (.bool (nameOk an)) r0 ?_
   refine spl (b:=nameOk an) 25 r0 (fun h5=>?_) (fun h5=>?_)
   ·refine q ⟨_,rfl,rfl⟩ r0 r0 (fa 1 fo43_1 r0) (q ⟨_,rfl,rfl⟩ r0 r0 (lD (Z4 Aaq aq caq) hs4 0 r0 one22) (q ⟨_,rfl,rfl⟩ r0 r0 (lnA (n:=aq.length) sl22 r0) (q ⟨_,rfl,rfl⟩ r0 r0 (eqi (k:=.i64) (a:=(aq.length:Int)) (b:=0) r0 r0) (qt r0 (pt (v:=.bool (decide ((aq.length:Int)=0))) r0 r0) (tm (.bool (decide ((aq.length:Int)=0))) r0 ?_)))))
    refine spd (p:=(aq.length:Int)=0) 31 r0 (fun h6=>?_) (fun h6=>?_)
    ·refine q ⟨_,rfl,rfl⟩ r0 r0 (fa 3 fo43_3 r0) (q ⟨_,rfl,rfl⟩ r0 r0 (lD (I apt) hs4 0 r0 one3) (cl ⟨_,rfl,rfl⟩ r0 (isPort (x:=apt) (w:=_)) ?_))
     rintro _ w5 ⟨rfl,hs5⟩
     replace hs5:=hs4.call0 hs5
     refine qt r0 (pt (v:=.bool (decide (0≤apt∧apt≤65535))) r0 r0) (tA (.bool (decide (0≤apt∧apt≤65535))) r0 (nn ?_))
     refine rt (bR (tR ?_))
     refine fT (.bool (decide (0≤apt∧apt≤65535))) r0 ?_
     have e4:(decide (0≤apt∧apt≤65535))=addrOk ak aq an apt:=by(rw[addr_is3 (by assumption)]; have hq0:aq=[]:=List.eq_nil_of_length_eq_zero (by omega); simp[hq0,h1,h4,h5,h6]; done)
     exact⟨(congrArg (Value.bool) e4),(hs5.pk [] r0)⟩
    ·refine gf5 r0 (gf5 r0 (gf5 r0 (qt r0 (pf (v:=.bool false) r0 r0) (tA (.bool false) r0 (nn ?_)))))
     refine rt (bR (tR ?_))
     refine fT (.bool false) r0 ?_
     have e5:false=addrOk ak aq an apt:=by(rw[addr_is3 (by assumption)]; have hq0: ¬ aq=[]:=fun he=>absurd (by rw[he]; rfl:(aq.length:Int)=0) (by assumption); simp[hq0,h1,h4,h5,h6]; done)
     exact⟨(congrArg (Value.bool) e5),(hs4.pk [] r0)⟩
   ·refine gf5 r0 (gf5 r0 (gf5 r0 (gf5 r0 (qt r0 (pf (v:=.bool false) r0 r0) (tm (.bool false) r0 (gf5 r0 (gf5 r0 ?_)))))))
    refine gf5 r0 (qt r0 (pf (v:=.bool false) r0 r0) (tA (.bool false) r0 (nn ?_)))
    refine rt (bR (tR ?_))
    refine fT (.bool false) r0 ?_
    have e6:false=addrOk ak aq an apt:=by(rw[addr_is3 (by assumption)]; simp[h1,h4,h5]; done)
    exact⟨(congrArg (Value.bool) e6),(hs4.pk [] r0)⟩
  ·refine sk (bN (nN (sr (tA (.bool false) r0 (nn ?_)))))
   refine rt (fT (.bool false) r0 ?_)
   have e7:false=addrOk ak aq an apt:=by exact(addr_no _ _ _ (by assumption) (by assumption)).symm
   exact⟨(congrArg (Value.bool) e7),(hs1.pk [] r0)⟩
theorem sAddressValid (ak:Int) {Aaq:Option Addr} {caq:Nat} (aq:List Int) (an:List UInt8) (apt:Int) (w:World) (haq:Sl w [] 1 Aaq aq.length caq (aq.map I)) (han_n:an.length≤1099511627776):Does Tryz.prog 128 [.agg #[I ak,.slice Aaq aq.length caq,Str an,I apt]] w (fun v w'=>v=.bool (addrOk ak aq an apt)∧SH w w' [] []):=by
 refine fE (N:=30) Tryz.func128 r0 (by kernel_rfl) r0 ?_
 have hs0:=SH.refl w []
 have haq_m:aq.length≤9223372036854775807:=Nat.le_trans haq.cap haq.capMax
 refine sr (bx (v:=.agg #[I ak,(Z8 Aaq aq caq),Str an,I apt]) (cs:=[I ak,(Z8 Aaq aq caq),Str an,I apt]) hs0 r0 r0 trivial r0 (fun b1 w1 hs1=>?_))
 refine tA (.bool false) r0 (nn (sq (sr (qt r0 (fa 3 fo43_3 r0) (qt r0 (lD (I apt) hs1 0 r0 one3) ?_)))))
 refine cL r0 (sIn (x:=apt) (lo:=0) (hi:=65535) (w:=_)) ?_
 rintro _ w2 ⟨rfl,hs2⟩
 replace hs2:=hs1.call0 hs2
 refine qt r0 (nd (p:=0≤apt∧apt≤65535) r0) (nn ?_)
 refine cdd (p:=¬ (0≤apt∧apt≤65535)) r0 (fun h1=>?_) (fun h1=>?_)
 ·refine sr (tA (.bool false) r0 (nn (rt (tR ?_))))
  refine fT (.bool false) r0 ?_
  have e1:false=addrOk ak aq an apt:=by exact(addr_port _ _ (by assumption)).symm
  exact⟨(congrArg (Value.bool) e1),(hs2.pk [] r0)⟩
 ·refine sk (nN (sq (sr (qt r0 (fa 0 fo43_0 r0) (qt r0 (lD (I ak) hs2 0 r0 one3) (nl ?_))))))
  refine nN (bl (sr (qt r0 (eqi (k:=.i64) (a:=ak) (b:=1) r0 r0) (tA (.bool (decide (ak=1))) r0 (nn ?_)))))
  refine cdd (p:=ak=1) r0 (fun h2=>?_) (fun h2=>?_)
  ·refine sr (qt r0 (fa 1 fo43_1 r0) (qt r0 (lD (Z4 Aaq aq caq) hs2 0 r0 one22) (cL r0 (sQuadValid (Aqs:=Aaq) (cqs:=caq) (qs:=aq) (w:=_) (hqs:=(haq.up0 hs2))) ?_)))
   rintro _ w3 ⟨rfl,hs3⟩
   replace hs3:=hs2.call0 hs3
   refine tm (.bool (quadOk aq)) r0 ?_
   refine spl (b:=quadOk aq) 14 r0 (fun h3=>?_) (fun h3=>?_)
   ·refine q ⟨_,rfl,rfl⟩ r0 r0 (fa 2 fo43_2 r0) (q ⟨_,rfl,rfl⟩ r0 r0 (lD (Str an) hs3 0 r0 one9) (q ⟨_,rfl,rfl⟩ r0 r0 (eqs (l:=an) (m:=[]) r0 r0) (qt r0 (pt (v:=.bool (decide (an=[]))) r0 r0) (tA (.bool (decide (an=[]))) r0 (nn ?_)))))
    refine rt (bR (tR ?_))
    refine fT (.bool (decide (an=[]))) r0 ?_
    have e2:(decide (an=[]))=addrOk ak aq an apt:=by(rw[addr_is1 (by assumption)]; have hp0:0≤apt∧apt≤65535:=Decidable.not_not.1 (by assumption); simp[hp0.1,hp0.2,h1,h2,h3]; done)
    exact⟨(congrArg (Value.bool) e2),(hs3.pk [] r0)⟩
   ·refine gf5 r0 (gf5 r0 (gf5 r0 (qt r0 (pf (v:=.bool false) r0 r0) (tA (.bool false) r0 (nn ?_)))))
    refine rt (bR (tR ?_))
    refine fT (.bool false) r0 ?_
    have e3:false=addrOk ak aq an apt:=by(rw[addr_is1 (by assumption)]; simp[h1,h2,h3]; done)
    exact⟨(congrArg (Value.bool) e3),(hs3.pk [] r0)⟩
  ·refine sr (qt r0 (eqi (k:=.i64) (a:=ak) (b:=3) r0 r0) (tA (.bool (decide (ak=3))) r0 (nn ?_)))
   refine cdd (p:=ak=3) r0 (fun h4=>?_) (fun h4=>?_)
   ·refine sr (qt r0 (fa 2 fo43_2 r0) (qt r0 (lD (Str an) hs2 0 r0 one9) (cL r0 (sNameValid (l:=an) (w:=_) (hl_n:=(by omega))) ?_)))
    rintro _ w4 ⟨rfl,hs4⟩
    replace hs4:=hs2.call0 hs4
    refine tm (.bool (nameOk an)) r0 ?_
    refine spl (b:=nameOk an) 24 r0 (fun h5=>?_) (fun h5=>?_)
    ·refine q ⟨_,rfl,rfl⟩ r0 r0 (fa 1 fo43_1 r0) (q ⟨_,rfl,rfl⟩ r0 r0 (lD (Z4 Aaq aq caq) hs4 0 r0 one22) (q ⟨_,rfl,rfl⟩ r0 r0 (lnA (n:=aq.length) sl22 r0) (q ⟨_,rfl,rfl⟩ r0 r0 (eqi (k:=.i64) (a:=(aq.length:Int)) (b:=0) r0 r0) (qt r0 (pt (v:=.bool (decide ((aq.length:Int)=0))) r0 r0) (tA (.bool (decide ((aq.length:Int)=0))) r0 (nn ?_))))))
     refine rt (bR (tR ?_))
     refine fT (.bool (decide ((aq.length:Int)=0))) r0 ?_
     have e4:(decide ((aq.length:Int)=0))=addrOk ak aq an apt:=by(rw[addr_is3 (by assumption)]; have hp0:0≤apt∧apt≤65535:=Decidable.not_not.1 (by assumption); simp[hp0.1,hp0.2,h1,h2,h4,h5]; done)
     exact⟨(congrArg (Value.bool) e4),(hs4.pk [] r0)⟩
    ·refine gf5 r0 (gf5 r0 (gf5 r0 (gf5 r0 (qt r0 (pf (v:=.bool false) r0 r0) (tA (.bool false) r0 (nn ?_))))))
     refine rt (bR (tR ?_))
     refine fT (.bool false) r0 ?_
     have e5:false=addrOk ak aq an apt:=by(rw[addr_is3 (by assumption)]; simp[h1,h2,h4,h5]; done)
     exact⟨(congrArg (Value.bool) e5),(hs4.pk [] r0)⟩
   ·refine sk (bN (nN (sr (tA (.bool false) r0 (nn ?_)))))
    refine rt (fT (.bool false) r0 ?_)
    have e6:false=addrOk ak aq an apt:=by exact(addr_no _ _ _ (by assumption) (by assumption)).symm
    exact⟨(congrArg (Value.bool) e6),(hs2.pk [] r0)⟩
theorem iIsLogin (lu:List UInt8) (lw:List UInt8) (w:World) (hlu_n:lu.length≤9223372036854775807) (hlw_n:lw.length≤9223372036854775807):Does Tryz.prog 79 [.agg #[Str lu,Str lw]] w (fun v w'=>v=.bool (loginOk lu lw)∧SH w w' [] []):=by
 refine fE (N:=21) Tryz.func79 r0 (by kernel_rfl) r0 ?_
 have hs0:=SH.refl w []
 refine sr (bx (v:=.agg #[Str lu,Str lw]) (cs:=[Str lu,Str lw]) hs0 r0 r0 trivial r0 (fun b1 w1 hs1=>?_))
 refine tA (.bool false) r0 (nx (qt r0 (fa 0 fo51_0 r0) (qt r0 (lD (Str lu) hs1 0 r0 one9) (qt r0 (nes (l:=lu) (m:=[]) r0 r0) ?_))))
 refine tm (.bool (decide (lu≠[]))) r0 ?_
 refine spd (p:=lu≠[]) 6 r0 (fun h1=>?_) (fun h1=>?_)
 ·refine q ⟨_,rfl,rfl⟩ r0 r0 (fa 1 fo51_1 r0) (q ⟨_,rfl,rfl⟩ r0 r0 (lD (Str lw) hs1 0 r0 one9) (q ⟨_,rfl,rfl⟩ r0 r0 (nes (l:=lw) (m:=[]) r0 r0) (qt r0 (pt (v:=.bool (decide (lw≠[]))) r0 r0) (tm (.bool (decide (lw≠[]))) r0 ?_))))
  refine spd (p:=lw≠[]) 11 r0 (fun h2=>?_) (fun h2=>?_)
  ·refine q ⟨_,rfl,rfl⟩ r0 r0 (fa 0 fo51_0 r0) (q ⟨_,rfl,rfl⟩ r0 r0 (lD (Str lu) hs1 0 r0 one9) (cl ⟨_,rfl,rfl⟩ r0 (iUserValid (s:=lu) (w:=_) (hs_n:=(by omega))) ?_))
   rintro _ w2 ⟨rfl,hs2⟩
   replace hs2:=hs1.call0 hs2
   refine qt r0 (pt (v:=.bool (userOk lu)) r0 r0) (tm (.bool (userOk lu)) r0 ?_)
   refine spl (b:=userOk lu) 16 r0 (fun h3=>?_) (fun h3=>?_)
   ·refine q ⟨_,rfl,rfl⟩ r0 r0 (fa 1 fo51_1 r0) (q ⟨_,rfl,rfl⟩ r0 r0 (lD (Str lw) hs2 0 r0 one9) (cl ⟨_,rfl,rfl⟩ r0 (iUserValid (s:=lw) (w:=_) (hs_n:=(by omega))) ?_))
    rintro _ w3 ⟨rfl,hs3⟩
    replace hs3:=hs2.call0 hs3
    refine qt r0 (pt (v:=.bool (userOk lw)) r0 r0) (tA (.bool (userOk lw)) r0 (nn (rt (fT (.bool (userOk lw)) r0 ?_))))
    have e1:(userOk lw)=loginOk lu lw:=by simp[loginOk,h1,h2,h3]
    exact⟨(congrArg (Value.bool) e1),(hs3.pk [] r0)⟩
   ·refine gf5 r0 (gf5 r0 (gf5 r0 (qt r0 (pf (v:=.bool false) r0 r0) (tA (.bool false) r0 (nn (rt ?_))))))
    refine fT (.bool false) r0 ?_
    have e2:false=loginOk lu lw:=by simp[loginOk,h1,h2,h3]
    exact⟨(congrArg (Value.bool) e2),(hs2.pk [] r0)⟩
  ·refine gf5 r0 (gf5 r0 (gf5 r0 (qt r0 (pf (v:=.bool false) r0 r0) (tm (.bool false) r0 (gf5 r0 (gf5 r0 (gf5 r0 ?_)))))))
   refine qt r0 (pf (v:=.bool false) r0 r0) (tA (.bool false) r0 (nn (rt (fT (.bool false) r0 ?_))))
   have e3:false=loginOk lu lw:=by simp[loginOk,h1,h2]
   exact⟨(congrArg (Value.bool) e3),(hs1.pk [] r0)⟩
 ·refine gf5 r0 (gf5 r0 (gf5 r0 (qt r0 (pf (v:=.bool false) r0 r0) (tm (.bool false) r0 (gf5 r0 (gf5 r0 (gf5 r0 ?_)))))))
  refine qt r0 (pf (v:=.bool false) r0 r0) (tm (.bool false) r0 (gf5 r0 (gf5 r0 (gf5 r0 (qt r0 (pf (v:=.bool false) r0 r0) (tA (.bool false) r0 (nl ?_)))))))
  refine nN (rt (fT (.bool false) r0 ?_))
  have e4:false=loginOk lu lw:=by simp[loginOk,h1]
  exact⟨(congrArg (Value.bool) e4),(hs1.pk [] r0)⟩
theorem sL11Ok (lu:List UInt8) (lw:List UInt8) (w:World) (hlu_n:lu.length≤9223372036854775807) (hlw_n:lw.length≤9223372036854775807):Does Tryz.prog 129 [.agg #[Str lu,Str lw]] w (fun v w'=>v=.bool (loginOk lu lw)∧SH w w' [] []):=by
 refine fE (N:=23) Tryz.func129 r0 (by kernel_rfl) r0 ?_
 have hs0:=SH.refl w []
 refine sr (bx (v:=.agg #[Str lu,Str lw]) (cs:=[Str lu,Str lw]) hs0 r0 r0 trivial r0 (fun b1 w1 hs1=>?_))
 refine tA (.bool false) r0 (nx (qt r0 (fa 0 fo51_0 r0) (qt r0 (lD (Str lu) hs1 0 r0 one9) (cL r0 (sUserValid (s:=lu) (w:=_) (hs_n:=(by omega))) ?_))))
 rintro _ w2 ⟨rfl,hs2⟩
 replace hs2:=hs1.call0 hs2
 refine tm (.bool (userOk lu)) r0 ?_
 refine spl (b:=userOk lu) 6 r0 (fun h1=>?_) (fun h1=>?_)
 ·refine q ⟨_,rfl,rfl⟩ r0 r0 (fa 1 fo51_1 r0) (q ⟨_,rfl,rfl⟩ r0 r0 (lD (Str lw) hs2 0 r0 one9) (cl ⟨_,rfl,rfl⟩ r0 (sUserValid (s:=lw) (w:=_) (hs_n:=(by omega))) ?_))
  rintro _ w3 ⟨rfl,hs3⟩
  replace hs3:=hs2.call0 hs3
  refine qt r0 (pt (v:=.bool (userOk lw)) r0 r0) (tm (.bool (userOk lw)) r0 ?_)
  refine spl (b:=userOk lw) 11 r0 (fun h2=>?_) (fun h2=>?_)
  ·refine q ⟨_,rfl,rfl⟩ r0 r0 (fa 0 fo51_0 r0) (q ⟨_,rfl,rfl⟩ r0 r0 (lD (Str lu) hs3 0 r0 one9) (q ⟨_,rfl,rfl⟩ r0 r0 (lnS (l:=lu) st9 r0) (q ⟨_,rfl,rfl⟩ r0 r0 (gtr (k:=.i64) (a:=(lu.length:Int)) (b:=0) r0 r0) (qt r0 (pt (v:=.bool (decide ((0:Int)<(lu.length:Int)))) r0 r0) (tm (.bool (decide ((0:Int)<(lu.length:Int)))) r0 ?_)))))
   refine spd (p:=(0:Int)<(lu.length:Int)) 17 r0 (fun h3=>?_) (fun h3=>?_)
   ·refine q ⟨_,rfl,rfl⟩ r0 r0 (fa 1 fo51_1 r0) (q ⟨_,rfl,rfl⟩ r0 r0 (lD (Str lw) hs3 0 r0 one9) (q ⟨_,rfl,rfl⟩ r0 r0 (lnS (l:=lw) st9 r0) (q ⟨_,rfl,rfl⟩ r0 r0 (gtr (k:=.i64) (a:=(lw.length:Int)) (b:=0) r0 r0) (qt r0 (pt (v:=.bool (decide ((0:Int)<(lw.length:Int)))) r0 r0) (tA (.bool (decide ((0:Int)<(lw.length:Int)))) r0 (nn ?_))))))
    refine rt (fT (.bool (decide ((0:Int)<(lw.length:Int)))) r0 ?_)
    have e1:(decide ((0:Int)<(lw.length:Int)))=loginOk lu lw:=by simp only[loginOk_len]; simp only[h1,h2,h3,decide_true,decide_false,Bool.and_true,Bool.true_and,Bool.and_false,Bool.false_and]
    exact⟨(congrArg (Value.bool) e1),(hs3.pk [] r0)⟩
   ·refine gf5 r0 (gf5 r0 (gf5 r0 (gf5 r0 (qt r0 (pf (v:=.bool false) r0 r0) (tA (.bool false) r0 (nn ?_))))))
    refine rt (fT (.bool false) r0 ?_)
    have e2:false=loginOk lu lw:=by simp only[loginOk_len]; simp only[h1,h2,h3,decide_true,decide_false,Bool.and_true,Bool.true_and,Bool.and_false,Bool.false_and]
    exact⟨(congrArg (Value.bool) e2),(hs3.pk [] r0)⟩
  ·refine gf5 r0 (gf5 r0 (gf5 r0 (gf5 r0 (qt r0 (pf (v:=.bool false) r0 r0) (tm (.bool false) r0 (gf5 r0 (gf5 r0 ?_)))))))
   refine gf5 r0 (gf5 r0 (qt r0 (pf (v:=.bool false) r0 r0) (tA (.bool false) r0 (nn (rt (fT (.bool false) r0 ?_))))))
   have e3:false=loginOk lu lw:=by simp only[loginOk_len]; simp only[h1,h2,decide_true,decide_false,Bool.and_true,Bool.true_and,Bool.and_false,Bool.false_and]
   exact⟨(congrArg (Value.bool) e3),(hs3.pk [] r0)⟩
 ·refine gf5 r0 (gf5 r0 (gf5 r0 (qt r0 (pf (v:=.bool false) r0 r0) (tm (.bool false) r0 (gf5 r0 (gf5 r0 (gf5 r0 ?_)))))))
  refine gf5 r0 (qt r0 (pf (v:=.bool false) r0 r0) (tm (.bool false) r0 (gf5 r0 (gf5 r0 (gf5 r0 (gf5 r0 (qt r0 (pf (v:=.bool false) r0 r0) ?_)))))))
  refine tA (.bool false) r0 (nn (rt (fT (.bool false) r0 ?_)))
  have e4:false=loginOk lu lw:=by simp only[loginOk_len]; simp only[h1,decide_true,decide_false,Bool.and_true,Bool.true_and,Bool.and_false,Bool.false_and]
  exact⟨(congrArg (Value.bool) e4),(hs2.pk [] r0)⟩
set_option maxHeartbeats 8000000 in
theorem l91Quad {rb:Nat} {Ab:Option Addr} {cb:Nat} {bs:List UInt8} {p:Nat} (w:World) (hr:w.heap[rb]?=some (.cells [.slice Ab bs.length cb,.int .i64 (p:Int)].toArray 124 (0,0))) (hb:Sl w [rb] 1 Ab bs.length cb (bs.map U)) (hbn:bs.length≤2000) (hp:p≤549755813888):Does Tryz.prog 159 [pB rb] w (fun v w'=>∃ Ar:Option Addr,∃ cr:Nat,∃ r:List Int,∃ q:Nat,v=.slice Ar r.length cr∧(r.length≤4)∧(q≤p+10)∧SH w w' [rb] [.blk rb 124 [.slice Ab bs.length cb,I (q:Int)],.own Ar r.length cr 3 1 (r.map I)]):=by
 refine fE (N:=31) Tryz.func159 r0 (by kernel_rfl) r0 ?_
 have hs0:=SH.entry1 hr
 refine sr (tA ns r0 (nn (sq ?_)))
 refine raJ (fun w'=>∃ L,SH w w' [rb] L∧True) (fun f w'=>∃ (r1':Int) (q1' b2':Nat) (r4':Int) (q4':Nat) (r8':Int) (q8':Nat) (r10':Int) (q10':Nat) (r12':Int) (q12' b13':Nat),Hz f [(0,pB rb),(3,sb b13' (([(Z11 r1').getD r4'.toNat 0,r8',r10',r12']:List Int).length) 4)]∧(0≤r1'∧(r1'<256∨r1'=0))∧(q1'≤p+1)∧(0≤r4'∧(r4'<5∨r4'=0))∧(q4'≤q1'+1)∧(0≤r8'∧(r8'<2∨r8'=0))∧(q8'≤q4'+1)∧(0≤r10'∧(r10'<2∨r10'=0))∧(q10'≤q8'+1)∧(0≤r12'∧(r12'<256∨r12'=0))∧(q12'≤q10'+1)∧SH w w' [rb] [(Z3 rb Ab bs cb q12'),oI b13' ([(Z11 r1').getD r4'.toNat 0,r8',r10',r12']:List Int) 4 3,oI b2' (Z11 r1') 5 3]) mixed ?_ ?_
 ·refine dG 2 15 8191 (fun f w'=>∃ (r1':Int) (q1' b2':Nat) (r4':Int) (q4':Nat) (r8':Int) (q8':Nat) (r10':Int) (q10':Nat) (r12':Int) (q12':Nat),Hz f [(0,pB rb),(10,I ((Z11 r1').getD r4'.toNat 0)),(12,I r8'),(14,I r10'),(16,I r12')]∧(0≤r1'∧(r1'<256∨r1'=0))∧(q1'≤p+1)∧(0≤r4'∧(r4'<5∨r4'=0))∧(q4'≤q1'+1)∧(0≤r8'∧(r8'<2∨r8'=0))∧(q8'≤q4'+1)∧(0≤r10'∧(r10'<2∨r10'=0))∧(q10'≤q8'+1)∧(0≤r12'∧(r12'<256∨r12'=0))∧(q12'≤q10'+1)∧SH w w' [rb] [(Z3 rb Ab bs cb q12'),oI b2' (Z11 r1') 5 3]) ?_ (fun D_1_0=>?_)
  ·rintro f w1 ⟨r1',q1',b2',r4',q4',r8',q8',r10',q10',r12',q12',⟨g1,rfl⟩,p1,p2,p3,p4,p5,p6,p7,p8,p9,p10,hs1⟩
   refine aO 13 r0 (bsk hs1 sl22 [I ((Z11 r1').getD r4'.toNat 0),I r8',I r10',I r12'] [I ((Z11 r1').getD r4'.toNat 0),I r8',I r10',I r12'] trivial r0 (fun b13' w2 hs2=>?_))
   refine nk ⟨_,hs2,trivial⟩ ?_
   refine tk (fuel:=0) (is:=[14]) (.cons r0 (.nil)) (by kernel_rfl) (by kernel_rfl) ⟨_,hs2,trivial⟩ (yA r0 (asg (v:=sb b13' (([(Z11 r1').getD r4'.toNat 0,r8',r10',r12']:List Int).length) 4) r0) (.nil (ad (by kernel_rfl) ?_)))
   exact⟨r1',q1',b2',r4',q4',r8',q8',r10',q10',r12',q12',b13',(zR r0),p1,p2,p3,p4,p5,p6,p7,p8,p9,p10,(hs2.pk [0,2,1] r0)⟩
  refine dG 3 15 4095 (fun f w'=>∃ (r1':Int) (q1' b2':Nat) (r4':Int) (q4':Nat) (r8':Int) (q8':Nat) (r10':Int) (q10':Nat),Hz f [(0,pB rb),(10,I ((Z11 r1').getD r4'.toNat 0)),(12,I r8'),(14,I r10'),(15,pB rb)]∧(0≤r1'∧(r1'<256∨r1'=0))∧(q1'≤p+1)∧(0≤r4'∧(r4'<5∨r4'=0))∧(q4'≤q1'+1)∧(0≤r8'∧(r8'<2∨r8'=0))∧(q8'≤q4'+1)∧(0≤r10'∧(r10'<2∨r10'=0))∧(q10'≤q8'+1)∧SH w w' [rb] [(Z3 rb Ab bs cb q10'),oI b2' (Z11 r1') 5 3]) ?_ (fun D_1_1=>?_)
  ·rintro f w3 ⟨r1',q1',b2',r4',q4',r8',q8',r10',q10',⟨g2,rfl⟩,p11,p12,p13,p14,p15,p16,p17,p18,hs3⟩
   refine aO 12 r0 (cL r0 (pick (rb:=rb) (Ab:=Ab) (cb:=cb) (bs:=bs) (p:=q10') (n:=256) (w:=_) (hr:=(blk_heap hs3 0 r0)) (hb:=(hb.up hs3 (fun _ h=>h) (fun _ h=>.inl h))) (hbn:=(by assumption)) (hp:=(by omega))) ?_)
   rintro _ w4 ⟨r12',q12',rfl,p19,p20,hs4⟩
   replace hs4:=hs3.callM 0 r0 hs4 m_1
   exact nk ⟨_,hs4,trivial⟩ (alc D_1_0 ⟨r1',q1',b2',r4',q4',r8',q8',r10',q10',r12',q12',(zR r0),p11,p12,p13,p14,p15,p16,p17,p18,p19,p20,(hs4.pk [1,0] r0)⟩)
  refine dG 3 15 8127 (fun f w'=>∃ (r1':Int) (q1' b2':Nat) (r4':Int) (q4':Nat) (r8':Int) (q8':Nat) (r10':Int) (q10':Nat) (r12':Int) (q12':Nat),Hz f [(0,pB rb),(9,.pointer (some ⟨b2',r4'.toNat*1,none⟩)),(12,I r8'),(14,I r10'),(16,I r12')]∧(0≤r1'∧(r1'<256∨r1'=0))∧(q1'≤p+1)∧(0≤r4'∧(r4'<5∨r4'=0))∧(q4'≤q1'+1)∧(0≤r8'∧(r8'<2∨r8'=0))∧(q8'≤q4'+1)∧(0≤r10'∧(r10'<2∨r10'=0))∧(q10'≤q8'+1)∧(0≤r12'∧(r12'<256∨r12'=0))∧(q12'≤q10'+1)∧SH w w' [rb] [(Z3 rb Ab bs cb q12'),oI b2' (Z11 r1') 5 3]) ?_ (fun D_1_2=>?_)
  ·rintro f w5 ⟨r1',q1',b2',r4',q4',r8',q8',r10',q10',r12',q12',⟨g3,rfl⟩,p21,p22,p23,p24,p25,p26,p27,p28,p29,p30,hs5⟩
   refine aO 6 r0 (qt r0 (ldo1n (g:=I) (ys:=(Z11 r1')) (o:=r4'.toNat) 0 hs5 1 r0 r0 (by(simp; omega)) one3) ?_)
   exact nk ⟨_,hs5,trivial⟩ (alc D_1_0 ⟨r1',q1',b2',r4',q4',r8',q8',r10',q10',r12',q12',(zR r0),p21,p22,p23,p24,p25,p26,p27,p28,p29,p30,hs5⟩)
  refine dG 4 15 3071 (fun f w'=>∃ (r1':Int) (q1' b2':Nat) (r4':Int) (q4':Nat) (r8':Int) (q8':Nat),Hz f [(0,pB rb),(10,I ((Z11 r1').getD r4'.toNat 0)),(12,I r8'),(13,pB rb),(15,pB rb)]∧(0≤r1'∧(r1'<256∨r1'=0))∧(q1'≤p+1)∧(0≤r4'∧(r4'<5∨r4'=0))∧(q4'≤q1'+1)∧(0≤r8'∧(r8'<2∨r8'=0))∧(q8'≤q4'+1)∧SH w w' [rb] [(Z3 rb Ab bs cb q8'),oI b2' (Z11 r1') 5 3]) ?_ (fun D_1_3=>?_)
  ·rintro f w6 ⟨r1',q1',b2',r4',q4',r8',q8',⟨g4,rfl⟩,p31,p32,p33,p34,p35,p36,hs6⟩
   refine aO 10 r0 (cL r0 (pick (rb:=rb) (Ab:=Ab) (cb:=cb) (bs:=bs) (p:=q8') (n:=2) (w:=_) (hr:=(blk_heap hs6 0 r0)) (hb:=(hb.up hs6 (fun _ h=>h) (fun _ h=>.inl h))) (hbn:=(by assumption)) (hp:=(by omega))) ?_)
   rintro _ w7 ⟨r10',q10',rfl,p37,p38,hs7⟩
   replace hs7:=hs6.callM 0 r0 hs7 m_1
   exact nk ⟨_,hs7,trivial⟩ (alc D_1_1 ⟨r1',q1',b2',r4',q4',r8',q8',r10',q10',(zR r0),p31,p32,p33,p34,p35,p36,p37,p38,(hs7.pk [1,0] r0)⟩)
  refine dG 4 15 4031 (fun f w'=>∃ (r1':Int) (q1' b2':Nat) (r4':Int) (q4':Nat) (r8':Int) (q8':Nat) (r10':Int) (q10':Nat),Hz f [(0,pB rb),(9,.pointer (some ⟨b2',r4'.toNat*1,none⟩)),(12,I r8'),(14,I r10'),(15,pB rb)]∧(0≤r1'∧(r1'<256∨r1'=0))∧(q1'≤p+1)∧(0≤r4'∧(r4'<5∨r4'=0))∧(q4'≤q1'+1)∧(0≤r8'∧(r8'<2∨r8'=0))∧(q8'≤q4'+1)∧(0≤r10'∧(r10'<2∨r10'=0))∧(q10'≤q8'+1)∧SH w w' [rb] [(Z3 rb Ab bs cb q10'),oI b2' (Z11 r1') 5 3]) ?_ (fun D_1_4=>?_)
  ·rintro f w8 ⟨r1',q1',b2',r4',q4',r8',q8',r10',q10',⟨g5,rfl⟩,p39,p40,p41,p42,p43,p44,p45,p46,hs8⟩
   refine aaL [6,12] (fa_cons ?_ (fa_one ?_))
   ·refine one_ r0 (qt r0 (ldo1n (g:=I) (ys:=(Z11 r1')) (o:=r4'.toNat) 0 hs8 1 r0 r0 (by(simp; omega)) one3) ?_)
    exact nk ⟨_,hs8,trivial⟩ (alc D_1_1 ⟨r1',q1',b2',r4',q4',r8',q8',r10',q10',(zR r0),p39,p40,p41,p42,p43,p44,p45,p46,hs8⟩)
   ·refine one_ r0 (cL r0 (pick (rb:=rb) (Ab:=Ab) (cb:=cb) (bs:=bs) (p:=q10') (n:=256) (w:=_) (hr:=(blk_heap hs8 0 r0)) (hb:=(hb.up hs8 (fun _ h=>h) (fun _ h=>.inl h))) (hbn:=(by assumption)) (hp:=(by omega))) ?_)
    rintro _ w9 ⟨r12',q12',rfl,p47,p48,hs9⟩
    replace hs9:=hs8.callM 0 r0 hs9 m_1
    exact nk ⟨_,hs9,trivial⟩ (alc D_1_2 ⟨r1',q1',b2',r4',q4',r8',q8',r10',q10',r12',q12',(zR r0),p39,p40,p41,p42,p43,p44,p45,p46,p47,p48,(hs9.pk [1,0] r0)⟩)
  refine dG 5 15 2815 (fun f w'=>∃ (r1':Int) (q1' b2':Nat) (r4':Int) (q4':Nat),Hz f [(0,pB rb),(10,I ((Z11 r1').getD r4'.toNat 0)),(11,pB rb),(13,pB rb),(15,pB rb)]∧(0≤r1'∧(r1'<256∨r1'=0))∧(q1'≤p+1)∧(0≤r4'∧(r4'<5∨r4'=0))∧(q4'≤q1'+1)∧SH w w' [rb] [(Z3 rb Ab bs cb q4'),oI b2' (Z11 r1') 5 3]) ?_ (fun D_1_5=>?_)
  ·rintro f w10 ⟨r1',q1',b2',r4',q4',⟨g6,rfl⟩,p49,p50,p51,p52,hs10⟩
   refine aO 8 r0 (cL r0 (pick (rb:=rb) (Ab:=Ab) (cb:=cb) (bs:=bs) (p:=q4') (n:=2) (w:=_) (hr:=(blk_heap hs10 0 r0)) (hb:=(hb.up hs10 (fun _ h=>h) (fun _ h=>.inl h))) (hbn:=(by assumption)) (hp:=(by omega))) ?_)
   rintro _ w11 ⟨r8',q8',rfl,p53,p54,hs11⟩
   replace hs11:=hs10.callM 0 r0 hs11 m_1
   exact nk ⟨_,hs11,trivial⟩ (alc D_1_3 ⟨r1',q1',b2',r4',q4',r8',q8',(zR r0),p49,p50,p51,p52,p53,p54,(hs11.pk [1,0] r0)⟩)
  refine dG 5 15 3007 (fun f w'=>∃ (r1':Int) (q1' b2':Nat) (r4':Int) (q4':Nat) (r8':Int) (q8':Nat),Hz f [(0,pB rb),(9,.pointer (some ⟨b2',r4'.toNat*1,none⟩)),(12,I r8'),(13,pB rb),(15,pB rb)]∧(0≤r1'∧(r1'<256∨r1'=0))∧(q1'≤p+1)∧(0≤r4'∧(r4'<5∨r4'=0))∧(q4'≤q1'+1)∧(0≤r8'∧(r8'<2∨r8'=0))∧(q8'≤q4'+1)∧SH w w' [rb] [(Z3 rb Ab bs cb q8'),oI b2' (Z11 r1') 5 3]) ?_ (fun D_1_6=>?_)
  ·rintro f w12 ⟨r1',q1',b2',r4',q4',r8',q8',⟨g7,rfl⟩,p55,p56,p57,p58,p59,p60,hs12⟩
   refine aaL [6,10] (fa_cons ?_ (fa_one ?_))
   ·refine one_ r0 (qt r0 (ldo1n (g:=I) (ys:=(Z11 r1')) (o:=r4'.toNat) 0 hs12 1 r0 r0 (by(simp; omega)) one3) ?_)
    exact nk ⟨_,hs12,trivial⟩ (alc D_1_3 ⟨r1',q1',b2',r4',q4',r8',q8',(zR r0),p55,p56,p57,p58,p59,p60,hs12⟩)
   ·refine one_ r0 (cL r0 (pick (rb:=rb) (Ab:=Ab) (cb:=cb) (bs:=bs) (p:=q8') (n:=2) (w:=_) (hr:=(blk_heap hs12 0 r0)) (hb:=(hb.up hs12 (fun _ h=>h) (fun _ h=>.inl h))) (hbn:=(by assumption)) (hp:=(by omega))) ?_)
    rintro _ w13 ⟨r10',q10',rfl,p61,p62,hs13⟩
    replace hs13:=hs12.callM 0 r0 hs13 m_1
    exact nk ⟨_,hs13,trivial⟩ (alc D_1_4 ⟨r1',q1',b2',r4',q4',r8',q8',r10',q10',(zR r0),p55,p56,p57,p58,p59,p60,p61,p62,(hs13.pk [1,0] r0)⟩)
  refine dG 5 15 8091 (fun f w'=>∃ (r1':Int) (q1':Nat) (r4':Int) (q4':Nat) (r8':Int) (q8':Nat) (r10':Int) (q10':Nat) (r12':Int) (q12':Nat),Hz f [(0,pB rb),(5,I r1'),(8,I r4'),(12,I r8'),(14,I r10'),(16,I r12')]∧(0≤r1'∧(r1'<256∨r1'=0))∧(q1'≤p+1)∧(0≤r4'∧(r4'<5∨r4'=0))∧(q4'≤q1'+1)∧(0≤r8'∧(r8'<2∨r8'=0))∧(q8'≤q4'+1)∧(0≤r10'∧(r10'<2∨r10'=0))∧(q10'≤q8'+1)∧(0≤r12'∧(r12'<256∨r12'=0))∧(q12'≤q10'+1)∧SH w w' [rb] [(Z3 rb Ab bs cb q12')]) ?_ (fun D_1_7=>?_)
  ·rintro f w14 ⟨r1',q1',r4',q4',r8',q8',r10',q10',r12',q12',⟨g8,rfl⟩,p63,p64,p65,p66,p67,p68,p69,p70,p71,p72,hs14⟩
   refine aO 2 r0 (bsk hs14 sl22 [I 0,I 1,I 10,I 255,I r1'] [I 0,I 1,I 10,I 255,I r1'] trivial r0 (fun b2' w15 hs15=>?_))
   refine nk ⟨_,hs15,trivial⟩ ?_
   refine tk (fuel:=3) (is:=[5]) (.cons r0 (.nil)) (by kernel_rfl) (by kernel_rfl) ⟨_,hs15,trivial⟩ (yA r0 (ixo r4'.toNat sl22 r0 (ieq (x:=r4') (by omega)) (by omega)) (.nil ?_))
   exact alc D_1_2 ⟨r1',q1',b2',r4',q4',r8',q8',r10',q10',r12',q12',(zR r0),p63,p64,p65,p66,p67,p68,p69,p70,p71,p72,hs15⟩
  refine dG 6 15 2751 (fun f w'=>∃ (r1':Int) (q1' b2':Nat) (r4':Int) (q4':Nat),Hz f [(0,pB rb),(9,.pointer (some ⟨b2',r4'.toNat*1,none⟩)),(11,pB rb),(13,pB rb),(15,pB rb)]∧(0≤r1'∧(r1'<256∨r1'=0))∧(q1'≤p+1)∧(0≤r4'∧(r4'<5∨r4'=0))∧(q4'≤q1'+1)∧SH w w' [rb] [(Z3 rb Ab bs cb q4'),oI b2' (Z11 r1') 5 3]) ?_ (fun D_1_8=>?_)
  ·rintro f w16 ⟨r1',q1',b2',r4',q4',⟨g9,rfl⟩,p73,p74,p75,p76,hs16⟩
   refine aaL [6,8] (fa_cons ?_ (fa_one ?_))
   ·refine one_ r0 (qt r0 (ldo1n (g:=I) (ys:=(Z11 r1')) (o:=r4'.toNat) 0 hs16 1 r0 r0 (by(simp; omega)) one3) ?_)
    exact nk ⟨_,hs16,trivial⟩ (alc D_1_5 ⟨r1',q1',b2',r4',q4',(zR r0),p73,p74,p75,p76,hs16⟩)
   ·refine one_ r0 (cL r0 (pick (rb:=rb) (Ab:=Ab) (cb:=cb) (bs:=bs) (p:=q4') (n:=2) (w:=_) (hr:=(blk_heap hs16 0 r0)) (hb:=(hb.up hs16 (fun _ h=>h) (fun _ h=>.inl h))) (hbn:=(by assumption)) (hp:=(by omega))) ?_)
    rintro _ w17 ⟨r8',q8',rfl,p77,p78,hs17⟩
    replace hs17:=hs16.callM 0 r0 hs17 m_1
    exact nk ⟨_,hs17,trivial⟩ (alc D_1_6 ⟨r1',q1',b2',r4',q4',r8',q8',(zR r0),p73,p74,p75,p76,p77,p78,(hs17.pk [1,0] r0)⟩)
  refine dG 6 15 3995 (fun f w'=>∃ (r1':Int) (q1':Nat) (r4':Int) (q4':Nat) (r8':Int) (q8':Nat) (r10':Int) (q10':Nat),Hz f [(0,pB rb),(5,I r1'),(8,I r4'),(12,I r8'),(14,I r10'),(15,pB rb)]∧(0≤r1'∧(r1'<256∨r1'=0))∧(q1'≤p+1)∧(0≤r4'∧(r4'<5∨r4'=0))∧(q4'≤q1'+1)∧(0≤r8'∧(r8'<2∨r8'=0))∧(q8'≤q4'+1)∧(0≤r10'∧(r10'<2∨r10'=0))∧(q10'≤q8'+1)∧SH w w' [rb] [(Z3 rb Ab bs cb q10')]) ?_ (fun D_1_9=>?_)
  ·rintro f w18 ⟨r1',q1',r4',q4',r8',q8',r10',q10',⟨g10,rfl⟩,p79,p80,p81,p82,p83,p84,p85,p86,hs18⟩
   refine aaL [2,12] (fa_cons ?_ (fa_one ?_))
   ·refine one_ r0 (bsk hs18 sl22 [I 0,I 1,I 10,I 255,I r1'] [I 0,I 1,I 10,I 255,I r1'] trivial r0 (fun b2' w19 hs19=>?_))
    refine nk ⟨_,hs19,trivial⟩ ?_
    refine tk (fuel:=4) (is:=[5]) (.cons r0 (.nil)) (by kernel_rfl) (by kernel_rfl) ⟨_,hs19,trivial⟩ (yA r0 (ixo r4'.toNat sl22 r0 (ieq (x:=r4') (by omega)) (by omega)) (.nil ?_))
    exact alc D_1_4 ⟨r1',q1',b2',r4',q4',r8',q8',r10',q10',(zR r0),p79,p80,p81,p82,p83,p84,p85,p86,hs19⟩
   ·refine one_ r0 (cL r0 (pick (rb:=rb) (Ab:=Ab) (cb:=cb) (bs:=bs) (p:=q10') (n:=256) (w:=_) (hr:=(blk_heap hs18 0 r0)) (hb:=(hb.up hs18 (fun _ h=>h) (fun _ h=>.inl h))) (hbn:=(by assumption)) (hp:=(by omega))) ?_)
    rintro _ w20 ⟨r12',q12',rfl,p87,p88,hs20⟩
    replace hs20:=hs18.callM 0 r0 hs20 m_1
    exact nk ⟨_,hs20,trivial⟩ (alc D_1_7 ⟨r1',q1',r4',q4',r8',q8',r10',q10',r12',q12',(zR r0),p79,p80,p81,p82,p83,p84,p85,p86,p87,p88,hs20⟩)
  refine dG 7 15 2971 (fun f w'=>∃ (r1':Int) (q1':Nat) (r4':Int) (q4':Nat) (r8':Int) (q8':Nat),Hz f [(0,pB rb),(5,I r1'),(8,I r4'),(12,I r8'),(13,pB rb),(15,pB rb)]∧(0≤r1'∧(r1'<256∨r1'=0))∧(q1'≤p+1)∧(0≤r4'∧(r4'<5∨r4'=0))∧(q4'≤q1'+1)∧(0≤r8'∧(r8'<2∨r8'=0))∧(q8'≤q4'+1)∧SH w w' [rb] [(Z3 rb Ab bs cb q8')]) ?_ (fun D_1_10=>?_)
  ·rintro f w21 ⟨r1',q1',r4',q4',r8',q8',⟨g11,rfl⟩,p89,p90,p91,p92,p93,p94,hs21⟩
   refine aaL [2,10] (fa_cons ?_ (fa_one ?_))
   ·refine one_ r0 (bsk hs21 sl22 [I 0,I 1,I 10,I 255,I r1'] [I 0,I 1,I 10,I 255,I r1'] trivial r0 (fun b2' w22 hs22=>?_))
    refine nk ⟨_,hs22,trivial⟩ ?_
    refine tk (fuel:=5) (is:=[5]) (.cons r0 (.nil)) (by kernel_rfl) (by kernel_rfl) ⟨_,hs22,trivial⟩ (yA r0 (ixo r4'.toNat sl22 r0 (ieq (x:=r4') (by omega)) (by omega)) (.nil ?_))
    exact alc D_1_6 ⟨r1',q1',b2',r4',q4',r8',q8',(zR r0),p89,p90,p91,p92,p93,p94,hs22⟩
   ·refine one_ r0 (cL r0 (pick (rb:=rb) (Ab:=Ab) (cb:=cb) (bs:=bs) (p:=q8') (n:=2) (w:=_) (hr:=(blk_heap hs21 0 r0)) (hb:=(hb.up hs21 (fun _ h=>h) (fun _ h=>.inl h))) (hbn:=(by assumption)) (hp:=(by omega))) ?_)
    rintro _ w23 ⟨r10',q10',rfl,p95,p96,hs23⟩
    replace hs23:=hs21.callM 0 r0 hs23 m_1
    exact nk ⟨_,hs23,trivial⟩ (alc D_1_9 ⟨r1',q1',r4',q4',r8',q8',r10',q10',(zR r0),p89,p90,p91,p92,p93,p94,p95,p96,hs23⟩)
  refine dG 8 15 2703 (fun f w'=>∃ (r1':Int) (q1' b2':Nat),Hz f [(0,pB rb),(6,sb b2' ((Z11 r1').length) 5),(7,pB rb),(11,pB rb),(13,pB rb),(15,pB rb)]∧(0≤r1'∧(r1'<256∨r1'=0))∧(q1'≤p+1)∧SH w w' [rb] [(Z3 rb Ab bs cb q1'),oI b2' (Z11 r1') 5 3]) ?_ (fun D_1_11=>?_)
  ·rintro f w24 ⟨r1',q1',b2',⟨g12,rfl⟩,p97,p98,hs24⟩
   refine aO 4 r0 (cL r0 (pick (rb:=rb) (Ab:=Ab) (cb:=cb) (bs:=bs) (p:=q1') (n:=5) (w:=_) (hr:=(blk_heap hs24 0 r0)) (hb:=(hb.up hs24 (fun _ h=>h) (fun _ h=>.inl h))) (hbn:=(by assumption)) (hp:=(by omega))) ?_)
   rintro _ w25 ⟨r4',q4',rfl,p99,p100,hs25⟩
   replace hs25:=hs24.callM 0 r0 hs25 m_1
   refine nk ⟨_,hs25,trivial⟩ ?_
   refine tk (fuel:=6) (is:=[5]) (.cons r0 (.nil)) (by kernel_rfl) (by kernel_rfl) ⟨_,hs25,trivial⟩ (yA r0 (ixo r4'.toNat sl22 r0 (ieq (x:=r4') (by omega)) (by(simp; omega))) (.nil ?_))
   exact alc D_1_8 ⟨r1',q1',b2',r4',q4',(zR r0),p97,p98,p99,p100,(hs25.pk [1,0] r0)⟩
  refine dG 8 15 2715 (fun f w'=>∃ (r1':Int) (q1':Nat) (r4':Int) (q4':Nat),Hz f [(0,pB rb),(5,I r1'),(8,I r4'),(11,pB rb),(13,pB rb),(15,pB rb)]∧(0≤r1'∧(r1'<256∨r1'=0))∧(q1'≤p+1)∧(0≤r4'∧(r4'<5∨r4'=0))∧(q4'≤q1'+1)∧SH w w' [rb] [(Z3 rb Ab bs cb q4')]) ?_ (fun D_1_12=>?_)
  ·rintro f w26 ⟨r1',q1',r4',q4',⟨g13,rfl⟩,p101,p102,p103,p104,hs26⟩
   refine aaL [2,8] (fa_cons ?_ (fa_one ?_))
   ·refine one_ r0 (bsk hs26 sl22 [I 0,I 1,I 10,I 255,I r1'] [I 0,I 1,I 10,I 255,I r1'] trivial r0 (fun b2' w27 hs27=>?_))
    refine nk ⟨_,hs27,trivial⟩ ?_
    refine tk (fuel:=6) (is:=[5]) (.cons r0 (.nil)) (by kernel_rfl) (by kernel_rfl) ⟨_,hs27,trivial⟩ (yA r0 (ixo r4'.toNat sl22 r0 (ieq (x:=r4') (by omega)) (by omega)) (.nil ?_))
    exact alc D_1_8 ⟨r1',q1',b2',r4',q4',(zR r0),p101,p102,p103,p104,hs27⟩
   ·refine one_ r0 (cL r0 (pick (rb:=rb) (Ab:=Ab) (cb:=cb) (bs:=bs) (p:=q4') (n:=2) (w:=_) (hr:=(blk_heap hs26 0 r0)) (hb:=(hb.up hs26 (fun _ h=>h) (fun _ h=>.inl h))) (hbn:=(by assumption)) (hp:=(by omega))) ?_)
    rintro _ w28 ⟨r8',q8',rfl,p105,p106,hs28⟩
    replace hs28:=hs26.callM 0 r0 hs28 m_1
    exact nk ⟨_,hs28,trivial⟩ (alc D_1_10 ⟨r1',q1',r4',q4',r8',q8',(zR r0),p101,p102,p103,p104,p105,p106,hs28⟩)
  refine dG 9 15 2699 (fun f w'=>∃ (r1':Int) (q1':Nat),Hz f [(0,pB rb),(5,I r1'),(7,pB rb),(11,pB rb),(13,pB rb),(15,pB rb)]∧(0≤r1'∧(r1'<256∨r1'=0))∧(q1'≤p+1)∧SH w w' [rb] [(Z3 rb Ab bs cb q1')]) ?_ (fun D_1_13=>?_)
  ·rintro f w29 ⟨r1',q1',⟨g14,rfl⟩,p107,p108,hs29⟩
   refine aaL [2,4] (fa_cons ?_ (fa_one ?_))
   ·refine one_ r0 (bsk hs29 sl22 [I 0,I 1,I 10,I 255,I r1'] [I 0,I 1,I 10,I 255,I r1'] trivial r0 (fun b2' w30 hs30=>?_))
    exact nk ⟨_,hs30,trivial⟩ (alc D_1_11 ⟨r1',q1',b2',(zR r0),p107,p108,hs30⟩)
   ·refine one_ r0 (cL r0 (pick (rb:=rb) (Ab:=Ab) (cb:=cb) (bs:=bs) (p:=q1') (n:=5) (w:=_) (hr:=(blk_heap hs29 0 r0)) (hb:=(hb.up hs29 (fun _ h=>h) (fun _ h=>.inl h))) (hbn:=(by assumption)) (hp:=(by omega))) ?_)
    rintro _ w31 ⟨r4',q4',rfl,p109,p110,hs31⟩
    replace hs31:=hs29.callM 0 r0 hs31 m_1
    exact nk ⟨_,hs31,trivial⟩ (alc D_1_12 ⟨r1',q1',r4',q4',(zR r0),p107,p108,p109,p110,hs31⟩)
  refine dG 10 15 2697 (fun f w'=>Hz f [(0,pB rb),(4,pB rb),(7,pB rb),(11,pB rb),(13,pB rb),(15,pB rb)]∧SH w w' [rb] [(Z3 rb Ab bs cb p)]) ?_ (fun D_1_14=>?_)
  ·rintro f w32 ⟨⟨g15,rfl⟩,hs32⟩
   refine aO 1 r0 (cL r0 (pick (rb:=rb) (Ab:=Ab) (cb:=cb) (bs:=bs) (p:=p) (n:=256) (w:=_) (hr:=(blk_heap hs32 0 r0)) (hb:=(hb.up hs32 (fun _ h=>h) (fun _ h=>.inl h))) (hbn:=(by assumption)) (hp:=(by omega))) ?_)
   rintro _ w33 ⟨r1',q1',rfl,p111,p112,hs33⟩
   replace hs33:=hs32.callM 0 r0 hs33 m_1
   exact nk ⟨_,hs33,trivial⟩ (alc D_1_13 ⟨r1',q1',(zR r0),p111,p112,hs33⟩)
  have hs34:=hs0.drew
  refine tk (fuel:=10) (is:=[0,3,7,9,11]) (.cons r0 (.cons r0 (.cons r0 (.cons r0 (.cons r0 (.nil)))))) (by kernel_rfl) (by kernel_rfl) ⟨_,hs34,trivial⟩ (yA r0 (mv (v:=pB rb) r0) (yA r0 (mv (v:=pB rb) r0) (yA r0 (mv (v:=pB rb) r0) (yA r0 (mv (v:=pB rb) r0) (yA r0 (mv (v:=pB rb) r0) (.nil ?_))))))
  exact alc D_1_14 ⟨(zR r0),hs34⟩
 rintro f w34 ⟨r1',q1',b2',r4',q4',r8',q8',r10',q10',r12',q12',b13',⟨g16,rfl⟩,p113,p114,p115,p116,p117,p118,p119,p120,p121,p122,hs35⟩
 refine nN (sq (sr (tm (pB rb) r0 (cL r0 (pick (rb:=rb) (Ab:=Ab) (cb:=cb) (bs:=bs) (p:=q12') (n:=40) (w:=_) (hr:=(blk_heap hs35 0 r0)) (hb:=(hb.up hs35 (fun _ h=>h) (fun _ h=>.inl h))) (hbn:=(by assumption)) (hp:=(by omega))) ?_))))
 rintro _ w35 ⟨r1,q1,rfl,p123,p124,hs36⟩
 replace hs36:=hs35.callM 0 r0 hs36 m_1
 refine nn (bl (sr (qt r0 (eqi (k:=.i64) (a:=r1) (b:=0) r0 r0) (tA (.bool (decide (r1=0))) r0 (nl ?_)))))
 refine nN ?_
 refine cdd (p:=r1=0) r0 (fun h1=>?_) (fun h1=>?_)
 ·refine rg (tm (sb b13' (([(Z11 r1').getD r4'.toNat 0,r8',r10',r12']:List Int).length) 4) r0 (tm (pB rb) r0 (cL r0 (pick (rb:=rb) (Ab:=Ab) (cb:=cb) (bs:=bs) (p:=q1) (n:=4) (w:=_) (hr:=(blk_heap hs36 2 r0)) (hb:=(hb.up hs36 (fun _ h=>h) (fun _ h=>.inl h))) (hbn:=(by assumption)) (hp:=(by omega))) ?_)))
  rintro _ w36 ⟨r2,q2,rfl,p125,p126,hs37⟩
  replace hs37:=hs36.callM 2 r0 hs37 m_1
  refine qt r0 (ixo r2.toNat sl22 r0 (ieq (x:=r2) (by omega)) (by(simp; omega))) (stomn (g:=I) (ys:=([(Z11 r1').getD r4'.toNat 0,r8',r10',r12']:List Int)) (o:=r2.toNat) (u:=256) hs37 0 r0 r0 r0 r0 (by(simp; omega)) r0 one3 trivial (fun w37 hs38=>?_))
  refine nl (bN (nN (sr (tm (sb b13' (([(Z11 r1').getD r4'.toNat 0,r8',r10',r12']:List Int).length) 4) r0 (tA (sb b13' (([(Z11 r1').getD r4'.toNat 0,r8',r10',r12']:List Int).length) 4) r0 ?_)))))
  have e1:([(Z11 r1').getD r4'.toNat 0,r8',r10',r12']:List Int).length=(([(Z11 r1').getD r4'.toNat 0,r8',r10',r12']:List Int).set r2.toNat 256).length:=by(simp; done)
  have hs39:SH w w37 [rb] [oI b2' (Z11 r1') 5 3,(Z3 rb Ab bs cb q2),oI b13' (([(Z11 r1').getD r4'.toNat 0,r8',r10',r12']:List Int).set r2.toNat 256) 4 3]:=(hs38.cast (lc r0 (lc r0 (lc (own_eq (g:=I) r0 e1 r0 r0) r0))))
  refine re 2 (v:=sb b13' ((([(Z11 r1').getD r4'.toNat 0,r8',r10',r12']:List Int).set r2.toNat 256).length) 4) (show (sb b13' (([(Z11 r1').getD r4'.toNat 0,r8',r10',r12']:List Int).length) 4:Value)=sb b13' ((([(Z11 r1').getD r4'.toNat 0,r8',r10',r12']:List Int).set r2.toNat 256).length) 4 from slv r0 e1 r0) (nn (rt (fT (sb b13' ((([(Z11 r1').getD r4'.toNat 0,r8',r10',r12']:List Int).set r2.toNat 256).length) 4) r0 ?_)))
  exact⟨(Z2 b13'),4,([(Z11 r1').getD r4'.toNat 0,r8',r10',r12']:List Int).set r2.toNat 256,q2,rfl,(by simp),(by omega),(hs39.pk [1,2] r0)⟩
 ·refine sr (qt r0 (eqi (k:=.i64) (a:=r1) (b:=1) r0 r0) (tA (.bool (decide (r1=1))) r0 (nn ?_)))
  refine cdd (p:=r1=1) r0 (fun h2=>?_) (fun h2=>?_)
  ·refine sr (tm (sb b13' (([(Z11 r1').getD r4'.toNat 0,r8',r10',r12']:List Int).length) 4) r0 ?_)
   have e2:(([(Z11 r1').getD r4'.toNat 0,r8',r10',r12']:List Int).map I).take (3*1)=(([(Z11 r1').getD r4'.toNat 0,r8',r10',r12']:List Int).take 3).map I:=by rfl
   have hs40:SH w w35 [rb] [oI b2' (Z11 r1') 5 3,(Z3 rb Ab bs cb q1),.own (Z2 b13') 3 4 3 1 ((([(Z11 r1').getD r4'.toNat 0,r8',r10',r12']:List Int).take 3).map I)]:=e2 ▸ SH.trunc hs36 0 (3) r0 (by(simp; done))
   refine qt r0 (cuh 3 sl22 r0 r0 (Nat.le_trans (by(simp; done)) (own_cap hs36 0 r0).1)) (tA (sb b13' 3 4) r0 ?_)
   have e3:3=(([(Z11 r1').getD r4'.toNat 0,r8',r10',r12']:List Int).take 3).length:=by rfl
   have hs41:SH w w35 [rb] [oI b2' (Z11 r1') 5 3,(Z3 rb Ab bs cb q1),oI b13' (([(Z11 r1').getD r4'.toNat 0,r8',r10',r12']:List Int).take 3) 4 3]:=(hs40.cast (lc r0 (lc r0 (lc (own_eq (g:=I) r0 e3 r0 r0) r0))))
   refine re 2 (v:=sb b13' ((([(Z11 r1').getD r4'.toNat 0,r8',r10',r12']:List Int).take 3).length) 4) (show (sb b13' 3 4:Value)=sb b13' ((([(Z11 r1').getD r4'.toNat 0,r8',r10',r12']:List Int).take 3).length) 4 from slv r0 e3 r0) (nn ?_)
   refine rt (bR (tR ?_))
   refine fT (sb b13' ((([(Z11 r1').getD r4'.toNat 0,r8',r10',r12']:List Int).take 3).length) 4) r0 ?_
   exact⟨(Z2 b13'),4,([(Z11 r1').getD r4'.toNat 0,r8',r10',r12']:List Int).take 3,q1,rfl,(by omega),(by omega),(hs41.pk [1,2] r0)⟩
  ·refine sk (bN (nN (sr (tm (sb b13' (([(Z11 r1').getD r4'.toNat 0,r8',r10',r12']:List Int).length) 4) r0 (tA (sb b13' (([(Z11 r1').getD r4'.toNat 0,r8',r10',r12']:List Int).length) 4) r0 (nl ?_))))))
   refine nN (rt (fT (sb b13' (([(Z11 r1').getD r4'.toNat 0,r8',r10',r12']:List Int).length) 4) r0 ?_))
   exact⟨(Z2 b13'),4,([(Z11 r1').getD r4'.toNat 0,r8',r10',r12']:List Int),q1,rfl,(by simp),(by omega),(hs36.pk [2,0] r0)⟩
set_option maxHeartbeats 8000000 in
theorem l91Port {rb:Nat} {Ab:Option Addr} {cb:Nat} {bs:List UInt8} {p:Nat} (w:World) (hr:w.heap[rb]?=some (.cells [.slice Ab bs.length cb,.int .i64 (p:Int)].toArray 124 (0,0))) (hb:Sl w [rb] 1 Ab bs.length cb (bs.map U)) (hbn:bs.length≤2000) (hp:p≤549755813888):Does Tryz.prog 160 [pB rb] w (fun v w'=>∃ r:Int,∃ q:Nat,v=.int .i64 r∧(q≤p+10)∧SH w w' [rb] [.blk rb 124 [.slice Ab bs.length cb,I (q:Int)]]):=by
 refine fE (N:=18) Tryz.func160 r0 (by kernel_rfl) r0 ?_
 have hs0:=SH.entry1 hr
 refine sr (tA (I 0) r0 (nn (sq (sr ?_))))
 refine tm (pB rb) r0 (cL r0 (pick (rb:=rb) (Ab:=Ab) (cb:=cb) (bs:=bs) (p:=p) (n:=40) (w:=_) (hr:=(blk_heap hs0 0 r0)) (hb:=(hb.up hs0 (fun _ h=>h) (fun _ h=>.inl h))) (hbn:=(by assumption)) (hp:=(by omega))) ?_)
 rintro _ w1 ⟨r1,q1,rfl,p1,p2,hs1⟩
 replace hs1:=hs0.callM 0 r0 hs1 m_1
 refine qt r0 (eqi (k:=.i64) (a:=r1) (b:=0) r0 r0) (nn ?_)
 refine cdd (p:=r1=0) r0 (fun h1=>?_) (fun h1=>?_)
 ·refine sr (bsk hs1 sl22 [I (-1),I 65536] [I (-1),I 65536] trivial r0 (fun b1 w2 hs2=>?_))
  refine tm (pB rb) r0 (cL r0 (pick (rb:=rb) (Ab:=Ab) (cb:=cb) (bs:=bs) (p:=q1) (n:=2) (w:=_) (hr:=(blk_heap hs2 0 r0)) (hb:=(hb.up hs2 (fun _ h=>h) (fun _ h=>.inl h))) (hbn:=(by assumption)) (hp:=(by omega))) ?_)
  rintro _ w3 ⟨r2,q2,rfl,p3,p4,hs3⟩
  replace hs3:=hs2.callM 0 r0 hs3 m_1
  refine qt r0 (ixo r2.toNat sl22 r0 (ieq (x:=r2) (by omega)) (by omega)) (qt r0 (ldo1n (g:=I) (ys:=([(-1),65536]:List Int)) (o:=r2.toNat) 0 hs3 0 r0 r0 (by(simp; omega)) one3) (tA (I (([(-1),65536]:List Int).getD r2.toNat 0)) r0 (nn (rt (tR ?_)))))
  refine fT (I (([(-1),65536]:List Int).getD r2.toNat 0)) r0 ?_
  exact⟨([(-1),65536]:List Int).getD r2.toNat 0,q2,rfl,(by omega),(hs3.pk [1] r0)⟩
 ·refine sk (nN (sr (tm (pB rb) r0 (cL r0 (pick (rb:=rb) (Ab:=Ab) (cb:=cb) (bs:=bs) (p:=q1) (n:=65536) (w:=_) (hr:=(blk_heap hs1 0 r0)) (hb:=(hb.up hs1 (fun _ h=>h) (fun _ h=>.inl h))) (hbn:=(by assumption)) (hp:=(by omega))) ?_))))
  rintro _ w4 ⟨r3,q3,rfl,p5,p6,hs4⟩
  replace hs4:=hs1.callM 0 r0 hs4 m_1
  refine bsk hs4 sl22 [I 0,I 80,I 443,I 65535,I r3] [I 0,I 80,I 443,I 65535,I r3] trivial r0 (fun b2 w5 hs5=>?_)
  refine tm (pB rb) r0 (cL r0 (pick (rb:=rb) (Ab:=Ab) (cb:=cb) (bs:=bs) (p:=q3) (n:=5) (w:=_) (hr:=(blk_heap hs5 0 r0)) (hb:=(hb.up hs5 (fun _ h=>h) (fun _ h=>.inl h))) (hbn:=(by assumption)) (hp:=(by omega))) ?_)
  rintro _ w6 ⟨r4,q4,rfl,p7,p8,hs6⟩
  replace hs6:=hs5.callM 0 r0 hs6 m_1
  refine qt r0 (ixo r4.toNat sl22 r0 (ieq (x:=r4) (by omega)) (by omega)) (qt r0 (ldo1n (g:=I) (ys:=([0,80,443,65535,r3]:List Int)) (o:=r4.toNat) 0 hs6 0 r0 r0 (by(simp; omega)) one3) (tA (I (([0,80,443,65535,r3]:List Int).getD r4.toNat 0)) r0 (nn (rt (fT (I (([0,80,443,65535,r3]:List Int).getD r4.toNat 0)) r0 ?_)))))
  exact⟨([0,80,443,65535,r3]:List Int).getD r4.toNat 0,q4,rfl,(by omega),(hs6.pk [1] r0)⟩
theorem l91Name {rb:Nat} {Ab:Option Addr} {cb:Nat} {bs:List UInt8} {p:Nat} (w:World) (hr:w.heap[rb]?=some (.cells [.slice Ab bs.length cb,.int .i64 (p:Int)].toArray 124 (0,0))) (hb:Sl w [rb] 1 Ab bs.length cb (bs.map U)) (hbn:bs.length≤2000) (hp:p≤274877906944):Does Tryz.prog 161 [pB rb] w (fun v w'=>∃ s:List UInt8,∃ q:Nat,v=Str s∧(s.length≤21)∧(q≤p+10)∧SH w w' [rb] [.blk rb 124 [.slice Ab bs.length cb,I (q:Int)]]):=by
 refine fE (N:=12) Tryz.func161 r0 (by kernel_rfl) r0 ?_
 have hs0:=SH.entry1 hr
 refine sr (tA (Str []) r0 (nn (sq (sr ?_))))
 refine tm (pB rb) r0 (cL r0 (pick (rb:=rb) (Ab:=Ab) (cb:=cb) (bs:=bs) (p:=p) (n:=20) (w:=_) (hr:=(blk_heap hs0 0 r0)) (hb:=(hb.up hs0 (fun _ h=>h) (fun _ h=>.inl h))) (hbn:=(by assumption)) (hp:=(by omega))) ?_)
 rintro _ w1 ⟨r1,q1,rfl,p1,p2,hs1⟩
 replace hs1:=hs0.callM 0 r0 hs1 m_1
 refine qt r0 (eqi (k:=.i64) (a:=r1) (b:=0) r0 r0) (nn ?_)
 refine cdd (p:=r1=0) r0 (fun h1=>?_) (fun h1=>?_)
 ·refine sr (tm (pB rb) r0 (bsk hs1 sl147 [Str [],Str [97,46,46,98],Str [46,97],Str [97,46],Str [65],Str [97,95,98],Str [97,98,99,100,101,102,103,104,105,106,107,108,109,110,111,112,113,114,115,116],Str [97,98,99,100,101,102,103,104,105,106,107,108,109,110,111,112,113,114,115,116,117],Str [97,46,57]] [Str [],Str [97,46,46,98],Str [46,97],Str [97,46],Str [65],Str [97,95,98],Str [97,98,99,100,101,102,103,104,105,106,107,108,109,110,111,112,113,114,115,116],Str [97,98,99,100,101,102,103,104,105,106,107,108,109,110,111,112,113,114,115,116,117],Str [97,46,57]] trivial r0 (fun b1 w2 hs2=>?_)))
  refine cL r0 (rdOf (rb:=rb) (Ab:=Ab) (cb:=cb) (bs:=bs) (p:=q1) (Ass:=(Z2 b1)) (css:=9) (ss:=([[],[97,46,46,98],[46,97],[97,46],[65],[97,95,98],[97,98,99,100,101,102,103,104,105,106,107,108,109,110,111,112,113,114,115,116],[97,98,99,100,101,102,103,104,105,106,107,108,109,110,111,112,113,114,115,116,117],[97,46,57]]:List (List UInt8))) (w:=_) (hr:=(blk_heap hs2 0 r0)) (hb:=(hb.up hs2 (fun _ h=>h) (fun _ h=>.inl h))) (hbn:=(by assumption)) (hp:=(by omega)) (hss:=(hs2.sl 1 r0 (by intro k hk; simp at hk; subst hk; exact⟨_,memi 0 r0,rfl⟩))) (hne:=(by(simp; done)))) ?_
  rintro _ w3 ⟨s1,q2,rfl,p3,p4,hs3⟩
  replace hs3:=hs2.callM 0 r0 hs3 m_1
  refine tA (Str s1) r0 (nn (rt (tR ?_)))
  refine fT (Str s1) r0 ?_
  exact⟨s1,q2,rfl,(by exact names9 (by assumption)),(by omega),(hs3.pk [1] r0)⟩
 ·refine sk (nN (sr (tm (pB rb) r0 (bsk hs1 sl147 [Str [120,46,111,114,103],Str [119,119,119,46,120,46,111,114,103],Str [97],Str [98,45,99,46,110,101,116],Str [57,97,46,98],Str [121]] [Str [120,46,111,114,103],Str [119,119,119,46,120,46,111,114,103],Str [97],Str [98,45,99,46,110,101,116],Str [57,97,46,98],Str [121]] trivial r0 (fun b2 w4 hs4=>?_)))))
  refine cL r0 (rdOf (rb:=rb) (Ab:=Ab) (cb:=cb) (bs:=bs) (p:=q1) (Ass:=(Z2 b2)) (css:=6) (ss:=([[120,46,111,114,103],[119,119,119,46,120,46,111,114,103],[97],[98,45,99,46,110,101,116],[57,97,46,98],[121]]:List (List UInt8))) (w:=_) (hr:=(blk_heap hs4 0 r0)) (hb:=(hb.up hs4 (fun _ h=>h) (fun _ h=>.inl h))) (hbn:=(by assumption)) (hp:=(by omega)) (hss:=(hs4.sl 1 r0 (by intro k hk; simp at hk; subst hk; exact⟨_,memi 0 r0,rfl⟩))) (hne:=(by(simp; done)))) ?_
  rintro _ w5 ⟨s2,q3,rfl,p5,p6,hs5⟩
  replace hs5:=hs4.callM 0 r0 hs5 m_1
  refine tA (Str s2) r0 (nn (rt (fT (Str s2) r0 ?_)))
  exact⟨s2,q3,rfl,(by exact names6 (by assumption)),(by omega),(hs5.pk [1] r0)⟩
set_option maxHeartbeats 8000000 in
theorem l91Address {rb:Nat} {Ab:Option Addr} {cb:Nat} {bs:List UInt8} {p:Nat} (w:World) (hr:w.heap[rb]?=some (.cells [.slice Ab bs.length cb,.int .i64 (p:Int)].toArray 124 (0,0))) (hb:Sl w [rb] 1 Ab bs.length cb (bs.map U)) (hbn:bs.length≤2000) (hp:p≤137438953472):Does Tryz.prog 126 [pB rb] w (fun v w'=>∃ Aqr:Option Addr,∃ cqr:Nat,∃ ak:Int,∃ aq:List Int,∃ an:List UInt8,∃ apt:Int,∃ q:Nat,v=.agg #[.int .i64 ak,.slice Aqr aq.length cqr,Str an,.int .i64 apt]∧(aq.length≤4)∧(an.length≤21)∧(q≤p+40)∧SH w w' [rb] [.blk rb 124 [.slice Ab bs.length cb,I (q:Int)],.own Aqr aq.length cqr 3 1 (aq.map I)]):=by
 refine fE (N:=25) Tryz.func126 r0 (by kernel_rfl) r0 ?_
 have hs0:SH w w [rb] [(Z3 rb Ab bs cb p)]:=SH.entry1 hr
 refine sr (al (v:=.agg #[I 0,ns,Str [],I 0]) (cs:=[I 0,ns,Str [],I 0]) hs0 tz43 r0 trivial r0 (fun b1 w1 hs1=>?_))
 refine nn (sq (sr (tm (pB rb) r0 (cL r0 (pick (rb:=rb) (Ab:=Ab) (cb:=cb) (bs:=bs) (p:=p) (n:=2) (w:=_) (hr:=(blk_heap hs1 0 r0)) (hb:=(hb.up hs1 (fun _ h=>h) (fun _ h=>.inl h))) (hbn:=(by assumption)) (hp:=(by omega))) ?_))))
 rintro _ w2 ⟨r1,q1,rfl,p1,p2,hs2⟩
 replace hs2:=hs1.callM 0 r0 hs2 m_1
 refine qt r0 (eqi (k:=.i64) (a:=r1) (b:=0) r0 r0) (nn ?_)
 refine cdd (p:=r1=0) r0 (fun h1=>?_) (fun h1=>?_)
 ·refine sr (tm (pB rb) r0 (cL r0 (l91Quad (rb:=rb) (Ab:=Ab) (cb:=cb) (bs:=bs) (p:=q1) (w:=_) (hr:=(blk_heap hs2 1 r0)) (hb:=(hb.up hs2 (fun _ h=>h) (fun _ h=>.inl h))) (hbn:=(by assumption)) (hp:=(by omega))) ?_))
  rintro _ w3 ⟨A1,c1,r2,q2,rfl,p3,p4,hs3⟩
  replace hs3:=hs2.callM 1 r0 hs3 m_1
  refine tm (pB rb) r0 (cL r0 (l91Port (rb:=rb) (Ab:=Ab) (cb:=cb) (bs:=bs) (p:=q2) (w:=_) (hr:=(blk_heap hs3 1 r0)) (hb:=(hb.up hs3 (fun _ h=>h) (fun _ h=>.inl h))) (hbn:=(by assumption)) (hp:=(by omega))) ?_)
  rintro _ w4 ⟨r3,q3,rfl,p5,hs4⟩
  replace hs4:=hs3.callM 1 r0 hs4 m_1
  refine qt r0 (bdv (v:=.agg #[I 1,.slice A1 r2.length c1,Str [],I r3]) [(0,I 1),(1,.slice A1 r2.length c1),(3,I r3)] r0 (fun _=>by kernel_rfl)) (sG [I 1,.slice A1 r2.length c1,Str [],I r3] hs4 0 r0 ag43 (fun w5 hs5=>?_))
  refine nn (rt (tR ?_))
  refine fret (v:=.agg #[I 1,.slice A1 r2.length c1,Str [],I r3]) (resC hs5 2 r0 r0 ag43 r0 .nil) r0 ?_
  exact⟨A1,c1,1,r2,[],r3,q3,rfl,(by omega),(by simp),(by omega),(hs5.pk [1,0] r0)⟩
 ·refine sk (nN (sr (bsk hs2 sl22 [] [] trivial r0 (fun b2 w6 (hs6:SH w w6 [rb] [(Z6 b1),(Z3 rb Ab bs cb q1),oI b2 ([]:List Int) 0 3])=>?_))))
  refine tm (pB rb) r0 (cL r0 (l91Name (rb:=rb) (Ab:=Ab) (cb:=cb) (bs:=bs) (p:=q1) (w:=_) (hr:=(blk_heap hs6 1 r0)) (hb:=(hb.up hs6 (fun _ h=>h) (fun _ h=>.inl h))) (hbn:=(by assumption)) (hp:=(by omega))) ?_)
  rintro _ w7 ⟨s1,q4,rfl,p6,p7,hs7⟩
  replace hs7:=hs6.callM 1 r0 hs7 m_1
  refine tm (pB rb) r0 (cL r0 (l91Port (rb:=rb) (Ab:=Ab) (cb:=cb) (bs:=bs) (p:=q4) (w:=_) (hr:=(blk_heap hs7 2 r0)) (hb:=(hb.up hs7 (fun _ h=>h) (fun _ h=>.inl h))) (hbn:=(by assumption)) (hp:=(by omega))) ?_)
  rintro _ w8 ⟨r4,q5,rfl,p8,hs8⟩
  replace hs8:=hs7.callM 2 r0 hs8 m_1
  refine qt r0 (bdv (v:=.agg #[I 3,sb b2 (([]:List Int).length) 0,Str s1,I r4]) [(0,I 3),(1,sb b2 (([]:List Int).length) 0),(2,Str s1),(3,I r4)] r0 (fun _=>by kernel_rfl)) (al (v:=.agg #[I 0,ns,Str [],I 0]) (cs:=[I 0,ns,Str [],I 0]) hs8 tz43 r0 trivial r0 (fun b3 w9 (hs9:SH w w9 [rb] [(Z6 b1),oI b2 ([]:List Int) 0 3,(Z3 rb Ab bs cb q5),(Z6 b3)])=>?_))
  refine sG [I 3,sb b2 (([]:List Int).length) 0,Str s1,I r4] hs9 3 r0 ag43 (fun w10 hs10=>?_)
  refine nn (sq (sr (tm (pB rb) r0 (cL r0 (pick (rb:=rb) (Ab:=Ab) (cb:=cb) (bs:=bs) (p:=q5) (n:=40) (w:=_) (hr:=(blk_heap hs10 2 r0)) (hb:=(hb.up hs10 (fun _ h=>h) (fun _ h=>.inl h))) (hbn:=(by assumption)) (hp:=(by omega))) ?_))))
  rintro _ w11 ⟨r5,q6,rfl,p9,p10,hs11⟩
  replace hs11:=hs10.callM 2 r0 hs11 m_1
  refine qt r0 (eqi (k:=.i64) (a:=r5) (b:=0) r0 r0) (nn ?_)
  refine cdd (p:=r5=0) r0 (fun h2=>?_) (fun h2=>?_)
  ·refine rg (tm (pB rb) r0 (cL r0 (pick (rb:=rb) (Ab:=Ab) (cb:=cb) (bs:=bs) (p:=q6) (n:=5) (w:=_) (hr:=(blk_heap hs11 3 r0)) (hb:=(hb.up hs11 (fun _ h=>h) (fun _ h=>.inl h))) (hbn:=(by assumption)) (hp:=(by omega))) ?_))
   rintro _ w12 ⟨r6,q7,rfl,p11,p12,hs12⟩
   replace hs12:=hs11.callM 3 r0 hs12 m_1
   refine qt r0 (fa 0 fo43_0 r0) (sT (I r6) hs12 2 r0 one3 (fun w13 hs13=>?_))
   refine nx (qt r0 (lG [I r6,sb b2 (([]:List Int).length) 0,Str s1,I r4] hs13 3 r0 ag43) (sG [I r6,sb b2 (([]:List Int).length) 0,Str s1,I r4] hs13 0 r0 ag43 (fun w14 hs14=>?_)))
   refine nn (rt (fret (v:=.agg #[I r6,sb b2 (([]:List Int).length) 0,Str s1,I r4]) (resC hs14 3 r0 r0 ag43 r0 .nil) r0 ?_))
   exact⟨(Z2 b2),0,r6,([]:List Int),s1,r4,q7,rfl,(by simp),(by omega),(by omega),(hs14.pk [1,0] r0)⟩
  ·refine sk (nN (sr (qt r0 (lG [I 3,sb b2 (([]:List Int).length) 0,Str s1,I r4] hs11 2 r0 ag43) (sG [I 3,sb b2 (([]:List Int).length) 0,Str s1,I r4] hs11 0 r0 ag43 (fun w15 (hs15:SH w w15 [rb] [oI b2 ([]:List Int) 0 3,.blk b3 43 [I 3,sb b2 (([]:List Int).length) 0,Str s1,I r4],(Z3 rb Ab bs cb q6),.blk b1 43 [I 3,sb b2 (([]:List Int).length) 0,Str s1,I r4]])=>?_)))))
   refine nn (rt (fret (v:=.agg #[I 3,sb b2 (([]:List Int).length) 0,Str s1,I r4]) (resC hs15 3 r0 r0 ag43 r0 .nil) r0 ?_))
   exact⟨(Z2 b2),0,3,([]:List Int),s1,r4,q6,rfl,(by simp),(by omega),(by omega),(hs15.pk [2,0] r0)⟩
theorem iTextBytes (s:List UInt8) (w:World) (hs_n:s.length≤2147483648):Does Tryz.prog 131 [Str s] w (fun v w'=>∃ Ar:Option Addr,∃ cr:Nat,v=.slice Ar (textI s).length cr∧SH w w' [] [.own Ar ((textI s).length) cr 3 1 ((textI s).map I)]):=by
 refine fE (N:=22) Tryz.func131 r0 (by kernel_rfl) r0 ?_
 have hs0:=SH.refl w []
 refine sr (tA ns r0 (nx (tm (Str s) r0 ?_)))
 refine qt r0 (lnS (l:=s) st9 r0) (mkm (g:=I) (z:=0) (n:=s.length) hs0 sl22 r0 r0 r0 (by omega) (by unfold maxLen; omega) trivial r0 (fun b1 w1 hs1=>?_))
 refine tA (sb b1 ((List.replicate s.length (0:Int)).length) s.length) r0 (nn (sq (sr (tm (sb b1 ((List.replicate s.length (0:Int)).length) s.length) r0 (qt r0 (lnA (n:=(List.replicate s.length (0:Int)).length) sl22 r0) ?_)))))
 refine tm (I 0) r0 (nn (bl ?_))
 have e1:List.replicate s.length (0:Int)=(textI s).take 0++List.replicate (s.length-0) (0:Int):=by simp
 have e2:(List.replicate s.length (0:Int)).length=s.length:=by(simp; done)
 refine lp (σ:=(Option Addr)×Nat×Nat) (fun⟨Ag3,cg3,k⟩ f w'=>Hz f [(0,Str s),(3,.slice Ag3 s.length cg3),(9,I (((List.replicate s.length (0:Int)).length:Nat):Int)),(10,I (k:Int))]∧(k≤s.length)∧SH w w' [] [.own Ag3 s.length cg3 3 1 (((textI s).take k++List.replicate (s.length-k) (0:Int)).map I)]) (fun⟨Ag3,cg3,k⟩=>s.length-k) ((Z2 b1),s.length,0) ⟨(zH ⟨rfl,(show (.slice (Z2 b1) ((List.replicate s.length (0:Int)).length) s.length:Value)=.slice (Z2 b1) s.length s.length from slv r0 e2 r0),rfl,rfl,trivial⟩),(by simp),(hs1.cast (lc (own_eq (g:=I) r0 e2 r0 e1) r0))⟩ ?_
 rintro ⟨Ag3,cg3,k⟩ f w2 ⟨⟨g1,rfl⟩,hk,hs2⟩
 refine sr (qt r0 (lss (k:=.i64) (a:=(k:Int)) (b:=(((List.replicate s.length (0:Int)).length:Nat):Int)) r0 r0) (nn (sq ?_)))
 refine cdd (p:=(k:Int)<(((List.replicate s.length (0:Int)).length:Nat):Int)) r0 (fun h1=>?_) (fun h1=>?_)
 ·refine sk (nN (sq (bl (sr (tm (I (k:Int)) r0 (tA (I (k:Int)) r0 ?_))))))
  refine nn (rg (tm (.slice Ag3 s.length cg3) r0 (tm (I (k:Int)) r0 (tm (Str s) r0 (tm (I (k:Int)) r0 (qt r0 (ixs (l:=s) k st9 r0 r0 (by omega)) ?_))))))
  refine qt r0 (cvI (a:=(((s.getD k 0).toNat:Nat):Int)) (s:=.u8) ti5 ti3 r0 (by have:=u8_bd ((s.getD k 0)); exact⟨by omega,by omega⟩)) ?_
  obtain ⟨b2,rfl⟩:=own_form hs2 0 r0 (by omega)
  refine qt r0 (ixo k sl22 r0 r0 (by omega)) (stomn (g:=I) (ys:=(textI s).take k++List.replicate (s.length-k) (0:Int)) (o:=k) (u:=(((s.getD k 0).toNat:Nat):Int)) hs2 0 r0 r0 r0 r0 (by omega) r0 one3 trivial (fun w3 hs3=>?_))
  refine nl (bN (nN (rg (qt r0 (add (a:=(k:Int)) (b:=1) r0 r0 (by exact⟨by omega,by omega⟩)) (tm (I ((k:Int)+1)) r0 (nn ?_))))))
  have e3:((textI s).take k++List.replicate (s.length-k) (0:Int)).set k (((s.getD k 0).toNat:Nat):Int)=(textI s).take (k+1)++List.replicate (s.length-(k+1)) (0:Int):=by exact textI_set (by omega)
  refine⟨((Z2 b2),cg3,k+1),⟨(zR r0),(by omega),(hs3.cast (lc (own_eq (g:=I) r0 r0 r0 e3) r0))⟩,?_⟩
  show s.length-(k+1)<s.length-k
  omega
 ·refine ex (tE (tE (bE ?_)))
  refine nN (sr (tm (.slice Ag3 s.length cg3) r0 (tA (.slice Ag3 s.length cg3) r0 (nn (rt ?_)))))
  refine fT (.slice Ag3 s.length cg3) r0 ?_
  have e4:(textI s).take k++List.replicate (s.length-k) (0:Int)=textI s:=by have:k=s.length:=(by omega); subst this; rw[textI_all (Nat.le_refl _)]; simp
  have e5:s.length=(textI s).length:=by exact(show s.length=((textI s).take k++List.replicate (s.length-k) (0:Int)).length by(simp[textI_len]; omega)).trans (congrArg List.length e4)
  exact⟨Ag3,cg3,(slv r0 e5 r0),(hs2.cast (lc (own_eq (g:=I) r0 e5 r0 e4) r0))⟩
theorem sL1Text (s:List UInt8) (w:World) (hs_n:s.length≤2147483648):Does Tryz.prog 151 [Str s] w (fun v w'=>∃ Ar:Option Addr,∃ cr:Nat,v=.slice Ar (textI s).length cr∧SH w w' [] [.own Ar ((textI s).length) cr 3 1 ((textI s).map I)]):=by
 refine fE (N:=20) Tryz.func151 r0 (by kernel_rfl) r0 ?_
 have hs0:=SH.refl w []
 refine sr (tA ns r0 (nx (bsk hs0 sl22 [] [] trivial r0 (fun b1 w1 hs1=>?_))))
 refine tA (sb b1 (([]:List Int).length) 0) r0 (nn (sq (sr (tA (I 0) r0 (nl ?_)))))
 refine nN (bl ?_)
 have e1:([]:List Int)=(textI s).take 0:=by simp
 have e2:([]:List Int).length=((textI s).take 0).length:=by rw[e1]
 refine lp (σ:=(Option Addr)×Nat×Nat) (fun⟨Ag3,cg3,k⟩ f w'=>Hz f [(0,Str s),(3,.slice Ag3 (((textI s).take k).length) cg3),(4,I (k:Int))]∧(k≤s.length)∧SH w w' [] [.own Ag3 (((textI s).take k).length) cg3 3 1 (((textI s).take k).map I)]) (fun⟨Ag3,cg3,k⟩=>s.length-k) ((Z2 b1),0,0) ⟨(zH ⟨rfl,(show (.slice (Z2 b1) (([]:List Int).length) 0:Value)=.slice (Z2 b1) (((textI s).take 0).length) 0 from slv r0 e2 r0),rfl,trivial⟩),(by simp),(hs1.cast (lc (own_eq (g:=I) r0 e2 r0 e1) r0))⟩ ?_
 rintro ⟨Ag3,cg3,k⟩ f w2 ⟨⟨g1,rfl⟩,hk,hs2⟩
 refine sq (sr (tm (I (k:Int)) r0 (tm (Str s) r0 (qt r0 (lnS (l:=s) st9 r0) (qt r0 (lss (k:=.i64) (a:=(k:Int)) (b:=(s.length:Int)) r0 r0) (nl ?_))))))
 refine nN ?_
 refine cdd (p:=(k:Int)<(s.length:Int)) r0 (fun h1=>?_) (fun h1=>?_)
 ·refine sk (nN (sq (bl (rg (tm (.slice Ag3 (((textI s).take k).length) cg3) r0 (tm (Str s) r0 (tm (I (k:Int)) r0 ?_)))))))
  refine qt r0 (ixs (l:=s) k st9 r0 r0 (by(omega))) (qt r0 (cvI (a:=(((s.getD k 0).toNat:Nat):Int)) (s:=.u8) ti5 ti3 r0 (by have:=u8_bd ((s.getD k 0)); exact⟨by omega,by omega⟩)) (bsk hs2 sl22 [I (((s.getD k 0).toNat:Nat):Int)] [I (((s.getD k 0).toNat:Nat):Int)] trivial r0 (fun b2 w3 hs3=>?_)))
  refine apm (g:=I) (ys:=(textI s).take k) (zs:=([(((s.getD k 0).toNat:Nat):Int)]:List Int)) hs3 0 r0 sl22 r0 r0 r0 (hs3.sl0 1 r0) (fun _=>rfl) (by unfold maxLen; have htl:=textI_len s; simp only[List.length_take,List.length_cons,List.length_nil]; omega) (by have htl:=textI_len s; simp only[List.length_take,List.length_cons,List.length_nil]; omega) trivial r0 (fun A1 c1 w4 hs4=>?_)
  refine tA (.slice A1 ((((textI s).take k)++([(((s.getD k 0).toNat:Nat):Int)]:List Int)).length) c1) r0 (nl (bN (nN (rg (tm (I (k:Int)) r0 (qt r0 (add (a:=(k:Int)) (b:=1) r0 r0 (by(exact⟨by omega,by omega⟩))) (tA (I ((k:Int)+1)) r0 ?_)))))))
  refine nn ?_
  have e3:((textI s).take k)++([(((s.getD k 0).toNat:Nat):Int)]:List Int)=(textI s).take (k+1):=by exact textI_app (by omega)
  have e4:(((textI s).take k)++([(((s.getD k 0).toNat:Nat):Int)]:List Int)).length=((textI s).take (k+1)).length:=by rw[e3]
  refine⟨(A1,c1,k+1),⟨(zH ⟨rfl,(show (.slice A1 ((((textI s).take k)++([(((s.getD k 0).toNat:Nat):Int)]:List Int)).length) c1:Value)=.slice A1 (((textI s).take (k+1)).length) c1 from slv r0 e4 r0),rfl,trivial⟩),(by omega),((hs4.pq [1] r0).cast (lc (own_eq (g:=I) r0 e4 r0 e3) r0))⟩,?_⟩
  show s.length-(k+1)<s.length-k
  omega
 ·refine ex (tE (tE (bE ?_)))
  refine nN (sr (tm (.slice Ag3 (((textI s).take k).length) cg3) r0 (tA (.slice Ag3 (((textI s).take k).length) cg3) r0 (nn (rt ?_)))))
  refine fT (.slice Ag3 (((textI s).take k).length) cg3) r0 ?_
  have e5:(textI s).take k=textI s:=by exact textI_all (by omega)
  have e6:=congrArg List.length e5
  exact⟨Ag3,cg3,(slv r0 e6 r0),(hs2.cast (lc (own_eq (g:=I) r0 e6 r0 e5) r0))⟩
theorem iNumberBytes (n:Int) (w:World) (hn:0≤n∧n≤65535):Does Tryz.prog 166 [I n,I 2] w (fun v w'=>∃ Ar:Option Addr,∃ cr:Nat,v=.slice Ar (numB n).length cr∧SH w w' [] [.own Ar ((numB n).length) cr 3 1 ((numB n).map I)]):=by
 refine fE (N:=27) Tryz.func166 r0 (by kernel_rfl) r0 ?_
 have hs0:=SH.refl w []
 refine sr (tA ns r0 (nx (tm (I 2) r0 ?_)))
 refine mkm (g:=I) (z:=0) (n:=2) hs0 sl22 r0 r0 r0 (by omega) (by unfold maxLen; omega) trivial r0 (fun b1 w1 hs1=>?_)
 refine tA (sb b1 ((List.replicate 2 (0:Int)).length) 2) r0 (nn (sq (sr (tm (sb b1 ((List.replicate 2 (0:Int)).length) 2) r0 (qt r0 (lnA (n:=(List.replicate 2 (0:Int)).length) sl22 r0) ?_)))))
 refine tm (I 0) r0 (nn (bl ?_))
 have e1:List.replicate 2 (0:Int)=(numB n).take 0++List.replicate (2-0) (0:Int):=by simp
 have e2:(List.replicate 2 (0:Int)).length=2:=by rfl
 refine lp (σ:=(Option Addr)×Nat×Nat) (fun⟨Ag5,cg5,k⟩ f w'=>Hz f [(0,I n),(1,I 2),(5,.slice Ag5 2 cg5),(10,I (((List.replicate 2 (0:Int)).length:Nat):Int)),(11,I (k:Int))]∧(k≤2)∧SH w w' [] [.own Ag5 2 cg5 3 1 (((numB n).take k++List.replicate (2-k) (0:Int)).map I)]) (fun⟨Ag5,cg5,k⟩=>2-k) ((Z2 b1),2,0) ⟨(zH ⟨rfl,rfl,(show (.slice (Z2 b1) ((List.replicate 2 (0:Int)).length) 2:Value)=.slice (Z2 b1) 2 2 from slv r0 e2 r0),rfl,rfl,trivial⟩),(by simp),(hs1.cast (lc (own_eq (g:=I) r0 e2 r0 e1) r0))⟩ ?_
 rintro ⟨Ag5,cg5,k⟩ f w2 ⟨⟨g1,rfl⟩,hk,hs2⟩
 refine sr (qt r0 (lss (k:=.i64) (a:=(k:Int)) (b:=(((List.replicate 2 (0:Int)).length:Nat):Int)) r0 r0) (nn (sq ?_)))
 refine cdd (p:=(k:Int)<(((List.replicate 2 (0:Int)).length:Nat):Int)) r0 (fun h1=>?_) (fun h1=>?_)
 ·refine sk (nN (sq (bl (sr (tm (I (k:Int)) r0 (tA (I (k:Int)) r0 ?_))))))
  refine nn (rg (tm (.slice Ag5 2 cg5) r0 (tm (I (k:Int)) r0 (tm (I n) r0 (tm (I 2) r0 (qt r0 (sub (a:=2) (b:=1) r0 r0 (by exact⟨by omega,by omega⟩)) ?_))))))
  refine tm (I (k:Int)) r0 (qt r0 (sub (a:=(2:Int)-1) (b:=(k:Int)) r0 r0 (by exact⟨by omega,by omega⟩)) (qt r0 (mul (a:=8) (b:=((2:Int)-1)-(k:Int)) r0 r0 (by exact⟨by omega,by omega⟩)) (qt r0 (shr (a:=n) (b:=8*(((2:Int)-1)-(k:Int))) r0 r0 (by omega) (by omega)) (qt r0 (and255 (a:=n / 2 ^ (8*(((2:Int)-1)-(k:Int))).toNat) r0 r0 (by exact num_and hn) (by exact num_and2 hn)) ?_))))
  obtain ⟨b2,rfl⟩:=own_form hs2 0 r0 (by omega)
  refine qt r0 (ixo k sl22 r0 r0 (by omega)) (stomn (g:=I) (ys:=(numB n).take k++List.replicate (2-k) (0:Int)) (o:=k) (u:=(n / 2 ^ (8*(((2:Int)-1)-(k:Int))).toNat) % 256) hs2 0 r0 r0 r0 r0 (by omega) r0 one3 trivial (fun w3 hs3=>?_))
  refine nl (bN (nN (rg (qt r0 (add (a:=(k:Int)) (b:=1) r0 r0 (by exact⟨by omega,by omega⟩)) (tm (I ((k:Int)+1)) r0 (nn ?_))))))
  have e3:((numB n).take k++List.replicate (2-k) (0:Int)).set k ((n / 2 ^ (8*(((2:Int)-1)-(k:Int))).toNat) % 256)=(numB n).take (k+1)++List.replicate (2-(k+1)) (0:Int):=by exact numB_set (by omega)
  refine⟨((Z2 b2),cg5,k+1),⟨(zR r0),(by omega),(hs3.cast (lc (own_eq (g:=I) r0 r0 r0 e3) r0))⟩,?_⟩
  show 2-(k+1)<2-k
  omega
 ·refine ex (tE (tE (bE ?_)))
  refine nN (sr (tm (.slice Ag5 2 cg5) r0 (tA (.slice Ag5 2 cg5) r0 (nn (rt ?_)))))
  refine fT (.slice Ag5 2 cg5) r0 ?_
  have e4:(numB n).take k++List.replicate (2-k) (0:Int)=numB n:=by have:k=2:=(by omega); subst this; simp[numB]
  have e5:2=(numB n).length:=by exact(show 2=((numB n).take k++List.replicate (2-k) (0:Int)).length by(simp[numB]; omega)).trans (congrArg List.length e4)
  exact⟨Ag5,cg5,(slv r0 e5 r0),(hs2.cast (lc (own_eq (g:=I) r0 e5 r0 e4) r0))⟩
theorem sL1Number (n:Int) (w:World) (hn:0≤n∧n≤65535):Does Tryz.prog 188 [I n,I 2] w (fun v w'=>∃ Ar:Option Addr,∃ cr:Nat,v=.slice Ar (numB n).length cr∧SH w w' [] [.own Ar ((numB n).length) cr 3 1 ((numB n).map I)]):=by
 refine fE (N:=23) Tryz.func188 r0 (by kernel_rfl) r0 ?_
 have hs0:=SH.refl w []
 refine sr (tA ns r0 (nx (tm (I 2) r0 ?_)))
 refine mkm (g:=I) (z:=0) (n:=2) hs0 sl22 r0 r0 r0 (by omega) (by unfold maxLen; omega) trivial r0 (fun b1 w1 hs1=>?_)
 refine tA (sb b1 ((List.replicate 2 (0:Int)).length) 2) r0 (nn (sq (sr (tm (I 2) r0 (qt r0 (sub (a:=2) (b:=1) r0 r0 (by exact⟨by omega,by omega⟩)) ?_)))))
 refine tA (I ((2:Int)-1)) r0 (nn (bl ?_))
 have e1:List.replicate 2 (0:Int)=numR n 0:=by simp[numR]
 have e2:(List.replicate 2 (0:Int)).length=2:=by rfl
 refine lp (σ:=(Option Addr)×Nat×Nat×Int) (fun⟨Ag5,cg5,k,m⟩ f w'=>Hz f [(0,I m),(5,.slice Ag5 2 cg5),(6,I (1-(k:Int)))]∧(k≤2)∧(m=numM n k)∧(0≤m∧m≤65535)∧SH w w' [] [.own Ag5 2 cg5 3 1 ((numR n k).map I)]) (fun⟨Ag5,cg5,k,m⟩=>2-k) ((Z2 b1),2,0,n) ⟨(zH ⟨rfl,(show (.slice (Z2 b1) ((List.replicate 2 (0:Int)).length) 2:Value)=.slice (Z2 b1) 2 2 from slv r0 e2 r0),(show (I ((2:Int)-1):Value)=I (1-((0:Nat):Int)) from congrArg (Value.int .i64) (by simp)),trivial⟩),(by simp),(by simp[numM]),(hn),(hs1.cast (lc (own_eq (g:=I) r0 e2 r0 e1) r0))⟩ ?_
 rintro ⟨Ag5,cg5,k,m⟩ f w2 ⟨⟨g1,rfl⟩,hk,hm,hm2,hs2⟩
 refine sq (sr (tm (I (1-(k:Int))) r0 (qt r0 (geq (k:=.i64) (a:=1-(k:Int)) (b:=0) r0 r0) (nn ?_))))
 refine cdd (p:=(0:Int)≤(1-(k:Int))) r0 (fun h1=>?_) (fun h1=>?_)
 ·refine sk (nN (sq (bl (sr (tm (.slice Ag5 2 cg5) r0 (tm (I (1-(k:Int))) r0 ?_))))))
  refine tm (I m) r0 (qt r0 (rem (a:=m) (b:=256) r0 r0 (by omega) (by omega)) ?_)
  obtain ⟨b2,rfl⟩:=own_form hs2 0 r0 (by omega)
  refine qt r0 (ixo ((1-(k:Int)).toNat) sl22 r0 (ieq (x:=1-(k:Int)) (by omega)) (by omega)) (stomn (g:=I) (ys:=numR n k) (o:=(1-(k:Int)).toNat) (u:=m % 256) hs2 0 r0 r0 r0 r0 (by omega) r0 one3 trivial (fun w3 hs3=>?_))
  refine nn (rg (tm (I m) r0 (qt r0 (quo (a:=m) (b:=256) r0 r0 (by omega) (by omega) (by omega)) (tA (I (m / 256)) r0 (nl (bN ?_))))))
  refine nN (rg (tm (I (1-(k:Int))) r0 (qt r0 (sub (a:=1-(k:Int)) (b:=1) r0 r0 (by exact⟨by omega,by omega⟩)) (tA (I ((1-(k:Int))-1)) r0 (nn ?_)))))
  have e3:(numR n k).set ((1-(k:Int)).toNat) (m % 256)=numR n (k+1):=by rw[hm]; exact numR_step (by omega) (by omega)
  refine⟨((Z2 b2),cg5,k+1,m / 256),⟨(zH ⟨rfl,rfl,(show (I ((1-(k:Int))-1):Value)=I (1-(((k+1):Nat):Int)) from congrArg (Value.int .i64) (by omega)),trivial⟩),(by omega),(by rw[hm]; exact numM_step (by omega)),(by omega),(hs3.cast (lc (own_eq (g:=I) r0 r0 r0 e3) r0))⟩,?_⟩
  show 2-(k+1)<2-k
  omega
 ·refine ex (tE (tE (bE ?_)))
  refine nN (sr (tm (.slice Ag5 2 cg5) r0 (tA (.slice Ag5 2 cg5) r0 (nn (rt ?_)))))
  refine fT (.slice Ag5 2 cg5) r0 ?_
  have e4:numR n k=numB n:=by have:k=2:=(by omega); subst this; rfl
  have e5:2=(numB n).length:=by exact(show 2=(numR n k).length by(have:k=2:=(by omega); subst this; rfl)).trans (congrArg List.length e4)
  exact⟨Ag5,cg5,(slv r0 e5 r0),(hs2.cast (lc (own_eq (g:=I) r0 e5 r0 e4) r0))⟩
set_option maxHeartbeats 8000000 in
theorem iAddressBytes (ak:Int) {Aaq:Option Addr} {caq:Nat} (aq:List Int) (an:List UInt8) (apt:Int) (w:World) (haq:Sl w [] 1 Aaq aq.length caq (aq.map I)) (han_n:an.length≤1099511627776) (hok:addrOk ak aq an apt=true):Does Tryz.prog 132 [.agg #[I ak,.slice Aaq aq.length caq,Str an,I apt]] w (fun v w'=>∃ Ar:Option Addr,∃ cr:Nat,v=.slice Ar (addrB ak aq an apt).length cr∧SH w w' [] [.own Ar ((addrB ak aq an apt).length) cr 3 1 ((addrB ak aq an apt).map I)]):=by
 refine fE (N:=29) Tryz.func132 r0 (by kernel_rfl) r0 ?_
 have hs0:=SH.refl w []
 have haq_m:aq.length≤9223372036854775807:=Nat.le_trans haq.cap haq.capMax
 refine sr (bx (v:=.agg #[I ak,(Z8 Aaq aq caq),Str an,I apt]) (cs:=[I ak,(Z8 Aaq aq caq),Str an,I apt]) hs0 r0 r0 trivial r0 (fun b1 w1 hs1=>?_))
 refine tA ns r0 (nx (qt r0 (fa 0 fo43_0 r0) (qt r0 (lD (I ak) hs1 0 r0 one3) (bsk hs1 sl22 [I ak] [I ak] trivial r0 (fun b2 w2 hs2=>?_)))))
 refine tA (sb b2 (([ak]:List Int).length) 1) r0 (nn (sq (sr (qt r0 (fa 0 fo43_0 r0) (qt r0 (lD (I ak) hs2 0 r0 one3) ?_)))))
 refine qt r0 (eqi (k:=.i64) (a:=ak) (b:=1) r0 r0) (nn ?_)
 refine cdd (p:=ak=1) r0 (fun h1=>?_) (fun h1=>?_)
 ·refine rg (tm (sb b2 (([ak]:List Int).length) 1) r0 (qt r0 (fa 1 fo43_1 r0) (qt r0 (lD (Z4 Aaq aq caq) hs2 0 r0 one22) (apm (g:=I) (ys:=([ak]:List Int)) (zs:=aq) hs2 1 r0 sl22 r0 r0 r0 (haq.up0 hs2) (fun _=>rfl) (by unfold maxLen; have haf:=addrOk_fit hok; have htl:=textI_len an; have hnb:(numB apt).length=2:=rfl; simp only[List.length_append,List.length_cons,List.length_nil]; omega) (by have haf:=addrOk_fit hok; have htl:=textI_len an; have hnb:(numB apt).length=2:=rfl; simp only[List.length_append,List.length_cons,List.length_nil]; omega) trivial r0 (fun A1 c1 w3 hs3=>?_)))))
  refine tA (.slice A1 ((([ak]:List Int)++aq).length) c1) r0 (nx (tm (.slice A1 ((([ak]:List Int)++aq).length) c1) r0 (qt r0 (fa 3 fo43_3 r0) (qt r0 (lD (I apt) hs3 0 r0 one3) ?_))))
  refine cL r0 (iNumberBytes (n:=apt) (w:=_) (hn:=(by(have haf:=addrOk_fit hok; have htl:=textI_len an; have hnb:(numB apt).length=2:=rfl; first | omega | assumption | (simp; done) | (simp; omega))))) ?_
  rintro _ w4 ⟨A2,c2,rfl,hs4⟩
  replace hs4:=hs3.call0 hs4
  refine apm (g:=I) (ys:=([ak]:List Int)++aq) (zs:=numB apt) hs4 1 r0 sl22 r0 r0 r0 (hs4.sl0 2 r0) (fun _=>rfl) (by unfold maxLen; have haf:=addrOk_fit hok; have htl:=textI_len an; have hnb:(numB apt).length=2:=rfl; simp only[List.length_append,List.length_cons,List.length_nil]; omega) (by have haf:=addrOk_fit hok; have htl:=textI_len an; have hnb:(numB apt).length=2:=rfl; simp only[List.length_append,List.length_cons,List.length_nil]; omega) trivial r0 (fun A3 c3 w5 hs5=>?_)
  refine tA (.slice A3 (((([ak]:List Int)++aq)++(numB apt)).length) c3) r0 (nn (rt (fT (.slice A3 (((([ak]:List Int)++aq)++(numB apt)).length) c3) r0 ?_)))
  have e1:(([ak]:List Int)++aq)++(numB apt)=addrB ak aq an apt:=by simp[addrB,h1]
  have e2:=congrArg List.length e1
  exact⟨A3,c3,(slv r0 e2 r0),((hs5.pq [2] r0).cast (lc (own_eq (g:=I) r0 e2 r0 e1) r0))⟩
 ·refine raJ (fun w'=>∃ L,SH w w' [] L∧(.blk b1 43 [I ak,(Z8 Aaq aq caq),Str an,I apt])∈L∧True) (fun f w'=>∃ (b4':Nat) (A8':Option Addr) (c8':Nat) (A9':Option Addr) (c9':Nat),Hz f [(1,pB b1),(3,.slice A9' (((([ak]:List Int)++(Z12 an))++(textI an)).length) c9')]∧SH w w' [] [.blk b1 43 [I ak,(Z8 Aaq aq caq),Str an,I apt],.own A9' (((([ak]:List Int)++(Z12 an))++(textI an)).length) c9' 3 1 (((([ak]:List Int)++(Z12 an))++(textI an)).map I),oI b4' (Z12 an) 1 3,.own A8' ((textI an).length) c8' 3 1 ((textI an).map I)]) mixed ?_ ?_
  ·refine dG 2 11 511 (fun f w'=>∃ (b4':Nat) (A5':Option Addr) (c5':Nat) (A8':Option Addr) (c8':Nat),Hz f [(1,pB b1),(3,sb b2 (([ak]:List Int).length) 1),(19,.slice A5' ((([ak]:List Int)++(Z12 an)).length) c5'),(22,.slice A8' ((textI an).length) c8')]∧SH w w' [] [.blk b1 43 [I ak,(Z8 Aaq aq caq),Str an,I apt],.own A5' ((([ak]:List Int)++(Z12 an)).length) c5' 3 1 ((([ak]:List Int)++(Z12 an)).map I),oI b4' (Z12 an) 1 3,.own A8' ((textI an).length) c8' 3 1 ((textI an).map I)]) ?_ (fun D_4_0=>?_)
   ·rintro f w6 ⟨b4',A5',c5',A8',c8',⟨g1,rfl⟩,hs6⟩
    refine aO 9 r0 (apm (g:=I) (ys:=([ak]:List Int)++(Z12 an)) (zs:=textI an) hs6 1 r0 sl22 r0 r0 r0 (hs6.sl0 3 r0) (fun _=>rfl) (by unfold maxLen; have haf:=addrOk_fit hok; have htl:=textI_len an; have hnb:(numB apt).length=2:=rfl; simp only[List.length_append,List.length_cons,List.length_nil]; omega) (by have haf:=addrOk_fit hok; have htl:=textI_len an; have hnb:(numB apt).length=2:=rfl; simp only[List.length_append,List.length_cons,List.length_nil]; omega) trivial r0 (fun A9' c9' w7 hs7=>?_))
    refine nk (m1 hs7 0 r0) ?_
    refine tk (fuel:=0) (is:=[10]) (.cons r0 (.nil)) (by kernel_rfl) (by kernel_rfl) (m1 hs7 0 r0) (yA r0 (asg (v:=.slice A9' (((([ak]:List Int)++(Z12 an))++(textI an)).length) c9') r0) (.nil (ad (by kernel_rfl) ?_)))
    exact⟨b4',A8',c8',A9',c9',(zR r0),(hs7.pk [0,3,1,2] r0)⟩
   refine dG 3 11 255 (fun f w'=>∃ (b4':Nat) (A5':Option Addr) (c5':Nat),Hz f [(1,pB b1),(3,sb b2 (([ak]:List Int).length) 1),(19,.slice A5' ((([ak]:List Int)++(Z12 an)).length) c5'),(21,Str an)]∧SH w w' [] [.blk b1 43 [I ak,(Z8 Aaq aq caq),Str an,I apt],.own A5' ((([ak]:List Int)++(Z12 an)).length) c5' 3 1 ((([ak]:List Int)++(Z12 an)).map I),oI b4' (Z12 an) 1 3]) ?_ (fun D_4_1=>?_)
   ·rintro f w8 ⟨b4',A5',c5',⟨g2,rfl⟩,hs8⟩
    refine aO 8 r0 (cL r0 (iTextBytes (s:=an) (w:=_) (hs_n:=(by(have haf:=addrOk_fit hok; have htl:=textI_len an; have hnb:(numB apt).length=2:=rfl; omega)))) ?_)
    rintro _ w9 ⟨A8',c8',rfl,hs9⟩
    replace hs9:=hs8.call0 hs9
    exact nk (m1 hs9 0 r0) (alc D_4_0 ⟨b4',A5',c5',A8',c8',(zR r0),hs9⟩)
   refine dG 4 11 223 (fun f w'=>∃ (b4':Nat),Hz f [(1,pB b1),(3,sb b2 (([ak]:List Int).length) 1),(14,sb b2 (([ak]:List Int).length) 1),(18,sb b4' ((Z12 an).length) 1),(21,Str an)]∧SH w w' [] [.blk b1 43 [I ak,(Z8 Aaq aq caq),Str an,I apt],oI b2 ([ak]:List Int) 1 3,oI b4' (Z12 an) 1 3]) ?_ (fun D_4_2=>?_)
   ·rintro f w10 ⟨b4',⟨g3,rfl⟩,hs10⟩
    refine aO 5 r0 (apm (g:=I) (ys:=([ak]:List Int)) (zs:=(Z12 an)) hs10 1 r0 sl22 r0 r0 r0 (hs10.sl0 2 r0) (fun _=>rfl) (by unfold maxLen; have haf:=addrOk_fit hok; have htl:=textI_len an; have hnb:(numB apt).length=2:=rfl; simp only[List.length_append,List.length_cons,List.length_nil]; omega) (by have haf:=addrOk_fit hok; have htl:=textI_len an; have hnb:(numB apt).length=2:=rfl; simp only[List.length_append,List.length_cons,List.length_nil]; omega) trivial r0 (fun A5' c5' w11 hs11=>?_))
    exact nk (m1 hs11 0 r0) (alc D_4_1 ⟨b4',A5',c5',(zR r0),(hs11.pk [0,2,1] r0)⟩)
   refine dG 5 11 207 (fun f w'=>Hz f [(1,pB b1),(3,sb b2 (([ak]:List Int).length) 1),(14,sb b2 (([ak]:List Int).length) 1),(17,I (an.length:Int)),(21,Str an)]∧SH w w' [] [.blk b1 43 [I ak,(Z8 Aaq aq caq),Str an,I apt],oI b2 ([ak]:List Int) 1 3]) ?_ (fun D_4_3=>?_)
   ·rintro f w12 ⟨⟨g4,rfl⟩,hs12⟩
    refine aO 4 r0 (bsk hs12 sl22 [I (an.length:Int)] [I (an.length:Int)] trivial r0 (fun b4' w13 hs13=>?_))
    exact nk (m1 hs13 0 r0) (alc D_4_2 ⟨b4',(zR r0),hs13⟩)
   have hs14:=hs2.drew
   refine tk (fuel:=5) (is:=[0,1,2,3,6,7]) (.cons r0 (.cons r0 (.cons r0 (.cons r0 (.cons r0 (.cons r0 (.nil))))))) (by kernel_rfl) (by kernel_rfl) (m1 hs14 0 r0) (yA r0 (mv (v:=sb b2 (([ak]:List Int).length) 1) r0) (yA r0 (fa 2 fo43_2 r0) (yB r0 (fun ⟨Lq,hsq,mh0,_⟩=>lM (Str an) hsq mh0 r0 one9) (yA r0 (lnS (l:=an) st9 r0) (yA r0 (fa 2 fo43_2 r0) (yB r0 (fun ⟨Lq,hsq,mh0,_⟩=>lM (Str an) hsq mh0 r0 one9) (.nil ?_)))))))
   exact alc D_4_3 ⟨(zR r0),hs14⟩
  rintro f w14 ⟨b4',A8',c8',A9',c9',⟨g5,rfl⟩,hs15⟩
  refine nN ?_
  have hs16:=hs15.pq [0,1] r0
  refine sr (tm (.slice A9' (((([ak]:List Int)++(Z12 an))++(textI an)).length) c9') r0 (qt r0 (fa 3 fo43_3 r0) (qt r0 (lD (I apt) hs16 0 r0 one3) (cL r0 (iNumberBytes (n:=apt) (w:=_) (hn:=(by(have haf:=addrOk_fit hok; have htl:=textI_len an; have hnb:(numB apt).length=2:=rfl; first | omega | assumption | (simp; done) | (simp; omega))))) ?_))))
  rintro _ w15 ⟨A4,c4,rfl,hs17⟩
  replace hs17:=hs16.call0 hs17
  refine apm (g:=I) (ys:=(([ak]:List Int)++(Z12 an))++(textI an)) (zs:=numB apt) hs17 1 r0 sl22 r0 r0 r0 (hs17.sl0 2 r0) (fun _=>rfl) (by unfold maxLen; have haf:=addrOk_fit hok; have htl:=textI_len an; have hnb:(numB apt).length=2:=rfl; simp only[List.length_append,List.length_cons,List.length_nil]; omega) (by have haf:=addrOk_fit hok; have htl:=textI_len an; have hnb:(numB apt).length=2:=rfl; simp only[List.length_append,List.length_cons,List.length_nil]; omega) trivial r0 (fun A5 c5 w16 hs18=>?_)
  refine tA (.slice A5 ((((([ak]:List Int)++(Z12 an))++(textI an))++(numB apt)).length) c5) r0 (nn (rt (fT (.slice A5 ((((([ak]:List Int)++(Z12 an))++(textI an))++(numB apt)).length) c5) r0 ?_)))
  have e3:((([ak]:List Int)++(Z12 an))++(textI an))++(numB apt)=addrB ak aq an apt:=by simp[addrB,h1]
  have e4:=congrArg List.length e3
  exact⟨A5,c5,(slv r0 e4 r0),((hs18.pq [2] r0).cast (lc (own_eq (g:=I) r0 e4 r0 e3) r0))⟩
set_option maxHeartbeats 8000000 in
theorem sL3Bytes (ak:Int) {Aaq:Option Addr} {caq:Nat} (aq:List Int) (an:List UInt8) (apt:Int) (w:World) (haq:Sl w [] 1 Aaq aq.length caq (aq.map I)) (han_n:an.length≤1099511627776) (hok:addrOk ak aq an apt=true):Does Tryz.prog 171 [.agg #[I ak,.slice Aaq aq.length caq,Str an,I apt]] w (fun v w'=>∃ Ar:Option Addr,∃ cr:Nat,v=.slice Ar (addrB ak aq an apt).length cr∧SH w w' [] [.own Ar ((addrB ak aq an apt).length) cr 3 1 ((addrB ak aq an apt).map I)]):=by
 refine fE (N:=30) Tryz.func171 r0 (by kernel_rfl) r0 ?_
 have hs0:=SH.refl w []
 have haq_m:aq.length≤9223372036854775807:=Nat.le_trans haq.cap haq.capMax
 refine sr (bx (v:=.agg #[I ak,(Z8 Aaq aq caq),Str an,I apt]) (cs:=[I ak,(Z8 Aaq aq caq),Str an,I apt]) hs0 r0 r0 trivial r0 (fun b1 w1 hs1=>?_))
 refine tA ns r0 (nx (qt r0 (fa 0 fo43_0 r0) (qt r0 (lD (I ak) hs1 0 r0 one3) (bsk hs1 sl22 [I ak] [I ak] trivial r0 (fun b2 w2 hs2=>?_)))))
 refine tA (sb b2 (([ak]:List Int).length) 1) r0 (nn (sq (sr (qt r0 (fa 0 fo43_0 r0) (qt r0 (lD (I ak) hs2 0 r0 one3) ?_)))))
 refine qt r0 (eqi (k:=.i64) (a:=ak) (b:=1) r0 r0) (nn ?_)
 refine cdd (p:=ak=1) r0 (fun h1=>?_) (fun h1=>?_)
 ·refine rg (tm (sb b2 (([ak]:List Int).length) 1) r0 (qt r0 (fa 1 fo43_1 r0) (qt r0 (lD (Z4 Aaq aq caq) hs2 0 r0 one22) (apm (g:=I) (ys:=([ak]:List Int)) (zs:=aq) hs2 1 r0 sl22 r0 r0 r0 (haq.up0 hs2) (fun _=>rfl) (by unfold maxLen; have haf:=addrOk_fit hok; have htl:=textI_len an; have hnb:(numB apt).length=2:=rfl; simp only[List.length_append,List.length_cons,List.length_nil]; omega) (by have haf:=addrOk_fit hok; have htl:=textI_len an; have hnb:(numB apt).length=2:=rfl; simp only[List.length_append,List.length_cons,List.length_nil]; omega) trivial r0 (fun A1 c1 w3 hs3=>?_)))))
  refine tA (.slice A1 ((([ak]:List Int)++aq).length) c1) r0 (nx (tm (.slice A1 ((([ak]:List Int)++aq).length) c1) r0 (qt r0 (fa 3 fo43_3 r0) (qt r0 (lD (I apt) hs3 0 r0 one3) ?_))))
  refine cL r0 (sL1Number (n:=apt) (w:=_) (hn:=(by(have haf:=addrOk_fit hok; have htl:=textI_len an; have hnb:(numB apt).length=2:=rfl; first | omega | assumption | (simp; done) | (simp; omega))))) ?_
  rintro _ w4 ⟨A2,c2,rfl,hs4⟩
  replace hs4:=hs3.call0 hs4
  refine apm (g:=I) (ys:=([ak]:List Int)++aq) (zs:=numB apt) hs4 1 r0 sl22 r0 r0 r0 (hs4.sl0 2 r0) (fun _=>rfl) (by unfold maxLen; have haf:=addrOk_fit hok; have htl:=textI_len an; have hnb:(numB apt).length=2:=rfl; simp only[List.length_append,List.length_cons,List.length_nil]; omega) (by have haf:=addrOk_fit hok; have htl:=textI_len an; have hnb:(numB apt).length=2:=rfl; simp only[List.length_append,List.length_cons,List.length_nil]; omega) trivial r0 (fun A3 c3 w5 hs5=>?_)
  refine tA (.slice A3 (((([ak]:List Int)++aq)++(numB apt)).length) c3) r0 (nn (rt (fT (.slice A3 (((([ak]:List Int)++aq)++(numB apt)).length) c3) r0 ?_)))
  have e1:(([ak]:List Int)++aq)++(numB apt)=addrB ak aq an apt:=by simp[addrB,h1]
  have e2:=congrArg List.length e1
  exact⟨A3,c3,(slv r0 e2 r0),((hs5.pq [2] r0).cast (lc (own_eq (g:=I) r0 e2 r0 e1) r0))⟩
 ·refine sr (tm (sb b2 (([ak]:List Int).length) 1) r0 (qt r0 (fa 2 fo43_2 r0) (qt r0 (lD (Str an) hs2 0 r0 one9) (qt r0 (lnS (l:=an) st9 r0) (bsk hs2 sl22 [I (an.length:Int)] [I (an.length:Int)] trivial r0 (fun b3 w6 hs6=>?_))))))
  refine apm (g:=I) (ys:=([ak]:List Int)) (zs:=(Z12 an)) hs6 1 r0 sl22 r0 r0 r0 (hs6.sl0 2 r0) (fun _=>rfl) (by unfold maxLen; have haf:=addrOk_fit hok; have htl:=textI_len an; have hnb:(numB apt).length=2:=rfl; simp only[List.length_append,List.length_cons,List.length_nil]; omega) (by have haf:=addrOk_fit hok; have htl:=textI_len an; have hnb:(numB apt).length=2:=rfl; simp only[List.length_append,List.length_cons,List.length_nil]; omega) trivial r0 (fun A4 c4 w7 hs7=>?_)
  refine tA (.slice A4 ((([ak]:List Int)++(Z12 an)).length) c4) r0 (nn (rg (tm (.slice A4 ((([ak]:List Int)++(Z12 an)).length) c4) r0 (qt r0 (fa 2 fo43_2 r0) (qt r0 (lD (Str an) hs7 0 r0 one9) (cL r0 (sL1Text (s:=an) (w:=_) (hs_n:=(by(have haf:=addrOk_fit hok; have htl:=textI_len an; have hnb:(numB apt).length=2:=rfl; omega)))) ?_))))))
  rintro _ w8 ⟨A5,c5,rfl,hs8⟩
  replace hs8:=hs7.call0 hs8
  refine apm (g:=I) (ys:=([ak]:List Int)++(Z12 an)) (zs:=textI an) hs8 2 r0 sl22 r0 r0 r0 (hs8.sl0 3 r0) (fun _=>rfl) (by unfold maxLen; have haf:=addrOk_fit hok; have htl:=textI_len an; have hnb:(numB apt).length=2:=rfl; simp only[List.length_append,List.length_cons,List.length_nil]; omega) (by have haf:=addrOk_fit hok; have htl:=textI_len an; have hnb:(numB apt).length=2:=rfl; simp only[List.length_append,List.length_cons,List.length_nil]; omega) trivial r0 (fun A6 c6 w9 hs9=>?_)
  refine tA (.slice A6 (((([ak]:List Int)++(Z12 an))++(textI an)).length) c6) r0 (nn ?_)
  have hs10:=hs9.pq [0,3] r0
  refine sr (tm (.slice A6 (((([ak]:List Int)++(Z12 an))++(textI an)).length) c6) r0 (qt r0 (fa 3 fo43_3 r0) (qt r0 (lD (I apt) hs10 0 r0 one3) (cL r0 (sL1Number (n:=apt) (w:=_) (hn:=(by(have haf:=addrOk_fit hok; have htl:=textI_len an; have hnb:(numB apt).length=2:=rfl; first | omega | assumption | (simp; done) | (simp; omega))))) ?_))))
  rintro _ w10 ⟨A7,c7,rfl,hs11⟩
  replace hs11:=hs10.call0 hs11
  refine apm (g:=I) (ys:=(([ak]:List Int)++(Z12 an))++(textI an)) (zs:=numB apt) hs11 1 r0 sl22 r0 r0 r0 (hs11.sl0 2 r0) (fun _=>rfl) (by unfold maxLen; have haf:=addrOk_fit hok; have htl:=textI_len an; have hnb:(numB apt).length=2:=rfl; simp only[List.length_append,List.length_cons,List.length_nil]; omega) (by have haf:=addrOk_fit hok; have htl:=textI_len an; have hnb:(numB apt).length=2:=rfl; simp only[List.length_append,List.length_cons,List.length_nil]; omega) trivial r0 (fun A8 c8 w11 hs12=>?_)
  refine tA (.slice A8 ((((([ak]:List Int)++(Z12 an))++(textI an))++(numB apt)).length) c8) r0 (nn (rt (fT (.slice A8 ((((([ak]:List Int)++(Z12 an))++(textI an))++(numB apt)).length) c8) r0 ?_)))
  have e3:((([ak]:List Int)++(Z12 an))++(textI an))++(numB apt)=addrB ak aq an apt:=by simp[addrB,h1]
  have e4:=congrArg List.length e3
  exact⟨A8,c8,(slv r0 e4 r0),((hs12.pq [2] r0).cast (lc (own_eq (g:=I) r0 e4 r0 e3) r0))⟩
set_option maxHeartbeats 8000000 in
theorem sL12Bytes (n:Int) (ak:Int) {Aaq:Option Addr} {caq:Nat} (aq:List Int) (an:List UInt8) (apt:Int) (w:World) (haq:Sl w [] 1 Aaq aq.length caq (aq.map I)) (han_n:an.length≤1099511627776) (hok:addrOk ak aq an apt=true):Does Tryz.prog 146 [I n,.agg #[I ak,.slice Aaq aq.length caq,Str an,I apt]] w (fun v w'=>∃ Ar:Option Addr,∃ cr:Nat,v=.slice Ar ([5,n,0]++addrB ak aq an apt).length cr∧SH w w' [] [.own Ar (([5,n,0]++addrB ak aq an apt).length) cr 3 1 (([5,n,0]++addrB ak aq an apt).map I)]):=by
 refine fE (N:=10) Tryz.func146 r0 (by kernel_rfl) r0 ?_
 have hs0:=SH.refl w []
 have haq_m:aq.length≤9223372036854775807:=Nat.le_trans haq.cap haq.capMax
 refine sr (bx (v:=.agg #[I ak,(Z8 Aaq aq caq),Str an,I apt]) (cs:=[I ak,(Z8 Aaq aq caq),Str an,I apt]) hs0 r0 r0 trivial r0 (fun b1 w1 hs1=>?_))
 refine tA ns r0 (nx (tm (I n) r0 (bsk hs1 sl22 [I 5,I n,I 0] [I 5,I n,I 0] trivial r0 (fun b2 w2 hs2=>?_))))
 refine qt r0 (lG [I ak,(Z8 Aaq aq caq),Str an,I apt] hs2 0 r0 ag43) (cL r0 (sL3Bytes (ak:=ak) (Aaq:=Aaq) (caq:=caq) (aq:=aq) (an:=an) (apt:=apt) (w:=_) (haq:=(haq.up0 hs2)) (han_n:=(by omega)) (hok:=(by omega))) ?_)
 rintro _ w3 ⟨A1,c1,rfl,hs3⟩
 replace hs3:=hs2.call0 hs3
 refine apm (g:=I) (ys:=([5,n,0]:List Int)) (zs:=addrB ak aq an apt) hs3 1 r0 sl22 r0 r0 r0 (hs3.sl0 2 r0) (fun _=>rfl) (by unfold maxLen; have hbl:=addrB_len hok; simp only[List.length_append,List.length_cons,List.length_nil]; omega) (by have hbl:=addrB_len hok; simp only[List.length_append,List.length_cons,List.length_nil]; omega) trivial r0 (fun A2 c2 w4 hs4=>?_)
 refine tA (.slice A2 ((([5,n,0]:List Int)++(addrB ak aq an apt)).length) c2) r0 (nn (rt (fT (.slice A2 ((([5,n,0]:List Int)++(addrB ak aq an apt)).length) c2) r0 ?_)))
 have e1:([5,n,0]:List Int)++(addrB ak aq an apt)=[5,n,0]++addrB ak aq an apt:=by rfl
 have e2:=congrArg List.length e1
 exact⟨A2,c2,(slv r0 e2 r0),((hs4.pq [2] r0).cast (lc (own_eq (g:=I) r0 e2 r0 e1) r0))⟩
theorem iIsRequest (n:Int) (ak:Int) {Aaq:Option Addr} {caq:Nat} (aq:List Int) (an:List UInt8) (apt:Int) (w:World) (haq:Sl w [] 1 Aaq aq.length caq (aq.map I)) (han_n:an.length≤1099511627776):Does Tryz.prog 61 [.agg #[I n,I ak,.slice Aaq aq.length caq,Str an,I apt]] w (fun v w'=>v=.bool (reqOk n ak aq an apt)∧SH w w' [] []):=by
 refine fE (N:=11) Tryz.func61 r0 (by kernel_rfl) r0 ?_
 have hs0:=SH.refl w []
 have haq_m:aq.length≤9223372036854775807:=Nat.le_trans haq.cap haq.capMax
 refine sr (bx (v:=.agg #[I n,I ak,(Z8 Aaq aq caq),Str an,I apt]) (cs:=[I n,I ak,(Z8 Aaq aq caq),Str an,I apt]) hs0 r0 r0 trivial r0 (fun b1 w1 hs1=>?_))
 refine tA (.bool false) r0 (nx (qt r0 (fa 0 fo45_0 r0) (qt r0 (lD (I n) hs1 0 r0 one3) (cL r0 (iWithin (x:=n) (lo:=1) (hi:=3) (w:=_)) ?_))))
 rintro _ w2 ⟨rfl,hs2⟩
 replace hs2:=hs1.call0 hs2
 refine tm (.bool (decide (1≤n∧n≤3))) r0 ?_
 refine spd (p:=1≤n∧n≤3) 6 r0 (fun h1=>?_) (fun h1=>?_)
 ·refine q ⟨_,rfl,rfl⟩ r0 r0 (fa 1 fo45_1 r0) (q ⟨_,rfl,rfl⟩ r0 r0 (lG [I ak,(Z8 Aaq aq caq),Str an,I apt] hs2 0 r0 ag43) (cl ⟨_,rfl,rfl⟩ r0 (iAddressValid (ak:=ak) (Aaq:=Aaq) (caq:=caq) (aq:=aq) (an:=an) (apt:=apt) (w:=_) (haq:=(haq.up0 hs2)) (han_n:=(by omega))) ?_))
  rintro _ w3 ⟨rfl,hs3⟩
  replace hs3:=hs2.call0 hs3
  refine qt r0 (pt (v:=.bool (addrOk ak aq an apt)) r0 r0) (tA (.bool (addrOk ak aq an apt)) r0 (nn (rt (fT (.bool (addrOk ak aq an apt)) r0 ?_))))
  have e1:(addrOk ak aq an apt)=reqOk n ak aq an apt:=by simp[reqOk,h1]
  exact⟨(congrArg (Value.bool) e1),(hs3.pk [] r0)⟩
 ·refine gf5 r0 (gf5 r0 (gf5 r0 (qt r0 (pf (v:=.bool false) r0 r0) (tA (.bool false) r0 (nn (rt ?_))))))
  refine fT (.bool false) r0 ?_
  have e2:false=reqOk n ak aq an apt:=by simp[reqOk,h1]
  exact⟨(congrArg (Value.bool) e2),(hs2.pk [] r0)⟩
set_option maxHeartbeats 8000000 in
theorem sRequestBytes (n:Int) (ak:Int) {Aaq:Option Addr} {caq:Nat} (aq:List Int) (an:List UInt8) (apt:Int) (w:World) (haq:Sl w [] 1 Aaq aq.length caq (aq.map I)) (han_n:an.length≤1099511627776):Does Tryz.prog 114 [.agg #[I n,I ak,.slice Aaq aq.length caq,Str an,I apt]] w (fun v w'=>∃ Ar:Option Addr,∃ cr:Nat,v=.tuple #[.slice Ar ((reqP n ak aq an apt).1).length cr,.bool ((reqP n ak aq an apt).2)]∧SH w w' [] [.own Ar (((reqP n ak aq an apt).1).length) cr 3 1 (((reqP n ak aq an apt).1).map I)]):=by
 refine fE (N:=20) Tryz.func114 r0 (by kernel_rfl) r0 ?_
 have hs0:=SH.refl w []
 have haq_m:aq.length≤9223372036854775807:=Nat.le_trans haq.cap haq.capMax
 refine sr (bx (v:=.agg #[I n,I ak,(Z8 Aaq aq caq),Str an,I apt]) (cs:=[I n,I ak,(Z8 Aaq aq caq),Str an,I apt]) hs0 r0 r0 trivial r0 (fun b1 w1 hs1=>?_))
 refine tA ns r0 (tA (.bool false) r0 (nn (sq (sr (qt r0 (fa 0 fo45_0 r0) ?_)))))
 refine qt r0 (lD (I n) hs1 0 r0 one3) (cL r0 (sIn (x:=n) (lo:=1) (hi:=3) (w:=_)) ?_)
 rintro _ w2 ⟨rfl,hs2⟩
 replace hs2:=hs1.call0 hs2
 refine qt r0 (nd (p:=1≤n∧n≤3) r0) (tm (.bool (decide (¬ (1≤n∧n≤3)))) r0 ?_)
 refine spd (p:=¬ (1≤n∧n≤3)) 8 r0 (fun h1=>?_) (fun h1=>?_)
 ·refine gt5 r0 (gt5 r0 (gt5 r0 (gt5 r0 (qt r0 (pt (v:=.bool true) r0 r0) (nn (cdt r0 ?_))))))
  refine sr (bsk hs2 sl22 [] [] trivial r0 (fun b2 w3 hs3=>?_))
  refine tA (sb b2 (([]:List Int).length) 0) r0 (tA (.bool false) r0 (nn (rt (tR ?_))))
  refine fret (v:=.tuple #[sb b2 (([]:List Int).length) 0,.bool false]) (.tmp (.tmp .nil)) r0 ?_
  have e1:reqP n ak aq an apt=(([]:List Int),false):=by(simp[reqP,reqOk,h1]; done)
  have e2:=pj1 e1
  have e3:=congrArg List.length e2
  have e4:=pj2 e1
  exact⟨(Z2 b2),0,(tup2 (slv r0 e3 r0) (congrArg (Value.bool) e4)),((hs3.pq [1] r0).cast (lc (own_eq (g:=I) r0 e3 r0 e2) r0))⟩
 ·refine q ⟨_,rfl,rfl⟩ r0 r0 (fa 1 fo45_1 r0) (q ⟨_,rfl,rfl⟩ r0 r0 (lG [I ak,(Z8 Aaq aq caq),Str an,I apt] hs2 0 r0 ag43) (cl ⟨_,rfl,rfl⟩ r0 (sAddressValid (ak:=ak) (Aaq:=Aaq) (caq:=caq) (aq:=aq) (an:=an) (apt:=apt) (w:=_) (haq:=(haq.up0 hs2)) (han_n:=(by omega))) ?_))
  rintro _ w4 ⟨rfl,hs4⟩
  replace hs4:=hs2.call0 hs4
  refine q ⟨_,rfl,rfl⟩ r0 r0 (nt (b:=addrOk ak aq an apt) r0) (qt r0 (pf (v:=.bool (!(addrOk ak aq an apt))) r0 r0) (nn ?_))
  refine cd (b:=!(addrOk ak aq an apt)) r0 (fun h2=>?_) (fun h2=>?_)
  ·have h3:(addrOk ak aq an apt)=false:=by simpa using h2
   refine sr (bsk hs4 sl22 [] [] trivial r0 (fun b3 w5 hs5=>?_))
   refine tA (sb b3 (([]:List Int).length) 0) r0 (tA (.bool false) r0 (nn (rt (tR ?_))))
   refine fret (v:=.tuple #[sb b3 (([]:List Int).length) 0,.bool false]) (.tmp (.tmp .nil)) r0 ?_
   have e5:reqP n ak aq an apt=(([]:List Int),false):=by(simp[reqP,reqOk,h1,h3]; done)
   have e6:=pj1 e5
   have e7:=congrArg List.length e6
   have e8:=pj2 e5
   exact⟨(Z2 b3),0,(tup2 (slv r0 e7 r0) (congrArg (Value.bool) e8)),((hs5.pq [1] r0).cast (lc (own_eq (g:=I) r0 e7 r0 e6) r0))⟩
  ·have h4:(addrOk ak aq an apt)=true:=by simpa using h2
   refine sk (nN (sr (qt r0 (fa 0 fo45_0 r0) (qt r0 (lD (I n) hs4 0 r0 one3) (qt r0 (fa 1 fo45_1 r0) (qt r0 (lG [I ak,(Z8 Aaq aq caq),Str an,I apt] hs4 0 r0 ag43) ?_))))))
   refine cL r0 (sL12Bytes (n:=n) (ak:=ak) (Aaq:=Aaq) (caq:=caq) (aq:=aq) (an:=an) (apt:=apt) (w:=_) (haq:=(haq.up0 hs4)) (han_n:=(by omega)) (hok:=(by assumption))) ?_
   rintro _ w6 ⟨A1,c1,rfl,hs6⟩
   replace hs6:=hs4.call0 hs6
   refine tA (.slice A1 (([5,n,0]++addrB ak aq an apt).length) c1) r0 (tA (.bool true) r0 (nn (rt (fret (v:=.tuple #[.slice A1 (([5,n,0]++addrB ak aq an apt).length) c1,.bool true]) (.tmp (.tmp .nil)) r0 ?_))))
   have e9:reqP n ak aq an apt=([5,n,0]++addrB ak aq an apt,true):=by(simp[reqP,reqOk,h1,h4]; done)
   have e10:=pj1 e9
   have e11:=congrArg List.length e10
   have e12:=pj2 e9
   exact⟨A1,c1,(tup2 (slv r0 e11 r0) (congrArg (Value.bool) e12)),((hs6.pq [1] r0).cast (lc (own_eq (g:=I) r0 e11 r0 e10) r0))⟩
theorem sHelloBytes {Ams:Option Addr} {cms:Nat} (ms:List Int) (w:World) (hms:Sl w [] 1 Ams ms.length cms (ms.map I)):Does Tryz.prog 112 [.slice Ams ms.length cms] w (fun v w'=>∃ Ar:Option Addr,∃ cr:Nat,v=.tuple #[.slice Ar ((helloP ms).1).length cr,.bool ((helloP ms).2)]∧SH w w' [] [.own Ar (((helloP ms).1).length) cr 3 1 (((helloP ms).1).map I)]):=by
 refine fE (N:=13) Tryz.func112 r0 (by kernel_rfl) r0 ?_
 have hs0:=SH.refl w []
 have hms_m:ms.length≤9223372036854775807:=Nat.le_trans hms.cap hms.capMax
 refine sr (tA ns r0 (tA (.bool false) r0 (nn (sq (sq ?_)))))
 refine rg (tm (Z4 Ams ms cms) r0 (cL r0 (sL5Ok (Ams:=Ams) (cms:=cms) (ms:=ms) (w:=_) (hms:=(hms.up0 hs0))) ?_))
 rintro _ w1 ⟨rfl,hs1⟩
 replace hs1:=hs0.call0 hs1
 refine qt r0 (nt (b:=methOk ms) r0) (nn ?_)
 refine cd (b:=!(methOk ms)) r0 (fun h1=>?_) (fun h1=>?_)
 ·have h2:(methOk ms)=false:=by simpa using h1
  refine sr (bsk hs1 sl22 [] [] trivial r0 (fun b1 w2 hs2=>?_))
  refine tA (sb b1 (([]:List Int).length) 0) r0 (tA (.bool false) r0 (nn (rt (tR ?_))))
  refine fret (v:=.tuple #[sb b1 (([]:List Int).length) 0,.bool false]) (.tmp (.tmp .nil)) r0 ?_
  have e1:helloP ms=(([]:List Int),false):=by simp[helloP,h2]
  have e2:=pj1 e1
  have e3:=congrArg List.length e2
  have e4:=pj2 e1
  exact⟨(Z2 b1),0,(tup2 (slv r0 e3 r0) (congrArg (Value.bool) e4)),(hs2.cast (lc (own_eq (g:=I) r0 e3 r0 e2) r0))⟩
 ·have h3:(methOk ms)=true:=by simpa using h1
  refine sk (nN (sr (tm (Z4 Ams ms cms) r0 (qt r0 (lnA (n:=ms.length) sl22 r0) (bsk hs1 sl22 [I 5,I (ms.length:Int)] [I 5,I (ms.length:Int)] trivial r0 (fun b2 w3 hs3=>?_))))))
  refine tm (Z4 Ams ms cms) r0 (apm (g:=I) (ys:=([5,(ms.length:Int)]:List Int)) (zs:=ms) hs3 0 r0 sl22 r0 r0 r0 (hms.up0 hs3) (fun _=>rfl) (by unfold maxLen; have hml:=methOk_len (by assumption); simp only[List.length_append,List.length_cons,List.length_nil]; omega) (by have hml:=methOk_len (by assumption); simp only[List.length_append,List.length_cons,List.length_nil]; omega) trivial r0 (fun A1 c1 w4 hs4=>?_))
  refine tA (.slice A1 ((([5,(ms.length:Int)]:List Int)++ms).length) c1) r0 (tA (.bool true) r0 (nn (rt (fret (v:=.tuple #[.slice A1 ((([5,(ms.length:Int)]:List Int)++ms).length) c1,.bool true]) (.tmp (.tmp .nil)) r0 ?_))))
  have e5:helloP ms=(([5,(ms.length:Int)]:List Int)++ms,true):=by simp[helloP,h3]
  have e6:=pj1 e5
  have e7:=congrArg List.length e6
  have e8:=pj2 e5
  exact⟨A1,c1,(tup2 (slv r0 e7 r0) (congrArg (Value.bool) e8)),(hs4.cast (lc (own_eq (g:=I) r0 e7 r0 e6) r0))⟩
set_option maxHeartbeats 8000000 in
theorem sLoginBytes (lu:List UInt8) (lw:List UInt8) (w:World) (hlu_n:lu.length≤2147483648) (hlw_n:lw.length≤2147483648):Does Tryz.prog 113 [.agg #[Str lu,Str lw]] w (fun v w'=>∃ Ar:Option Addr,∃ cr:Nat,v=.tuple #[.slice Ar ((loginP lu lw).1).length cr,.bool ((loginP lu lw).2)]∧SH w w' [] [.own Ar (((loginP lu lw).1).length) cr 3 1 (((loginP lu lw).1).map I)]):=by
 refine fE (N:=28) Tryz.func113 r0 (by kernel_rfl) r0 ?_
 have hs0:=SH.refl w []
 refine sr (bx (v:=.agg #[Str lu,Str lw]) (cs:=[Str lu,Str lw]) hs0 r0 r0 trivial r0 (fun b1 w1 hs1=>?_))
 refine tA ns r0 (tA (.bool false) r0 (nn (sq (sr (qt r0 (lG [Str lu,Str lw] hs1 0 r0 ag51) ?_)))))
 refine cL r0 (sL11Ok (lu:=lu) (lw:=lw) (w:=_) (hlu_n:=(by omega)) (hlw_n:=(by omega))) ?_
 rintro _ w2 ⟨rfl,hs2⟩
 replace hs2:=hs1.call0 hs2
 refine qt r0 (nt (b:=loginOk lu lw) r0) (nn ?_)
 refine cd (b:=!(loginOk lu lw)) r0 (fun h1=>?_) (fun h1=>?_)
 ·have h2:(loginOk lu lw)=false:=by simpa using h1
  refine sr (bsk hs2 sl22 [] [] trivial r0 (fun b2 w3 hs3=>?_))
  refine tA (sb b2 (([]:List Int).length) 0) r0 (tA (.bool false) r0 (nn (rt (tR ?_))))
  refine fret (v:=.tuple #[sb b2 (([]:List Int).length) 0,.bool false]) (.tmp (.tmp .nil)) r0 ?_
  have e1:loginP lu lw=(([]:List Int),false):=by(try simp only[catH_cons,catH_nil,List.append_nil]); simp[loginP,h2]
  have e2:=pj1 e1
  have e3:=congrArg List.length e2
  have e4:=pj2 e1
  exact⟨(Z2 b2),0,(tup2 (slv r0 e3 r0) (congrArg (Value.bool) e4)),((hs3.pq [1] r0).cast (lc (own_eq (g:=I) r0 e3 r0 e2) r0))⟩
 ·have h3:(loginOk lu lw)=true:=by simpa using h1
  refine sk (nN (sq ?_))
  refine raJ (fun w'=>∃ L,SH w w' [] L∧(.blk b1 51 [Str lu,Str lw])∈L∧True) (fun f w'=>∃ (A6':Option Addr) (c6':Nat) (A7':Option Addr) (c7':Nat),Hz f [(1,pB b1),(4,.slice A7' (((Z16 lu)++(textI lu)).length) c7')]∧SH w w' [] [.blk b1 51 [Str lu,Str lw],.own A7' (((Z16 lu)++(textI lu)).length) c7' 3 1 (((Z16 lu)++(textI lu)).map I),.own A6' ((textI lu).length) c6' 3 1 ((textI lu).map I)]) mixed ?_ ?_
  ·refine dG 2 9 127 (fun f w'=>∃ (b3':Nat) (A6':Option Addr) (c6':Nat),Hz f [(1,pB b1),(12,sb b3' ((Z16 lu).length) 2),(15,.slice A6' ((textI lu).length) c6')]∧SH w w' [] [.blk b1 51 [Str lu,Str lw],oI b3' (Z16 lu) 2 3,.own A6' ((textI lu).length) c6' 3 1 ((textI lu).map I)]) ?_ (fun D_3_0=>?_)
   ·rintro f w4 ⟨b3',A6',c6',⟨g1,rfl⟩,hs4⟩
    refine aO 7 r0 (apm (g:=I) (ys:=(Z16 lu)) (zs:=textI lu) hs4 1 r0 sl22 r0 r0 r0 (hs4.sl0 2 r0) (fun _=>rfl) (by unfold maxLen; have hlf:=loginOk_fit (by assumption); have htl:=textI_len lu; have htw:=textI_len lw; simp only[List.length_append,List.length_cons,List.length_nil]; omega) (by have hlf:=loginOk_fit (by assumption); have htl:=textI_len lu; have htw:=textI_len lw; simp only[List.length_append,List.length_cons,List.length_nil]; omega) trivial r0 (fun A7' c7' w5 hs5=>?_))
    refine nk (m1 hs5 0 r0) ?_
    refine tk (fuel:=0) (is:=[8]) (.cons r0 (.nil)) (by kernel_rfl) (by kernel_rfl) (m1 hs5 0 r0) (yA r0 (asg (v:=.slice A7' (((Z16 lu)++(textI lu)).length) c7') r0) (.nil (ad (by kernel_rfl) ?_)))
    exact⟨A6',c6',A7',c7',(zR r0),(hs5.pk [0,2,1] r0)⟩
   refine dG 3 9 63 (fun f w'=>∃ (b3':Nat),Hz f [(1,pB b1),(12,sb b3' ((Z16 lu).length) 2),(14,Str lu)]∧SH w w' [] [.blk b1 51 [Str lu,Str lw],oI b3' (Z16 lu) 2 3]) ?_ (fun D_3_1=>?_)
   ·rintro f w6 ⟨b3',⟨g2,rfl⟩,hs6⟩
    refine aO 6 r0 (cL r0 (sL1Text (s:=lu) (w:=_) (hs_n:=(by omega))) ?_)
    rintro _ w7 ⟨A6',c6',rfl,hs7⟩
    replace hs7:=hs6.call0 hs7
    exact nk (m1 hs7 0 r0) (alc D_3_0 ⟨b3',A6',c6',(zR r0),hs7⟩)
   refine dG 3 9 119 (fun f w'=>∃ (A6':Option Addr) (c6':Nat),Hz f [(1,pB b1),(11,I (lu.length:Int)),(15,.slice A6' ((textI lu).length) c6')]∧SH w w' [] [.blk b1 51 [Str lu,Str lw],.own A6' ((textI lu).length) c6' 3 1 ((textI lu).map I)]) ?_ (fun D_3_2=>?_)
   ·rintro f w8 ⟨A6',c6',⟨g3,rfl⟩,hs8⟩
    refine aO 3 r0 (bsk hs8 sl22 [I 1,I (lu.length:Int)] [I 1,I (lu.length:Int)] trivial r0 (fun b3' w9 hs9=>?_))
    exact nk (m1 hs9 0 r0) (alc D_3_0 ⟨b3',A6',c6',(zR r0),(hs9.pk [0,2,1] r0)⟩)
   refine dG 4 9 55 (fun f w'=>Hz f [(1,pB b1),(11,I (lu.length:Int)),(14,Str lu)]∧SH w w' [] [.blk b1 51 [Str lu,Str lw]]) ?_ (fun D_3_3=>?_)
   ·rintro f w10 ⟨⟨g4,rfl⟩,hs10⟩
    refine aaL [3,6] (fa_cons ?_ (fa_one ?_))
    ·refine one_ r0 (bsk hs10 sl22 [I 1,I (lu.length:Int)] [I 1,I (lu.length:Int)] trivial r0 (fun b3' w11 hs11=>?_))
     exact nk (m1 hs11 0 r0) (alc D_3_1 ⟨b3',(zR r0),hs11⟩)
    ·refine one_ r0 (cL r0 (sL1Text (s:=lu) (w:=_) (hs_n:=(by omega))) ?_)
     rintro _ w12 ⟨A6',c6',rfl,hs12⟩
     replace hs12:=hs10.call0 hs12
     exact nk (m1 hs12 0 r0) (alc D_3_2 ⟨A6',c6',(zR r0),hs12⟩)
   have hs13:=hs2.drew
   refine tk (fuel:=4) (is:=[0,1,2,4,5]) (.cons r0 (.cons r0 (.cons r0 (.cons r0 (.cons r0 (.nil)))))) (by kernel_rfl) (by kernel_rfl) (m1 hs13 0 r0) (yA r0 (fa 0 fo51_0 r0) (yB r0 (fun ⟨Lq,hsq,mh0,_⟩=>lM (Str lu) hsq mh0 r0 one9) (yA r0 (lnS (l:=lu) st9 r0) (yA r0 (fa 0 fo51_0 r0) (yB r0 (fun ⟨Lq,hsq,mh0,_⟩=>lM (Str lu) hsq mh0 r0 one9) (.nil ?_))))))
   exact alc D_3_3 ⟨(zR r0),hs13⟩
  rintro f w13 ⟨A6',c6',A7',c7',⟨g5,rfl⟩,hs14⟩
  refine nN (sr (tm (.slice A7' (((Z16 lu)++(textI lu)).length) c7') r0 (qt r0 (fa 1 fo51_1 r0) (qt r0 (lD (Str lw) hs14 0 r0 one9) (qt r0 (lnS (l:=lw) st9 r0) (bsk hs14 sl22 [I (lw.length:Int)] [I (lw.length:Int)] trivial r0 (fun b3 w14 hs15=>?_)))))))
  refine apm (g:=I) (ys:=(Z16 lu)++(textI lu)) (zs:=(Z12 lw)) hs15 1 r0 sl22 r0 r0 r0 (hs15.sl0 3 r0) (fun _=>rfl) (by unfold maxLen; have hlf:=loginOk_fit (by assumption); have htl:=textI_len lu; have htw:=textI_len lw; simp only[List.length_append,List.length_cons,List.length_nil]; omega) (by have hlf:=loginOk_fit (by assumption); have htl:=textI_len lu; have htw:=textI_len lw; simp only[List.length_append,List.length_cons,List.length_nil]; omega) trivial r0 (fun A1 c1 w15 hs16=>?_)
  refine tA (.slice A1 ((((Z16 lu)++(textI lu))++(Z12 lw)).length) c1) r0 (nn ?_)
  have hs17:=hs16.pq [0,3] r0
  refine sr (tm (.slice A1 ((((Z16 lu)++(textI lu))++(Z12 lw)).length) c1) r0 (qt r0 (fa 1 fo51_1 r0) (qt r0 (lD (Str lw) hs17 0 r0 one9) (cL r0 (sL1Text (s:=lw) (w:=_) (hs_n:=(by omega))) ?_))))
  rintro _ w16 ⟨A2,c2,rfl,hs18⟩
  replace hs18:=hs17.call0 hs18
  refine apm (g:=I) (ys:=((Z16 lu)++(textI lu))++(Z12 lw)) (zs:=textI lw) hs18 1 r0 sl22 r0 r0 r0 (hs18.sl0 2 r0) (fun _=>rfl) (by unfold maxLen; have hlf:=loginOk_fit (by assumption); have htl:=textI_len lu; have htw:=textI_len lw; simp only[List.length_append,List.length_cons,List.length_nil]; omega) (by have hlf:=loginOk_fit (by assumption); have htl:=textI_len lu; have htw:=textI_len lw; simp only[List.length_append,List.length_cons,List.length_nil]; omega) trivial r0 (fun A3 c3 w17 hs19=>?_)
  refine tA (.slice A3 (((((Z16 lu)++(textI lu))++(Z12 lw))++(textI lw)).length) c3) r0 (tA (.bool true) r0 (nn (rt (fret (v:=.tuple #[.slice A3 (((((Z16 lu)++(textI lu))++(Z12 lw))++(textI lw)).length) c3,.bool true]) (.tmp (.tmp .nil)) r0 ?_))))
  have e5:loginP lu lw=((((Z16 lu)++(textI lu))++(Z12 lw))++(textI lw),true):=by(try simp only[catH_cons,catH_nil,List.append_nil]); simp[loginP,h3]
  have e6:=pj1 e5
  have e7:=congrArg List.length e6
  have e8:=pj2 e5
  exact⟨A3,c3,(tup2 (slv r0 e7 r0) (congrArg (Value.bool) e8)),((hs19.pq [2] r0).cast (lc (own_eq (g:=I) r0 e7 r0 e6) r0))⟩
theorem stItoa (n:Int) (w:World) (hn: -9223372036854775808≤n∧n≤9223372036854775807) (hGp:VarP Tryz.prog w [] "internal/strconv.uint64pow10" isPow):Does Tryz.prog 125 [I n] w (fun v w'=>v=Str (Lib.itoa n)∧SH w w' [] []):=by
 exact does_grow ⟨_,_,Tryz.func125,by kernel_rfl,rfl⟩ r0 (Tryz.strconv_Itoa n hn.1 hn.2 w hGp.tab)
theorem stJoin {bxs:Nat} {cxs:Nat} (xs:List (List UInt8)) (m:List UInt8) (w:World) (hxs:Sl w [] 1 (some ⟨bxs,0,none⟩) xs.length cxs (xs.map Str)) (hxs_n:xs.length≤1099511627776) (hl:(Lib.join xs m).length≤140737488355328):Does Tryz.prog 178 [sb bxs xs.length cxs,Str m] w (fun v w'=>v=Str (Lib.join xs m)∧SH w w' [] []):=by
 exact does_join ⟨_,_,Tryz.func178,by kernel_rfl,rfl⟩ Tryz.strings_Join_none Tryz.strings_Join hxs hxs_n hl
set_option maxHeartbeats 8000000 in
theorem l6DecStep (n:Int) (w:World) (hn:0≤n∧n≤9223372036854775807) (ih: ∀ (m:Int) (w:World),0≤m→m<n→Does Tryz.prog 148 [I m] w (fun v w'=>v=Str (Lib.itoa m)∧SH w w' [] [])):Does Tryz.prog 148 [I n] w (fun v w'=>v=Str (Lib.itoa n)∧SH w w' [] []):=by
 refine fE (N:=28) Tryz.func148 r0 (by kernel_rfl) r0 ?_
 have hs0:=SH.refl w []
 refine sr (tA (Str []) r0 (nn (sq (sr ?_))))
 refine tm (I n) r0 (qt r0 (lss (k:=.i64) (a:=n) (b:=(-9223372036854775807)) r0 r0) (nn ?_))
 refine cdd (p:=n<(-9223372036854775807)) r0 (fun h1=>absurd h1 (by omega)) (fun h1=>?_)
 refine sk (nN (sq (sr (tm (I n) r0 (qt r0 (lss (k:=.i64) (a:=n) (b:=0) r0 r0) (nl ?_))))))
 refine nN ?_
 refine cdd (p:=n<0) r0 (fun h2=>absurd h2 (by omega)) (fun h2=>?_)
 refine sk (nN (sq (sr (tm (I n) r0 (qt r0 (lss (k:=.i64) (a:=n) (b:=10) r0 r0) (nl ?_))))))
 refine nN ?_
 refine cdd (p:=n<10) r0 (fun h3=>?_) (fun h3=>?_)
 ·refine sr (tm (I n) r0 (qt r0 (add (a:=48) (b:=n) r0 r0 (by(exact⟨by omega,by omega⟩))) (qt r0 (cvB (a:=48+n) (s:=.i64) ti3 ti5 r0 (by(omega)) (by(omega))) (bsk hs0 sl39 [.int .u8 (((UInt8.ofNat (48+n).toNat).toNat:Nat):Int)] [.int .u8 (((UInt8.ofNat (48+n).toNat).toNat:Nat):Int)] trivial r0 (fun b1 w1 hs1=>?_)))))
  refine qt r0 (cvS (l:=([(UInt8.ofNat (48+n).toNat)]:List UInt8)) us39 ti5 st9 r0 (hs1.sl0 0 r0)) (tA (Str ([(UInt8.ofNat (48+n).toNat)]:List UInt8)) r0 (nn (rt (tR ?_))))
  refine fT (Str ([(UInt8.ofNat (48+n).toNat)]:List UInt8)) r0 ?_
  have e1:([(UInt8.ofNat (48+n).toNat)]:List UInt8)=Lib.itoa n:=by exact decDigits_small (by omega) (by omega)
  exact⟨(congrArg (Str) e1),(hs1.pk [] r0)⟩
 ·refine sk (nN (sq ?_))
  refine raJ (fun w'=>∃ L,SH w w' [] L∧True) (fun f w'=>∃ (b7':Nat),Hz f [(2,Str ((Lib.itoa (n / 10))++([(UInt8.ofNat (48+(n % 10)).toNat)]:List UInt8)))]∧SH w w' [] [.own (Z2 b7') (([(UInt8.ofNat (48+(n % 10)).toNat)]:List UInt8).length) 1 5 1 (([(UInt8.ofNat (48+(n % 10)).toNat)]:List UInt8).map U)]) mixed ?_ ?_
  ·refine dG 3 11 255 (fun f w'=>∃ (b7':Nat),Hz f [(2,Str []),(20,Str (Lib.itoa (n / 10))),(25,sb b7' (([(UInt8.ofNat (48+(n % 10)).toNat)]:List UInt8).length) 1)]∧SH w w' [] [.own (Z2 b7') (([(UInt8.ofNat (48+(n % 10)).toNat)]:List UInt8).length) 1 5 1 (([(UInt8.ofNat (48+(n % 10)).toNat)]:List UInt8).map U)]) ?_ (fun D_7_0=>?_)
   ·rintro f w2 ⟨b7',⟨g1,rfl⟩,hs2⟩
    refine aO 8 r0 (qt r0 (cvS (l:=([(UInt8.ofNat (48+(n % 10)).toNat)]:List UInt8)) us39 ti5 st9 r0 (hs2.sl0 0 r0)) (nk ⟨_,hs2,trivial⟩ ?_))
    refine tk (fuel:=0) (is:=[9,10]) (.cons r0 (.cons r0 (.nil))) (by kernel_rfl) (by kernel_rfl) ⟨_,hs2,trivial⟩ (yA r0 (cat (l:=Lib.itoa (n / 10)) (m:=([(UInt8.ofNat (48+(n % 10)).toNat)]:List UInt8)) r0 r0 (by(have hdl:=Lib.itoa_length_le (n / 10) (by omega) (by omega); (simp; omega)))) (yA r0 (asg (v:=Str ((Lib.itoa (n / 10))++([(UInt8.ofNat (48+(n % 10)).toNat)]:List UInt8))) r0) (.nil (ad (by kernel_rfl) ?_))))
    exact⟨b7',(zR r0),hs2⟩
   refine dG 3 11 507 (fun f w'=>∃ (b7':Nat),Hz f [(2,Str []),(19,I (n / 10)),(26,Str ([(UInt8.ofNat (48+(n % 10)).toNat)]:List UInt8))]∧SH w w' [] [.own (Z2 b7') (([(UInt8.ofNat (48+(n % 10)).toNat)]:List UInt8).length) 1 5 1 (([(UInt8.ofNat (48+(n % 10)).toNat)]:List UInt8).map U)]) ?_ (fun D_7_1=>?_)
   ·rintro f w3 ⟨b7',⟨g2,rfl⟩,hs3⟩
    refine aO 2 r0 (cL r0 (ih (n / 10) _ (by(omega)) (by(omega))) ?_)
    rintro _ w4 ⟨rfl,hs4⟩
    replace hs4:=hs3.call0 hs4
    refine nk ⟨_,hs4,trivial⟩ ?_
    refine tk (fuel:=0) (is:=[9,10]) (.cons r0 (.cons r0 (.nil))) (by kernel_rfl) (by kernel_rfl) ⟨_,hs4,trivial⟩ (yA r0 (cat (l:=Lib.itoa (n / 10)) (m:=([(UInt8.ofNat (48+(n % 10)).toNat)]:List UInt8)) r0 r0 (by(have hdl:=Lib.itoa_length_le (n / 10) (by omega) (by omega); (simp; omega)))) (yA r0 (asg (v:=Str ((Lib.itoa (n / 10))++([(UInt8.ofNat (48+(n % 10)).toNat)]:List UInt8))) r0) (.nil (ad (by kernel_rfl) ?_))))
    exact⟨b7',(zR r0),hs4⟩
   refine dG 4 11 127 (fun f w'=>Hz f [(2,Str []),(20,Str (Lib.itoa (n / 10))),(24,.int .u8 (((UInt8.ofNat (48+(n % 10)).toNat).toNat:Nat):Int))]∧SH w w' [] []) ?_ (fun D_7_2=>?_)
   ·rintro f w5 ⟨⟨g3,rfl⟩,hs5⟩
    refine aO 7 r0 (bsk hs5 sl39 [.int .u8 (((UInt8.ofNat (48+(n % 10)).toNat).toNat:Nat):Int)] [.int .u8 (((UInt8.ofNat (48+(n % 10)).toNat).toNat:Nat):Int)] trivial r0 (fun b7' w6 hs6=>?_))
    exact nk ⟨_,hs6,trivial⟩ (alc D_7_0 ⟨b7',(zR r0),hs6⟩)
   refine dG 4 11 251 (fun f w'=>∃ (b7':Nat),Hz f [(2,Str []),(19,I (n / 10)),(25,sb b7' (([(UInt8.ofNat (48+(n % 10)).toNat)]:List UInt8).length) 1)]∧SH w w' [] [.own (Z2 b7') (([(UInt8.ofNat (48+(n % 10)).toNat)]:List UInt8).length) 1 5 1 (([(UInt8.ofNat (48+(n % 10)).toNat)]:List UInt8).map U)]) ?_ (fun D_7_3=>?_)
   ·rintro f w7 ⟨b7',⟨g4,rfl⟩,hs7⟩
    refine aaL [2,8] (fa_cons ?_ (fa_one ?_))
    ·refine one_ r0 (cL r0 (ih (n / 10) _ (by(omega)) (by(omega))) ?_)
     rintro _ w8 ⟨rfl,hs8⟩
     replace hs8:=hs7.call0 hs8
     exact nk ⟨_,hs8,trivial⟩ (alc D_7_0 ⟨b7',(zR r0),hs8⟩)
    ·refine one_ r0 (qt r0 (cvS (l:=([(UInt8.ofNat (48+(n % 10)).toNat)]:List UInt8)) us39 ti5 st9 r0 (hs7.sl0 0 r0)) ?_)
     exact nk ⟨_,hs7,trivial⟩ (alc D_7_1 ⟨b7',(zR r0),hs7⟩)
   refine dG 5 11 123 (fun f w'=>Hz f [(2,Str []),(19,I (n / 10)),(24,.int .u8 (((UInt8.ofNat (48+(n % 10)).toNat).toNat:Nat):Int))]∧SH w w' [] []) ?_ (fun D_7_4=>?_)
   ·rintro f w9 ⟨⟨g5,rfl⟩,hs9⟩
    refine aaL [2,7] (fa_cons ?_ (fa_one ?_))
    ·refine one_ r0 (cL r0 (ih (n / 10) _ (by(omega)) (by(omega))) ?_)
     rintro _ w10 ⟨rfl,hs10⟩
     replace hs10:=hs9.call0 hs10
     exact nk ⟨_,hs10,trivial⟩ (alc D_7_2 ⟨(zR r0),hs10⟩)
    ·refine one_ r0 (bsk hs9 sl39 [.int .u8 (((UInt8.ofNat (48+(n % 10)).toNat).toNat:Nat):Int)] [.int .u8 (((UInt8.ofNat (48+(n % 10)).toNat).toNat:Nat):Int)] trivial r0 (fun b7' w11 hs11=>?_))
     exact nk ⟨_,hs11,trivial⟩ (alc D_7_3 ⟨b7',(zR r0),hs11⟩)
   have hs12:=hs0.drew
   refine tk (fuel:=5) (is:=[0,1,3,4,5,6]) (.cons r0 (.cons r0 (.cons r0 (.cons r0 (.cons r0 (.cons r0 (.nil))))))) (by kernel_rfl) (by kernel_rfl) ⟨_,hs12,trivial⟩ (yA r0 (mv (v:=I n) r0) (yA r0 (quo (a:=n) (b:=10) r0 r0 (by(omega)) (by(omega)) (by(omega))) (yA r0 (mv (v:=I n) r0) (yA r0 (rem (a:=n) (b:=10) r0 r0 (by(omega)) (by(omega))) (yA r0 (add (a:=48) (b:=n % 10) r0 r0 (by(exact⟨by omega,by omega⟩))) (yA r0 (cvB (a:=48+(n % 10)) (s:=.i64) ti3 ti5 r0 (by(omega)) (by(omega))) (.nil ?_)))))))
   exact alc D_7_4 ⟨(zR r0),hs12⟩
  rintro f w12 ⟨b7',⟨g6,rfl⟩,hs13⟩
  refine nN (rt (fT (Str ((Lib.itoa (n / 10))++([(UInt8.ofNat (48+(n % 10)).toNat)]:List UInt8))) r0 ?_))
  have e2:(Lib.itoa (n / 10))++([(UInt8.ofNat (48+(n % 10)).toNat)]:List UInt8)=Lib.itoa n:=by exact decDigits_big (by omega)
  exact⟨(congrArg (Str) e2),(hs13.pk [] r0)⟩
theorem l6Dec (n:Int) (w:World) (hn:0≤n∧n≤9223372036854775807):Does Tryz.prog 148 [I n] w (fun v w'=>v=Str (Lib.itoa n)∧SH w w' [] []):=by
 have key: ∀ (j:Nat) (n:Int) (w:World),n.toNat=j→0≤n→n≤9223372036854775807→Does Tryz.prog 148 [I n] w (fun v w'=>v=Str (Lib.itoa n)∧SH w w' [] []):=by
  intro j
  induction j using Nat.strongRecOn with
  | _ j ih=>
   intro n w hj h0 h1
   exact l6DecStep n w ⟨h0,h1⟩ (fun m w hm0 hmn=>ih m.toNat (by omega) m w r0 hm0 (by omega))
 exact key _ n w r0 hn.1 hn.2
theorem iQuadText {Aqs:Option Addr} {cqs:Nat} (qs:List Int) (w:World) (hqs:Sl w [] 1 Aqs qs.length cqs (qs.map I)) (hq:quadOk qs=true) (hGp:VarP Tryz.prog w [] "internal/strconv.uint64pow10" isPow):Does Tryz.prog 157 [.slice Aqs qs.length cqs] w (fun v w'=>v=Str (quadT qs)∧SH w w' [] []):=by
 refine fE (N:=24) Tryz.func157 r0 (by kernel_rfl) r0 ?_
 have hs0:=SH.refl w []
 have hqs_m:qs.length≤9223372036854775807:=Nat.le_trans hqs.cap hqs.capMax
 refine sr (tA (Str []) r0 (nx (tm (Z4 Aqs qs cqs) r0 ?_)))
 refine qt r0 (lnA (n:=qs.length) sl22 r0) (mkm (g:=Str) (z:=[]) (n:=qs.length) hs0 sl147 r0 r0 r0 (by(have hq4:=quadOk_len hq; omega)) (by unfold maxLen; (omega)) trivial r0 (fun b1 w1 hs1=>?_))
 refine tA (sb b1 ((List.replicate qs.length ([]:List UInt8)).length) qs.length) r0 (nn (sq (sr (tm (Z4 Aqs qs cqs) r0 (qt r0 (lnA (n:=qs.length) sl22 r0) ?_)))))
 refine tm (I 0) r0 (nn (bl ?_))
 have e1:List.replicate qs.length ([]:List UInt8)=(qs.map Lib.itoa).take 0++List.replicate (qs.length-0) ([]:List UInt8):=by simp
 have e2:(List.replicate qs.length ([]:List UInt8)).length=qs.length:=by(first | rfl | (simp; done) | (simp; omega) | omega)
 refine lp (σ:=Nat) (fun(k:Nat) f w'=>Hz f [(3,sb b1 qs.length qs.length),(9,.slice Aqs qs.length cqs),(10,I (qs.length:Int)),(11,I (k:Int))]∧(k≤qs.length)∧SH w w' [] [.own (Z2 b1) qs.length qs.length 9 1 (((qs.map Lib.itoa).take k++List.replicate (qs.length-k) ([]:List UInt8)).map Str)]) (fun k=>qs.length-k) 0 ⟨(zH ⟨(show (.slice (Z2 b1) ((List.replicate qs.length ([]:List UInt8)).length) qs.length:Value)=.slice (Z2 b1) qs.length qs.length from slv r0 e2 r0),rfl,rfl,rfl,trivial⟩),(by simp),(hs1.cast (lc (own_eq (g:=Str) r0 e2 r0 e1) r0))⟩ ?_
 rintro k f w2 ⟨⟨g1,rfl⟩,hk,hs2⟩
 refine sr (qt r0 (lss (k:=.i64) (a:=(k:Int)) (b:=(qs.length:Int)) r0 r0) (nn (sq ?_)))
 refine cdd (p:=(k:Int)<(qs.length:Int)) r0 (fun h1=>?_) (fun h1=>?_)
 ·refine sk (nN (sq (bl (sr (tm (I (k:Int)) r0 (ixw1 k sl22 r0 r0 hqs (by(omega)) (getm I 0 (by(omega))) trivial r0 (fun a1 ha1=>?_)))))))
  refine qt r0 (lda (v:=I (qs.getD k 0)) hs2 ha1 (fun _ h=>h) r0 r0 one3) (tA (I (k:Int)) r0 (tA (I (qs.getD k 0)) r0 (nn (rg (tm (sb b1 qs.length qs.length) r0 (tm (I (k:Int)) r0 ?_))))))
  refine tm (I (qs.getD k 0)) r0 (cL r0 (stItoa (n:=qs.getD k 0) (w:=_) (hn:=(by have hy:=quad_get hq (k:=k) (by omega); omega)) (hGp:=(hGp.up0 hs2))) ?_)
  rintro _ w3 ⟨rfl,hs3⟩
  replace hs3:=hs2.call0 hs3
  refine qt r0 (ixo k sl147 r0 r0 (by(omega))) (stomn (g:=Str) (ys:=(qs.map Lib.itoa).take k++List.replicate (qs.length-k) ([]:List UInt8)) (o:=k) (u:=Lib.itoa (qs.getD k 0)) hs3 0 r0 r0 r0 r0 (by(omega)) r0 one9 trivial (fun w4 hs4=>?_))
  refine nl (bN (nN (rg (qt r0 (add (a:=(k:Int)) (b:=1) r0 r0 (by(exact⟨by omega,by omega⟩))) (tm (I ((k:Int)+1)) r0 (nn ?_))))))
  have e3:((qs.map Lib.itoa).take k++List.replicate (qs.length-k) ([]:List UInt8)).set k (Lib.itoa (qs.getD k 0))=(qs.map Lib.itoa).take (k+1)++List.replicate (qs.length-(k+1)) ([]:List UInt8):=by exact quad_set (by omega)
  refine⟨(k+1),⟨(zR r0),(by omega),(hs4.cast (lc (own_eq (g:=Str) r0 r0 r0 e3) r0))⟩,?_⟩
  omega
 ·refine ex (tE (tE (bE ?_)))
  refine nN (sr (tm (sb b1 qs.length qs.length) r0 ?_))
  have e4:qs.length=((qs.map Lib.itoa).take k++List.replicate (qs.length-k) ([]:List UInt8)).length:=by(simp; omega)
  have hs5:SH w w2 [] [.own (Z2 b1) (((qs.map Lib.itoa).take k++List.replicate (qs.length-k) ([]:List UInt8)).length) qs.length 9 1 (((qs.map Lib.itoa).take k++List.replicate (qs.length-k) ([]:List UInt8)).map Str)]:=(hs2.cast (lc (own_eq (g:=Str) r0 e4 r0 r0) r0))
  refine cL r0 (Does.castA (lc (slv r0 e4.symm r0) (lc r0 r0)) (stJoin (bxs:=b1) (cxs:=qs.length) (xs:=(qs.map Lib.itoa).take k++List.replicate (qs.length-k) ([]:List UInt8)) (m:=[46]) (w:=_) (hxs:=(hs5.sl0 0 r0)) (hxs_n:=(by(have hq4:=quadOk_len hq; omega))) (hl:=(by rw[quad_whole (by omega)]; exact Nat.le_trans (quadT_len hq) (by decide:87≤140737488355328))))) ?_
  rintro _ w5 ⟨rfl,hs6⟩
  replace hs6:=hs5.call0 hs6
  refine tA (Str (Lib.join ((qs.map Lib.itoa).take k++List.replicate (qs.length-k) ([]:List UInt8)) [46])) r0 (nn (rt (fT (Str (Lib.join ((qs.map Lib.itoa).take k++List.replicate (qs.length-k) ([]:List UInt8)) [46])) r0 ?_)))
  have e5:Lib.join ((qs.map Lib.itoa).take k++List.replicate (qs.length-k) ([]:List UInt8)) [46]=quadT qs:=by rw[quad_whole (by omega)]; rfl
  exact⟨(congrArg (Str) e5),(hs6.pk [] r0)⟩
theorem sL2Quad {Aqs:Option Addr} {cqs:Nat} (qs:List Int) (w:World) (hqs:Sl w [] 1 Aqs qs.length cqs (qs.map I)) (hq:quadOk qs=true):Does Tryz.prog 172 [.slice Aqs qs.length cqs] w (fun v w'=>v=Str (quadT qs)∧SH w w' [] []):=by
 refine fE (N:=25) Tryz.func172 r0 (by kernel_rfl) r0 ?_
 have hs0:=SH.refl w []
 have hqs_m:qs.length≤9223372036854775807:=Nat.le_trans hqs.cap hqs.capMax
 refine sr (tA (Str []) r0 (nn (sq (rq (fun w'=>SH w w' [] []) mixed (by kernel_rfl) hs0.drew (qA r0 (mv (v:=.slice Aqs qs.length cqs) r0) ?_)))))
 refine ixq1 0 sl22 r0 r0 hqs (by(have hq4:=quadOk_len hq; have g0:=itoa_b (quad_get hq (k:=0) (by omega)); have g1:=itoa_b (quad_get hq (k:=1) (by omega)); have g2:=itoa_b (quad_get hq (k:=2) (by omega)); have g3:=itoa_b (quad_get hq (k:=3) (by omega)); omega)) (getm I 0 (by(have hq4:=quadOk_len hq; have g0:=itoa_b (quad_get hq (k:=0) (by omega)); have g1:=itoa_b (quad_get hq (k:=1) (by omega)); have g2:=itoa_b (quad_get hq (k:=2) (by omega)); have g3:=itoa_b (quad_get hq (k:=3) (by omega)); omega))) trivial r0 (fun a1 ha1=>?_)
 refine qB r0 (fun hsq=>lda (v:=I (qs.getD 0 0)) hsq ha1 (fun _ h=>h) r0 r0 one3) (qc (Str (Lib.itoa (qs.getD 0 0))) trivial r0 (fun wq hsq=>(l6Dec (n:=qs.getD 0 0) (w:=_) (hn:=(by have hq4:=quadOk_len hq; have g0:=quad_get hq (k:=0) (by omega); have g1:=quad_get hq (k:=1) (by omega); have g2:=quad_get hq (k:=2) (by omega); have g3:=quad_get hq (k:=3) (by omega); omega))).mono (fun v w' h=>⟨h.1,by simpa using hsq.call0 h.2⟩)) (qA r0 (cat (l:=Lib.itoa (qs.getD 0 0)) (m:=[46]) r0 r0 (by have hq4:=quadOk_len hq; have g0:=itoa_b (quad_get hq (k:=0) (by omega)); have g1:=itoa_b (quad_get hq (k:=1) (by omega)); have g2:=itoa_b (quad_get hq (k:=2) (by omega)); have g3:=itoa_b (quad_get hq (k:=3) (by omega)); simp only[List.length_append,List.length_cons,List.length_nil]; omega)) (qA r0 (mv (v:=.slice Aqs qs.length cqs) r0) (ixq1 1 sl22 r0 r0 hqs (by(have hq4:=quadOk_len hq; have g0:=itoa_b (quad_get hq (k:=0) (by omega)); have g1:=itoa_b (quad_get hq (k:=1) (by omega)); have g2:=itoa_b (quad_get hq (k:=2) (by omega)); have g3:=itoa_b (quad_get hq (k:=3) (by omega)); omega)) (getm I 0 (by(have hq4:=quadOk_len hq; have g0:=itoa_b (quad_get hq (k:=0) (by omega)); have g1:=itoa_b (quad_get hq (k:=1) (by omega)); have g2:=itoa_b (quad_get hq (k:=2) (by omega)); have g3:=itoa_b (quad_get hq (k:=3) (by omega)); omega))) trivial r0 (fun a2 ha2=>?_)))))
 refine qB r0 (fun hsq=>lda (v:=I (qs.getD 1 0)) hsq ha2 (fun _ h=>h) r0 r0 one3) (qc (Str (Lib.itoa (qs.getD 1 0))) trivial r0 (fun wq hsq=>(l6Dec (n:=qs.getD 1 0) (w:=_) (hn:=(by have hq4:=quadOk_len hq; have g0:=quad_get hq (k:=0) (by omega); have g1:=quad_get hq (k:=1) (by omega); have g2:=quad_get hq (k:=2) (by omega); have g3:=quad_get hq (k:=3) (by omega); omega))).mono (fun v w' h=>⟨h.1,by simpa using hsq.call0 h.2⟩)) (qA r0 (cat (l:=(Lib.itoa (qs.getD 0 0))++[46]) (m:=Lib.itoa (qs.getD 1 0)) r0 r0 (by have hq4:=quadOk_len hq; have g0:=itoa_b (quad_get hq (k:=0) (by omega)); have g1:=itoa_b (quad_get hq (k:=1) (by omega)); have g2:=itoa_b (quad_get hq (k:=2) (by omega)); have g3:=itoa_b (quad_get hq (k:=3) (by omega)); simp only[List.length_append,List.length_cons,List.length_nil]; omega)) (qA r0 (cat (l:=((Lib.itoa (qs.getD 0 0))++[46])++(Lib.itoa (qs.getD 1 0))) (m:=[46]) r0 r0 (by have hq4:=quadOk_len hq; have g0:=itoa_b (quad_get hq (k:=0) (by omega)); have g1:=itoa_b (quad_get hq (k:=1) (by omega)); have g2:=itoa_b (quad_get hq (k:=2) (by omega)); have g3:=itoa_b (quad_get hq (k:=3) (by omega)); simp only[List.length_append,List.length_cons,List.length_nil]; omega)) (qA r0 (mv (v:=.slice Aqs qs.length cqs) r0) (ixq1 2 sl22 r0 r0 hqs (by(have hq4:=quadOk_len hq; have g0:=itoa_b (quad_get hq (k:=0) (by omega)); have g1:=itoa_b (quad_get hq (k:=1) (by omega)); have g2:=itoa_b (quad_get hq (k:=2) (by omega)); have g3:=itoa_b (quad_get hq (k:=3) (by omega)); omega)) (getm I 0 (by(have hq4:=quadOk_len hq; have g0:=itoa_b (quad_get hq (k:=0) (by omega)); have g1:=itoa_b (quad_get hq (k:=1) (by omega)); have g2:=itoa_b (quad_get hq (k:=2) (by omega)); have g3:=itoa_b (quad_get hq (k:=3) (by omega)); omega))) trivial r0 (fun a3 ha3=>?_))))))
 refine qB r0 (fun hsq=>lda (v:=I (qs.getD 2 0)) hsq ha3 (fun _ h=>h) r0 r0 one3) (qc (Str (Lib.itoa (qs.getD 2 0))) trivial r0 (fun wq hsq=>(l6Dec (n:=qs.getD 2 0) (w:=_) (hn:=(by have hq4:=quadOk_len hq; have g0:=quad_get hq (k:=0) (by omega); have g1:=quad_get hq (k:=1) (by omega); have g2:=quad_get hq (k:=2) (by omega); have g3:=quad_get hq (k:=3) (by omega); omega))).mono (fun v w' h=>⟨h.1,by simpa using hsq.call0 h.2⟩)) (qA r0 (cat (l:=(((Lib.itoa (qs.getD 0 0))++[46])++(Lib.itoa (qs.getD 1 0)))++[46]) (m:=Lib.itoa (qs.getD 2 0)) r0 r0 (by have hq4:=quadOk_len hq; have g0:=itoa_b (quad_get hq (k:=0) (by omega)); have g1:=itoa_b (quad_get hq (k:=1) (by omega)); have g2:=itoa_b (quad_get hq (k:=2) (by omega)); have g3:=itoa_b (quad_get hq (k:=3) (by omega)); simp only[List.length_append,List.length_cons,List.length_nil]; omega)) (qA r0 (cat (l:=((((Lib.itoa (qs.getD 0 0))++[46])++(Lib.itoa (qs.getD 1 0)))++[46])++(Lib.itoa (qs.getD 2 0))) (m:=[46]) r0 r0 (by have hq4:=quadOk_len hq; have g0:=itoa_b (quad_get hq (k:=0) (by omega)); have g1:=itoa_b (quad_get hq (k:=1) (by omega)); have g2:=itoa_b (quad_get hq (k:=2) (by omega)); have g3:=itoa_b (quad_get hq (k:=3) (by omega)); simp only[List.length_append,List.length_cons,List.length_nil]; omega)) (qA r0 (mv (v:=.slice Aqs qs.length cqs) r0) (ixq1 3 sl22 r0 r0 hqs (by(have hq4:=quadOk_len hq; have g0:=itoa_b (quad_get hq (k:=0) (by omega)); have g1:=itoa_b (quad_get hq (k:=1) (by omega)); have g2:=itoa_b (quad_get hq (k:=2) (by omega)); have g3:=itoa_b (quad_get hq (k:=3) (by omega)); omega)) (getm I 0 (by(have hq4:=quadOk_len hq; have g0:=itoa_b (quad_get hq (k:=0) (by omega)); have g1:=itoa_b (quad_get hq (k:=1) (by omega)); have g2:=itoa_b (quad_get hq (k:=2) (by omega)); have g3:=itoa_b (quad_get hq (k:=3) (by omega)); omega))) trivial r0 (fun a4 ha4=>?_))))))
 refine qB r0 (fun hsq=>lda (v:=I (qs.getD 3 0)) hsq ha4 (fun _ h=>h) r0 r0 one3) (qc (Str (Lib.itoa (qs.getD 3 0))) trivial r0 (fun wq hsq=>(l6Dec (n:=qs.getD 3 0) (w:=_) (hn:=(by have hq4:=quadOk_len hq; have g0:=quad_get hq (k:=0) (by omega); have g1:=quad_get hq (k:=1) (by omega); have g2:=quad_get hq (k:=2) (by omega); have g3:=quad_get hq (k:=3) (by omega); omega))).mono (fun v w' h=>⟨h.1,by simpa using hsq.call0 h.2⟩)) (qA r0 (cat (l:=(((((Lib.itoa (qs.getD 0 0))++[46])++(Lib.itoa (qs.getD 1 0)))++[46])++(Lib.itoa (qs.getD 2 0)))++[46]) (m:=Lib.itoa (qs.getD 3 0)) r0 r0 (by have hq4:=quadOk_len hq; have g0:=itoa_b (quad_get hq (k:=0) (by omega)); have g1:=itoa_b (quad_get hq (k:=1) (by omega)); have g2:=itoa_b (quad_get hq (k:=2) (by omega)); have g3:=itoa_b (quad_get hq (k:=3) (by omega)); simp only[List.length_append,List.length_cons,List.length_nil]; omega)) (qA r0 (asg (v:=Str (((((((Lib.itoa (qs.getD 0 0))++[46])++(Lib.itoa (qs.getD 1 0)))++[46])++(Lib.itoa (qs.getD 2 0)))++[46])++(Lib.itoa (qs.getD 3 0)))) r0) (qn (fun w1 hs1=>?_)))))
 refine nN (rt (fT (Str (((((((Lib.itoa (qs.getD 0 0))++[46])++(Lib.itoa (qs.getD 1 0)))++[46])++(Lib.itoa (qs.getD 2 0)))++[46])++(Lib.itoa (qs.getD 3 0)))) r0 ?_))
 have e1:((((((Lib.itoa (qs.getD 0 0))++[46])++(Lib.itoa (qs.getD 1 0)))++[46])++(Lib.itoa (qs.getD 2 0)))++[46])++(Lib.itoa (qs.getD 3 0))=quadT qs:=by exact(quadT_eq (quadOk_len hq)).symm
 exact⟨(congrArg (Str) e1),hs1⟩
theorem iHostText (ak:Int) {Aaq:Option Addr} {caq:Nat} (aq:List Int) (an:List UInt8) (apt:Int) (w:World) (haq:Sl w [] 1 Aaq aq.length caq (aq.map I)) (han_n:an.length≤1099511627776) (hok:addrOk ak aq an apt=true) (hGp:VarP Tryz.prog w [] "internal/strconv.uint64pow10" isPow):Does Tryz.prog 124 [.agg #[I ak,.slice Aaq aq.length caq,Str an,I apt]] w (fun v w'=>v=Str (hostT ak aq an)∧SH w w' [] []):=by
 refine fE (N:=11) Tryz.func124 r0 (by kernel_rfl) r0 ?_
 have hs0:=SH.refl w []
 have haq_m:aq.length≤9223372036854775807:=Nat.le_trans haq.cap haq.capMax
 refine sr (bx (v:=.agg #[I ak,(Z8 Aaq aq caq),Str an,I apt]) (cs:=[I ak,(Z8 Aaq aq caq),Str an,I apt]) hs0 r0 r0 trivial r0 (fun b1 w1 hs1=>?_))
 refine tA (Str []) r0 (nn (sq (sr (qt r0 (fa 0 fo43_0 r0) (qt r0 (lD (I ak) hs1 0 r0 one3) ?_)))))
 refine qt r0 (eqi (k:=.i64) (a:=ak) (b:=1) r0 r0) (nn ?_)
 refine cdd (p:=ak=1) r0 (fun h1=>?_) (fun h1=>?_)
 ·refine sr (qt r0 (fa 1 fo43_1 r0) (qt r0 (lD (Z4 Aaq aq caq) hs1 0 r0 one22) (cL r0 (iQuadText (Aqs:=Aaq) (cqs:=caq) (qs:=aq) (w:=_) (hqs:=(haq.up0 hs1)) (hq:=(by exact addr_quad hok (by assumption))) (hGp:=(hGp.up0 hs1))) ?_)))
  rintro _ w2 ⟨rfl,hs2⟩
  replace hs2:=hs1.call0 hs2
  refine tA (Str (quadT aq)) r0 (nn (rt (tR ?_)))
  refine fT (Str (quadT aq)) r0 ?_
  have e1:quadT aq=hostT ak aq an:=by simp[hostT,h1]
  exact⟨(congrArg (Str) e1),(hs2.pk [] r0)⟩
 ·refine sk (nN (sr (qt r0 (fa 2 fo43_2 r0) (qt r0 (lD (Str an) hs1 0 r0 one9) (tA (Str an) r0 (nl ?_))))))
  refine nN (rt (fT (Str an) r0 ?_))
  have e2:an=hostT ak aq an:=by simp[hostT,h1]
  exact⟨(congrArg (Str) e2),(hs1.pk [] r0)⟩
theorem sL3Host (ak:Int) {Aaq:Option Addr} {caq:Nat} (aq:List Int) (an:List UInt8) (apt:Int) (w:World) (haq:Sl w [] 1 Aaq aq.length caq (aq.map I)) (han_n:an.length≤1099511627776) (hok:addrOk ak aq an apt=true):Does Tryz.prog 147 [.agg #[I ak,.slice Aaq aq.length caq,Str an,I apt]] w (fun v w'=>v=Str (hostT ak aq an)∧SH w w' [] []):=by
 refine fE (N:=11) Tryz.func147 r0 (by kernel_rfl) r0 ?_
 have hs0:=SH.refl w []
 have haq_m:aq.length≤9223372036854775807:=Nat.le_trans haq.cap haq.capMax
 refine sr (bx (v:=.agg #[I ak,(Z8 Aaq aq caq),Str an,I apt]) (cs:=[I ak,(Z8 Aaq aq caq),Str an,I apt]) hs0 r0 r0 trivial r0 (fun b1 w1 hs1=>?_))
 refine tA (Str []) r0 (nn (sq (sr (qt r0 (fa 0 fo43_0 r0) (qt r0 (lD (I ak) hs1 0 r0 one3) ?_)))))
 refine qt r0 (eqi (k:=.i64) (a:=ak) (b:=1) r0 r0) (nn ?_)
 refine cdd (p:=ak=1) r0 (fun h1=>?_) (fun h1=>?_)
 ·refine sr (qt r0 (fa 1 fo43_1 r0) (qt r0 (lD (Z4 Aaq aq caq) hs1 0 r0 one22) (cL r0 (sL2Quad (Aqs:=Aaq) (cqs:=caq) (qs:=aq) (w:=_) (hqs:=(haq.up0 hs1)) (hq:=(by exact addr_quad hok (by assumption)))) ?_)))
  rintro _ w2 ⟨rfl,hs2⟩
  replace hs2:=hs1.call0 hs2
  refine tA (Str (quadT aq)) r0 (nn (rt (tR ?_)))
  refine fT (Str (quadT aq)) r0 ?_
  have e1:quadT aq=hostT ak aq an:=by simp[hostT,h1]
  exact⟨(congrArg (Str) e1),(hs2.pk [] r0)⟩
 ·refine sk (nN (sr (qt r0 (fa 2 fo43_2 r0) (qt r0 (lD (Str an) hs1 0 r0 one9) (tA (Str an) r0 (nl ?_))))))
  refine nN (rt (fT (Str an) r0 ?_))
  have e2:an=hostT ak aq an:=by simp[hostT,h1]
  exact⟨(congrArg (Str) e2),(hs1.pk [] r0)⟩
theorem iAddressText (ak:Int) {Aaq:Option Addr} {caq:Nat} (aq:List Int) (an:List UInt8) (apt:Int) (w:World) (haq:Sl w [] 1 Aaq aq.length caq (aq.map I)) (han_n:an.length≤1099511627776) (hok:addrOk ak aq an apt=true) (hGp:VarP Tryz.prog w [] "internal/strconv.uint64pow10" isPow):Does Tryz.prog 63 [.agg #[I ak,.slice Aaq aq.length caq,Str an,I apt]] w (fun v w'=>v=Str (hostT ak aq an++[58]++Lib.itoa apt)∧SH w w' [] []):=by
 refine fE (N:=10) Tryz.func63 r0 (by kernel_rfl) r0 ?_
 have hs0:=SH.refl w []
 have haq_m:aq.length≤9223372036854775807:=Nat.le_trans haq.cap haq.capMax
 refine sr (bx (v:=.agg #[I ak,(Z8 Aaq aq caq),Str an,I apt]) (cs:=[I ak,(Z8 Aaq aq caq),Str an,I apt]) hs0 r0 r0 trivial r0 (fun b1 w1 hs1=>?_))
 refine tA (Str []) r0 (nn (sq (rq (fun w'=>SH w w' [] [.blk b1 43 [I ak,(Z8 Aaq aq caq),Str an,I apt]]) mixed (by kernel_rfl) hs1.drew (qB r0 (fun hsq=>lG [I ak,(Z8 Aaq aq caq),Str an,I apt] hsq 0 r0 ag43) (qc (Str (hostT ak aq an)) trivial r0 (fun wq hsq=>(iHostText (ak:=ak) (Aaq:=Aaq) (caq:=caq) (aq:=aq) (an:=an) (apt:=apt) (w:=_) (haq:=(haq.up0 hsq)) (han_n:=(by(omega))) (hok:=(by(first | omega | assumption | (simp; done) | (simp; omega)))) (hGp:=(hGp.up0 hsq))).mono (fun v w' h=>⟨h.1,by simpa using hsq.call0 h.2⟩)) (qA r0 (cat (l:=hostT ak aq an) (m:=[58]) r0 r0 (by have haf:=addrOk_fit hok; have hhl:=hostT_len hok; have hil:=Lib.itoa_length_le apt (by omega) (by omega); simp only[List.length_append,List.length_cons,List.length_nil]; omega)) ?_))))))
 refine qA r0 (fa 3 fo43_3 r0) (qB r0 (fun hsq=>lD (I apt) hsq 0 r0 one3) (qc (Str (Lib.itoa apt)) trivial r0 (fun wq hsq=>(stItoa (n:=apt) (w:=_) (hn:=(by(have haf:=addrOk_fit hok; have hhl:=hostT_len hok; have hil:=Lib.itoa_length_le apt (by omega) (by omega); first | omega | assumption | (simp; done) | (simp; omega)))) (hGp:=(hGp.up0 hsq))).mono (fun v w' h=>⟨h.1,by simpa using hsq.call0 h.2⟩)) (qA r0 (cat (l:=(hostT ak aq an)++[58]) (m:=Lib.itoa apt) r0 r0 (by have haf:=addrOk_fit hok; have hhl:=hostT_len hok; have hil:=Lib.itoa_length_le apt (by omega) (by omega); simp only[List.length_append,List.length_cons,List.length_nil]; omega)) (qA r0 (asg (v:=Str (((hostT ak aq an)++[58])++(Lib.itoa apt))) r0) (qn (fun w2 hs2=>?_))))))
 refine nN (rt (fT (Str (((hostT ak aq an)++[58])++(Lib.itoa apt))) r0 ?_))
 have e1:((hostT ak aq an)++[58])++(Lib.itoa apt)=hostT ak aq an++[58]++Lib.itoa apt:=by rfl
 exact⟨(congrArg (Str) e1),(hs2.pk [] r0)⟩
theorem iAddressTextQ (ak:Int) {Aaq:Option Addr} {caq:Nat} (aq:List Int) (an:List UInt8) (apt:Int) (w:World) (haq:Sl w [] 1 Aaq aq.length caq (aq.map I)) (han_n:an.length≤1099511627776) (hGp:VarP Tryz.prog w [] "internal/strconv.uint64pow10" isPow):Does Tryz.prog 26 [.agg #[I ak,.slice Aaq aq.length caq,Str an,I apt]] w (fun v w'=>v=Str (addrT ak aq an apt)∧SH w w' [] []):=by
 refine fE (N:=8) Tryz.func26 r0 (by kernel_rfl) r0 ?_
 have hs0:=SH.refl w []
 have haq_m:aq.length≤9223372036854775807:=Nat.le_trans haq.cap haq.capMax
 refine sr (bx (v:=.agg #[I ak,(Z8 Aaq aq caq),Str an,I apt]) (cs:=[I ak,(Z8 Aaq aq caq),Str an,I apt]) hs0 r0 r0 trivial r0 (fun b1 w1 hs1=>?_))
 refine tA (Str []) r0 (nn (sq (sr (qt r0 (lG [I ak,(Z8 Aaq aq caq),Str an,I apt] hs1 0 r0 ag43) (cL r0 (iAddressValid (ak:=ak) (Aaq:=Aaq) (caq:=caq) (aq:=aq) (an:=an) (apt:=apt) (w:=_) (haq:=(haq.up0 hs1)) (han_n:=(by omega))) ?_)))))
 rintro _ w2 ⟨rfl,hs2⟩
 replace hs2:=hs1.call0 hs2
 refine qt r0 (nt (b:=addrOk ak aq an apt) r0) (nn ?_)
 refine cd (b:=!(addrOk ak aq an apt)) r0 (fun h1=>?_) (fun h1=>?_)
 ·have h2:(addrOk ak aq an apt)=false:=by simpa using h1
  refine sr (tA (Str []) r0 (nn (rt (tR ?_))))
  refine fT (Str []) r0 ?_
  have e1:[]=addrT ak aq an apt:=by simp[addrT,h2]
  exact⟨(congrArg (Str) e1),(hs2.pk [] r0)⟩
 ·have h3:(addrOk ak aq an apt)=true:=by simpa using h1
  refine sk (nN (sr (qt r0 (lG [I ak,(Z8 Aaq aq caq),Str an,I apt] hs2 0 r0 ag43) (cL r0 (iAddressText (ak:=ak) (Aaq:=Aaq) (caq:=caq) (aq:=aq) (an:=an) (apt:=apt) (w:=_) (haq:=(haq.up0 hs2)) (han_n:=(by omega)) (hok:=(by omega)) (hGp:=(hGp.up0 hs2))) ?_))))
  rintro _ w3 ⟨rfl,hs3⟩
  replace hs3:=hs2.call0 hs3
  refine tA (Str (hostT ak aq an++[58]++Lib.itoa apt)) r0 (nn (rt (fT (Str (hostT ak aq an++[58]++Lib.itoa apt)) r0 ?_)))
  have e2:hostT ak aq an++[58]++Lib.itoa apt=addrT ak aq an apt:=by simp[addrT,h3]
  exact⟨(congrArg (Str) e2),(hs3.pk [] r0)⟩
theorem slEqual {Axs:Option Addr} {cxs:Nat} (xs:List Int) {Abs:Option Addr} {cbs:Nat} (bs:List Int) (w:World) (hxs:Sl w [] 1 Axs xs.length cxs (xs.map I)) (hbs:Sl w [] 1 Abs bs.length cbs (bs.map I)):Does Tryz.prog 152 [.slice Axs xs.length cxs,.slice Abs bs.length cbs] w (fun v w'=>v=.bool (decide (xs=bs))∧SH w w' [] []):=by
 refine fE (N:=26) Tryz.func152 r0 (by kernel_rfl) r0 ?_
 have hs0:=SH.refl w []
 have hxs_m:xs.length≤9223372036854775807:=Nat.le_trans hxs.cap hxs.capMax
 have hbs_m:bs.length≤9223372036854775807:=Nat.le_trans hbs.cap hbs.capMax
 refine sr (tA (.bool false) r0 (nn (sq (sr ?_))))
 refine tm (Z4 Axs xs cxs) r0 (qt r0 (lnA (n:=xs.length) sl22 r0) (tm (Z4 Abs bs cbs) r0 (qt r0 (lnA (n:=bs.length) sl22 r0) (qt r0 (nei (k:=.i64) (a:=(xs.length:Int)) (b:=(bs.length:Int)) r0 r0) (nn ?_)))))
 refine cdd (p:=(xs.length:Int)≠(bs.length:Int)) r0 (fun h1=>?_) (fun h1=>?_)
 ·refine sr (tA (.bool false) r0 (nn (rt (tR ?_))))
  refine fT (.bool false) r0 ?_
  have e1:false=(decide (xs=bs)):=by simp; intro h; subst h; exact h1 r0
  exact⟨(congrArg (Value.bool) e1),hs0⟩
 ·refine sk (nN (sq (sr (tm (Z4 Axs xs cxs) r0 (qt r0 (lnA (n:=xs.length) sl22 r0) (tm (I 0) r0 ?_))))))
  refine nn (bl (lp (σ:=Nat) (fun(k:Nat) f w'=>Hz f [(0,.slice Axs xs.length cxs),(1,.slice Abs bs.length cbs),(12,I (xs.length:Int)),(13,I (k:Int))]∧(xs.length=bs.length)∧(k≤xs.length)∧(xs.take k=bs.take k)∧SH w w' [] []) (fun k=>xs.length-k) 0 ⟨(zR r0),(by omega),(by simp),(by simp),hs0⟩ ?_))
  rintro k f w1 ⟨⟨g1,rfl⟩,hl,hk,ha,hs1⟩
  refine sr (qt r0 (lss (k:=.i64) (a:=(k:Int)) (b:=(xs.length:Int)) r0 r0) (nn (sq ?_)))
  refine cdd (p:=(k:Int)<(xs.length:Int)) r0 (fun h2=>?_) (fun h2=>?_)
  ·refine sk (nN (sq (bl (sr (tm (I (k:Int)) r0 (tA (I (k:Int)) r0 ?_))))))
   refine nn (sq (rq (fun w'=>SH w w' [] []) mixed (by kernel_rfl) hs1.drew (qA r0 (mv (v:=.slice Axs xs.length cxs) r0) (qA r0 (mv (v:=I (k:Int)) r0) (ixq1 k sl22 r0 r0 hxs (by omega) (getm I 0 (by omega)) trivial r0 (fun a1 ha1=>?_))))))
   refine qB r0 (fun hsq=>lda (v:=I (xs.getD k 0)) hsq ha1 (fun _ h=>h) r0 r0 one3) (qA r0 (mv (v:=.slice Abs bs.length cbs) r0) (qA r0 (mv (v:=I (k:Int)) r0) (ixq1 k sl22 r0 r0 hbs (by omega) (getm I 0 (by omega)) trivial r0 (fun a2 ha2=>?_))))
   refine qB r0 (fun hsq=>lda (v:=I (bs.getD k 0)) hsq ha2 (fun _ h=>h) r0 r0 one3) (qA r0 (nei (k:=.i64) (a:=xs.getD k 0) (b:=bs.getD k 0) r0 r0) (qn (fun w2 hs2=>?_)))
   refine nN ?_
   refine cdd (p:=(xs.getD k 0)≠(bs.getD k 0)) r0 (fun h3=>?_) (fun h3=>?_)
   ·refine sr (tA (.bool false) r0 (nn ?_))
    refine rt (bR (tR (tR (bR (tR ?_)))))
    refine fT (.bool false) r0 ?_
    have e2:false=(decide (xs=bs)):=by simp; intro h; subst h; exact h3 r0
    exact⟨(congrArg (Value.bool) e2),hs2⟩
   ·refine sk (bN (nN (rg (qt r0 (add (a:=(k:Int)) (b:=1) r0 r0 (by exact⟨by omega,by omega⟩)) (tm (I ((k:Int)+1)) r0 (nn ?_))))))
    refine⟨(k+1),⟨(zR r0),(hl),(by omega),(take_succ_eq (by omega) (by omega) ha (by simpa using h3)),hs2⟩,?_⟩
    omega
  ·refine ex (tE (tE (bE ?_)))
   refine nN (sr (tA (.bool true) r0 (nn (rt (fT (.bool true) r0 ?_)))))
   have e3:true=(decide (xs=bs)):=by simp; exact take_all_eq hl (by omega) ha
   exact⟨(congrArg (Value.bool) e3),hs1⟩
set_option maxHeartbeats 8000000 in
theorem sAddressText (ak:Int) {Aaq:Option Addr} {caq:Nat} (aq:List Int) (an:List UInt8) (apt:Int) (w:World) (haq:Sl w [] 1 Aaq aq.length caq (aq.map I)) (han_n:an.length≤1099511627776):Does Tryz.prog 102 [.agg #[I ak,.slice Aaq aq.length caq,Str an,I apt]] w (fun v w'=>v=Str (addrT ak aq an apt)∧SH w w' [] []):=by
 refine fE (N:=13) Tryz.func102 r0 (by kernel_rfl) r0 ?_
 have hs0:=SH.refl w []
 have haq_m:aq.length≤9223372036854775807:=Nat.le_trans haq.cap haq.capMax
 refine sr (bx (v:=.agg #[I ak,(Z8 Aaq aq caq),Str an,I apt]) (cs:=[I ak,(Z8 Aaq aq caq),Str an,I apt]) hs0 r0 r0 trivial r0 (fun b1 w1 hs1=>?_))
 refine tA (Str []) r0 (nn (sq (sr (qt r0 (lG [I ak,(Z8 Aaq aq caq),Str an,I apt] hs1 0 r0 ag43) (cL r0 (sAddressValid (ak:=ak) (Aaq:=Aaq) (caq:=caq) (aq:=aq) (an:=an) (apt:=apt) (w:=_) (haq:=(haq.up0 hs1)) (han_n:=(by omega))) ?_)))))
 rintro _ w2 ⟨rfl,hs2⟩
 replace hs2:=hs1.call0 hs2
 refine qt r0 (nt (b:=addrOk ak aq an apt) r0) (nn ?_)
 refine cd (b:=!(addrOk ak aq an apt)) r0 (fun h1=>?_) (fun h1=>?_)
 ·have h2:(addrOk ak aq an apt)=false:=by simpa using h1
  refine sr (tA (Str []) r0 (nn (rt (tR ?_))))
  refine fT (Str []) r0 ?_
  have e1:[]=addrT ak aq an apt:=by simp[addrT,h2]
  exact⟨(congrArg (Str) e1),(hs2.pk [] r0)⟩
 ·have h3:(addrOk ak aq an apt)=true:=by simpa using h1
  refine sk (nN (sq (rq (fun w'=>SH w w' [] [.blk b1 43 [I ak,(Z8 Aaq aq caq),Str an,I apt]]) mixed (by kernel_rfl) hs2.drew (qB r0 (fun hsq=>lG [I ak,(Z8 Aaq aq caq),Str an,I apt] hsq 0 r0 ag43) (qc (Str (hostT ak aq an)) trivial r0 (fun wq hsq=>(sL3Host (ak:=ak) (Aaq:=Aaq) (caq:=caq) (aq:=aq) (an:=an) (apt:=apt) (w:=_) (haq:=(haq.up0 hsq)) (han_n:=(by omega)) (hok:=(by omega))).mono (fun v w' h=>⟨h.1,by simpa using hsq.call0 h.2⟩)) (qA r0 (cat (l:=hostT ak aq an) (m:=[58]) r0 r0 (by have haf:=addrOk_fit (by assumption:addrOk ak aq an apt=true); have hhl:=hostT_len (by assumption:addrOk ak aq an apt=true); have hil:=Lib.itoa_length_le apt (by omega) (by omega); simp only[List.length_append,List.length_cons,List.length_nil]; omega)) (qA r0 (fa 3 fo43_3 r0) ?_)))))))
  refine qB r0 (fun hsq=>lD (I apt) hsq 0 r0 one3) (qc (Str (Lib.itoa apt)) trivial r0 (fun wq hsq=>(l6Dec (n:=apt) (w:=_) (hn:=(by have haf:=addrOk_fit (by assumption:addrOk ak aq an apt=true); omega))).mono (fun v w' h=>⟨h.1,by simpa using hsq.call0 h.2⟩)) (qA r0 (cat (l:=(hostT ak aq an)++[58]) (m:=Lib.itoa apt) r0 r0 (by have haf:=addrOk_fit (by assumption:addrOk ak aq an apt=true); have hhl:=hostT_len (by assumption:addrOk ak aq an apt=true); have hil:=Lib.itoa_length_le apt (by omega) (by omega); simp only[List.length_append,List.length_cons,List.length_nil]; omega)) (qA r0 (asg (v:=Str (((hostT ak aq an)++[58])++(Lib.itoa apt))) r0) (qn (fun w3 hs3=>?_)))))
  refine nN (rt (fT (Str (((hostT ak aq an)++[58])++(Lib.itoa apt))) r0 ?_))
  have e2:((hostT ak aq an)++[58])++(Lib.itoa apt)=addrT ak aq an apt:=by simp[addrT,h3]
  exact⟨(congrArg (Str) e2),(hs3.pk [] r0)⟩
set_option maxHeartbeats 8000000 in
theorem iReplyBytes (c:Int) (ak:Int) {Aaq:Option Addr} {caq:Nat} (aq:List Int) (an:List UInt8) (apt:Int) (w:World) (haq:Sl w [] 1 Aaq aq.length caq (aq.map I)) (han_n:an.length≤1099511627776):Does Tryz.prog 110 [I c,.agg #[I ak,.slice Aaq aq.length caq,Str an,I apt]] w (fun v w'=>∃ Ar:Option Addr,∃ cr:Nat,v=.tuple #[.slice Ar ((replyP c ak aq an apt).1).length cr,.bool ((replyP c ak aq an apt).2)]∧SH w w' [] [.own Ar (((replyP c ak aq an apt).1).length) cr 3 1 (((replyP c ak aq an apt).1).map I)]):=by
 refine fE (N:=19) Tryz.func110 r0 (by kernel_rfl) r0 ?_
 have hs0:=SH.refl w []
 have haq_m:aq.length≤9223372036854775807:=Nat.le_trans haq.cap haq.capMax
 refine sr (bx (v:=.agg #[I ak,(Z8 Aaq aq caq),Str an,I apt]) (cs:=[I ak,(Z8 Aaq aq caq),Str an,I apt]) hs0 r0 r0 trivial r0 (fun b1 w1 hs1=>?_))
 refine tA ns r0 (tA (.bool false) r0 (nn (sq (sr (tm (I c) r0 ?_)))))
 refine cL r0 (iWithin (x:=c) (lo:=0) (hi:=8) (w:=_)) ?_
 rintro _ w2 ⟨rfl,hs2⟩
 replace hs2:=hs1.call0 hs2
 refine qt r0 (nd (p:=0≤c∧c≤8) r0) (tm (.bool (decide (¬ (0≤c∧c≤8)))) r0 ?_)
 refine spd (p:=¬ (0≤c∧c≤8)) 9 r0 (fun h1=>?_) (fun h1=>?_)
 ·refine gt5 r0 (gt5 r0 (gt5 r0 (qt r0 (pt (v:=.bool true) r0 r0) (nn (cdt r0 (sq ?_))))))
  refine rg (tA ns r0 (tA (.bool false) r0 (nn (rt (tR ?_)))))
  refine fret (v:=.tuple #[ns,.bool false]) (.tmp (.tmp .nil)) r0 ?_
  have hs3:=hs2.nl [.own none (([]:List Int).length) 0 3 1 (([]:List Int).map I)] r0
  have e1:replyP c ak aq an apt=(([]:List Int),false):=by simp[replyP,h1]
  have e2:=pj1 e1
  have e3:=congrArg List.length e2
  have e4:=pj2 e1
  exact⟨none,0,(tup2 (slv r0 e3 r0) (congrArg (Value.bool) e4)),((hs3.pq [1] r0).cast (lc (own_eq (g:=I) r0 e3 r0 e2) r0))⟩
 ·refine q ⟨_,rfl,rfl⟩ r0 r0 (lG [I ak,(Z8 Aaq aq caq),Str an,I apt] hs2 0 r0 ag43) (cl ⟨_,rfl,rfl⟩ r0 (iAddressValid (ak:=ak) (Aaq:=Aaq) (caq:=caq) (aq:=aq) (an:=an) (apt:=apt) (w:=_) (haq:=(haq.up0 hs2)) (han_n:=(by omega))) ?_)
  rintro _ w3 ⟨rfl,hs4⟩
  replace hs4:=hs2.call0 hs4
  refine q ⟨_,rfl,rfl⟩ r0 r0 (nt (b:=addrOk ak aq an apt) r0) (qt r0 (pf (v:=.bool (!(addrOk ak aq an apt))) r0 r0) (nn ?_))
  refine cd (b:=!(addrOk ak aq an apt)) r0 (fun h2=>?_) (fun h2=>?_)
  ·have h3:(addrOk ak aq an apt)=false:=by simpa using h2
   refine sr (tA ns r0 (tA (.bool false) r0 (nn (rt (tR ?_)))))
   refine fret (v:=.tuple #[ns,.bool false]) (.tmp (.tmp .nil)) r0 ?_
   have hs5:=hs4.nl [.own none (([]:List Int).length) 0 3 1 (([]:List Int).map I)] r0
   have e5:replyP c ak aq an apt=(([]:List Int),false):=by simp[replyP,h1,h3]
   have e6:=pj1 e5
   have e7:=congrArg List.length e6
   have e8:=pj2 e5
   exact⟨none,0,(tup2 (slv r0 e7 r0) (congrArg (Value.bool) e8)),((hs5.pq [1] r0).cast (lc (own_eq (g:=I) r0 e7 r0 e6) r0))⟩
  ·have h4:(addrOk ak aq an apt)=true:=by simpa using h2
   refine sk (nN (sr (tm (I c) r0 (bsk hs4 sl22 [I 5,I c,I 0] [I 5,I c,I 0] trivial r0 (fun b2 w4 hs6=>?_)))))
   refine qt r0 (lG [I ak,(Z8 Aaq aq caq),Str an,I apt] hs6 0 r0 ag43) (cL r0 (iAddressBytes (ak:=ak) (Aaq:=Aaq) (caq:=caq) (aq:=aq) (an:=an) (apt:=apt) (w:=_) (haq:=(haq.up0 hs6)) (han_n:=(by omega)) (hok:=(by omega))) ?_)
   rintro _ w5 ⟨A1,c1,rfl,hs7⟩
   replace hs7:=hs6.call0 hs7
   refine apm (g:=I) (ys:=([5,c,0]:List Int)) (zs:=addrB ak aq an apt) hs7 1 r0 sl22 r0 r0 r0 (hs7.sl0 2 r0) (fun _=>rfl) (by unfold maxLen; have hbl:=addrB_len (by assumption:addrOk ak aq an apt=true); simp only[List.length_append,List.length_cons,List.length_nil]; omega) (by have hbl:=addrB_len (by assumption:addrOk ak aq an apt=true); simp only[List.length_append,List.length_cons,List.length_nil]; omega) trivial r0 (fun A2 c2 w6 hs8=>?_)
   refine tA (.slice A2 ((([5,c,0]:List Int)++(addrB ak aq an apt)).length) c2) r0 (tA (.bool true) r0 (nn (rt (fret (v:=.tuple #[.slice A2 ((([5,c,0]:List Int)++(addrB ak aq an apt)).length) c2,.bool true]) (.tmp (.tmp .nil)) r0 ?_))))
   have e9:replyP c ak aq an apt=(([5,c,0]:List Int)++(addrB ak aq an apt),true):=by simp[replyP,h1,h4]
   have e10:=pj1 e9
   have e11:=congrArg List.length e10
   have e12:=pj2 e9
   exact⟨A2,c2,(tup2 (slv r0 e11 r0) (congrArg (Value.bool) e12)),((hs8.pq [2] r0).cast (lc (own_eq (g:=I) r0 e11 r0 e10) r0))⟩
set_option maxHeartbeats 8000000 in
theorem sReplyBytes (c:Int) (ak:Int) {Aaq:Option Addr} {caq:Nat} (aq:List Int) (an:List UInt8) (apt:Int) (w:World) (haq:Sl w [] 1 Aaq aq.length caq (aq.map I)) (han_n:an.length≤1099511627776):Does Tryz.prog 101 [I c,.agg #[I ak,.slice Aaq aq.length caq,Str an,I apt]] w (fun v w'=>∃ Ar:Option Addr,∃ cr:Nat,v=.tuple #[.slice Ar ((replyP c ak aq an apt).1).length cr,.bool ((replyP c ak aq an apt).2)]∧SH w w' [] [.own Ar (((replyP c ak aq an apt).1).length) cr 3 1 (((replyP c ak aq an apt).1).map I)]):=by
 refine fE (N:=18) Tryz.func101 r0 (by kernel_rfl) r0 ?_
 have hs0:=SH.refl w []
 have haq_m:aq.length≤9223372036854775807:=Nat.le_trans haq.cap haq.capMax
 refine sr (bx (v:=.agg #[I ak,(Z8 Aaq aq caq),Str an,I apt]) (cs:=[I ak,(Z8 Aaq aq caq),Str an,I apt]) hs0 r0 r0 trivial r0 (fun b1 w1 hs1=>?_))
 refine tA ns r0 (tA (.bool false) r0 (nn (sq (sr (tm (I c) r0 ?_)))))
 refine cL r0 (sIn (x:=c) (lo:=0) (hi:=8) (w:=_)) ?_
 rintro _ w2 ⟨rfl,hs2⟩
 replace hs2:=hs1.call0 hs2
 refine qt r0 (nd (p:=0≤c∧c≤8) r0) (tm (.bool (decide (¬ (0≤c∧c≤8)))) r0 ?_)
 refine spd (p:=¬ (0≤c∧c≤8)) 9 r0 (fun h1=>?_) (fun h1=>?_)
 ·refine gt5 r0 (gt5 r0 (gt5 r0 (qt r0 (pt (v:=.bool true) r0 r0) (nn (cdt r0 (sq ?_))))))
  refine rg (bsk hs2 sl22 [] [] trivial r0 (fun b2 w3 hs3=>?_))
  refine tA (sb b2 (([]:List Int).length) 0) r0 (tA (.bool false) r0 (nn (rt (tR ?_))))
  refine fret (v:=.tuple #[sb b2 (([]:List Int).length) 0,.bool false]) (.tmp (.tmp .nil)) r0 ?_
  have e1:replyP c ak aq an apt=(([]:List Int),false):=by simp[replyP,h1]
  have e2:=pj1 e1
  have e3:=congrArg List.length e2
  have e4:=pj2 e1
  exact⟨(Z2 b2),0,(tup2 (slv r0 e3 r0) (congrArg (Value.bool) e4)),((hs3.pq [1] r0).cast (lc (own_eq (g:=I) r0 e3 r0 e2) r0))⟩
 ·refine q ⟨_,rfl,rfl⟩ r0 r0 (lG [I ak,(Z8 Aaq aq caq),Str an,I apt] hs2 0 r0 ag43) (cl ⟨_,rfl,rfl⟩ r0 (sAddressValid (ak:=ak) (Aaq:=Aaq) (caq:=caq) (aq:=aq) (an:=an) (apt:=apt) (w:=_) (haq:=(haq.up0 hs2)) (han_n:=(by omega))) ?_)
  rintro _ w4 ⟨rfl,hs4⟩
  replace hs4:=hs2.call0 hs4
  refine q ⟨_,rfl,rfl⟩ r0 r0 (nt (b:=addrOk ak aq an apt) r0) (qt r0 (pf (v:=.bool (!(addrOk ak aq an apt))) r0 r0) (nn ?_))
  refine cd (b:=!(addrOk ak aq an apt)) r0 (fun h2=>?_) (fun h2=>?_)
  ·have h3:(addrOk ak aq an apt)=false:=by simpa using h2
   refine sr (bsk hs4 sl22 [] [] trivial r0 (fun b3 w5 hs5=>?_))
   refine tA (sb b3 (([]:List Int).length) 0) r0 (tA (.bool false) r0 (nn (rt (tR ?_))))
   refine fret (v:=.tuple #[sb b3 (([]:List Int).length) 0,.bool false]) (.tmp (.tmp .nil)) r0 ?_
   have e5:replyP c ak aq an apt=(([]:List Int),false):=by simp[replyP,h1,h3]
   have e6:=pj1 e5
   have e7:=congrArg List.length e6
   have e8:=pj2 e5
   exact⟨(Z2 b3),0,(tup2 (slv r0 e7 r0) (congrArg (Value.bool) e8)),((hs5.pq [1] r0).cast (lc (own_eq (g:=I) r0 e7 r0 e6) r0))⟩
  ·have h4:(addrOk ak aq an apt)=true:=by simpa using h2
   refine sk (nN (sr (tm (I c) r0 (qt r0 (lG [I ak,(Z8 Aaq aq caq),Str an,I apt] hs4 0 r0 ag43) (cL r0 (sL12Bytes (n:=c) (ak:=ak) (Aaq:=Aaq) (caq:=caq) (aq:=aq) (an:=an) (apt:=apt) (w:=_) (haq:=(haq.up0 hs4)) (han_n:=(by omega)) (hok:=(by omega))) ?_)))))
   rintro _ w6 ⟨A1,c1,rfl,hs6⟩
   replace hs6:=hs4.call0 hs6
   refine tA (.slice A1 (([5,c,0]++addrB ak aq an apt).length) c1) r0 (tA (.bool true) r0 (nn (rt (fret (v:=.tuple #[.slice A1 (([5,c,0]++addrB ak aq an apt).length) c1,.bool true]) (.tmp (.tmp .nil)) r0 ?_))))
   have e9:replyP c ak aq an apt=([5,c,0]++addrB ak aq an apt,true):=by simp[replyP,h1,h4]
   have e10:=pj1 e9
   have e11:=congrArg List.length e10
   have e12:=pj2 e9
   exact⟨A1,c1,(tup2 (slv r0 e11 r0) (congrArg (Value.bool) e12)),((hs6.pq [1] r0).cast (lc (own_eq (g:=I) r0 e11 r0 e10) r0))⟩
set_option maxHeartbeats 8000000 in
theorem l92Request {rb:Nat} {Ab:Option Addr} {cb:Nat} {bs:List UInt8} {p:Nat} (w:World) (hr:w.heap[rb]?=some (.cells [.slice Ab bs.length cb,.int .i64 (p:Int)].toArray 124 (0,0))) (hb:Sl w [rb] 1 Ab bs.length cb (bs.map U)) (hbn:bs.length≤2000) (hp:p≤68719476736):Does Tryz.prog 115 [pB rb] w (fun v w'=>∃ Aqr:Option Addr,∃ cqr:Nat,∃ cm:Int,∃ ak:Int,∃ aq:List Int,∃ an:List UInt8,∃ apt:Int,∃ q:Nat,v=.agg #[.int .i64 cm,.int .i64 ak,.slice Aqr aq.length cqr,Str an,.int .i64 apt]∧(aq.length≤4)∧(an.length≤21)∧(q≤p+60)∧SH w w' [rb] [.blk rb 124 [.slice Ab bs.length cb,I (q:Int)],.own Aqr aq.length cqr 3 1 (aq.map I)]):=by
 refine fE (N:=24) Tryz.func115 r0 (by kernel_rfl) r0 ?_
 have hs0:SH w w [rb] [(Z3 rb Ab bs cb p)]:=SH.entry1 hr
 refine sr (al (v:=.agg #[I 0,I 0,ns,Str [],I 0]) (cs:=[I 0,I 0,ns,Str [],I 0]) hs0 tz45 r0 trivial r0 (fun b1 w1 hs1=>?_))
 refine nx (tm (pB rb) r0 (cL r0 (pick (rb:=rb) (Ab:=Ab) (cb:=cb) (bs:=bs) (p:=p) (n:=3) (w:=_) (hr:=(blk_heap hs1 0 r0)) (hb:=(hb.up hs1 (fun _ h=>h) (fun _ h=>.inl h))) (hbn:=(by assumption)) (hp:=(by omega))) ?_))
 rintro _ w2 ⟨r1,q1,rfl,p1,p2,hs2⟩
 replace hs2:=hs1.callM 0 r0 hs2 m_1
 refine qt r0 (add (a:=1) (b:=r1) r0 r0 (by exact⟨by omega,by omega⟩)) (tm (pB rb) r0 (cL r0 (l91Address (rb:=rb) (Ab:=Ab) (cb:=cb) (bs:=bs) (p:=q1) (w:=_) (hr:=(blk_heap hs2 1 r0)) (hb:=(hb.up hs2 (fun _ h=>h) (fun _ h=>.inl h))) (hbn:=(by assumption)) (hp:=(by omega))) ?_))
 rintro _ w3 ⟨Aq1,cq1,ak1,aq1,an1,apt1,q2,rfl,p3,p4,p5,hs3⟩
 replace hs3:=hs2.callM 1 r0 hs3 m_1
 refine qt r0 (bdv (v:=.agg #[I (1+r1),I ak1,(Z8 Aq1 aq1 cq1),Str an1,I apt1]) [(0,I (1+r1)),(1,.agg #[I ak1,(Z8 Aq1 aq1 cq1),Str an1,I apt1])] r0 (fun _=>by kernel_rfl)) (al (v:=.agg #[I 0,I 0,ns,Str [],I 0]) (cs:=[I 0,I 0,ns,Str [],I 0]) hs3 tz45 r0 trivial r0 (fun b2 w4 hs4=>?_))
 refine sG [I (1+r1),I ak1,(Z8 Aq1 aq1 cq1),Str an1,I apt1] hs4 3 r0 ag45 (fun w5 hs5=>?_)
 refine nn (sq (sr (tm (pB rb) r0 (cL r0 (pick (rb:=rb) (Ab:=Ab) (cb:=cb) (bs:=bs) (p:=q2) (n:=2) (w:=_) (hr:=(blk_heap hs5 1 r0)) (hb:=(hb.up hs5 (fun _ h=>h) (fun _ h=>.inl h))) (hbn:=(by assumption)) (hp:=(by omega))) ?_))))
 rintro _ w6 ⟨r2,q3,rfl,p6,p7,hs6⟩
 replace hs6:=hs5.callM 1 r0 hs6 m_1
 refine qt r0 (eqi (k:=.i64) (a:=r2) (b:=0) r0 r0) (nn ?_)
 refine cdd (p:=r2=0) r0 (fun h1=>?_) (fun h1=>?_)
 ·refine rg (qt r0 (fa 0 fo45_0 r0) (sT (I 1) hs6 2 r0 one3 (fun w7 hs7=>?_)))
  refine nn (sq (sr (tm (pB rb) r0 (cL r0 (pick (rb:=rb) (Ab:=Ab) (cb:=cb) (bs:=bs) (p:=q3) (n:=30) (w:=_) (hr:=(blk_heap hs7 2 r0)) (hb:=(hb.up hs7 (fun _ h=>h) (fun _ h=>.inl h))) (hbn:=(by assumption)) (hp:=(by omega))) ?_))))
  rintro _ w8 ⟨r3,q4,rfl,p8,p9,hs8⟩
  replace hs8:=hs7.callM 2 r0 hs8 m_1
  refine qt r0 (eqi (k:=.i64) (a:=r3) (b:=0) r0 r0) (nn ?_)
  refine cdd (p:=r3=0) r0 (fun h2=>?_) (fun h2=>?_)
  ·refine rg (bsk hs8 sl22 [I 0,I 4] [I 0,I 4] trivial r0 (fun b3 w9 (hs9:SH w w9 [rb] [.blk b1 45 [I 0,I 0,ns,Str [],I 0],(Z7 Aq1 aq1 cq1),.blk b2 45 [I 1,I ak1,(Z8 Aq1 aq1 cq1),Str an1,I apt1],(Z3 rb Ab bs cb q4),oI b3 ([0,4]:List Int) 2 3])=>?_))
   refine tm (pB rb) r0 (cL r0 (pick (rb:=rb) (Ab:=Ab) (cb:=cb) (bs:=bs) (p:=q4) (n:=2) (w:=_) (hr:=(blk_heap hs9 3 r0)) (hb:=(hb.up hs9 (fun _ h=>h) (fun _ h=>.inl h))) (hbn:=(by assumption)) (hp:=(by omega))) ?_)
   rintro _ w10 ⟨r4,q5,rfl,p10,p11,hs10⟩
   replace hs10:=hs9.callM 3 r0 hs10 m_1
   refine qt r0 (ixo r4.toNat sl22 r0 (ieq (x:=r4) (by omega)) (by omega)) (qt r0 (ldo1n (g:=I) (ys:=([0,4]:List Int)) (o:=r4.toNat) 0 hs10 3 r0 r0 (by(simp; omega)) one3) (qt r0 (fa 0 fo45_0 r0) (sT (I (([0,4]:List Int).getD r4.toNat 0)) hs10 2 r0 one3 (fun w11 hs11=>?_))))
   refine nx (qt r0 (lG [I (([0,4]:List Int).getD r4.toNat 0),I ak1,(Z8 Aq1 aq1 cq1),Str an1,I apt1] hs11 4 r0 ag45) (sG [I (([0,4]:List Int).getD r4.toNat 0),I ak1,(Z8 Aq1 aq1 cq1),Str an1,I apt1] hs11 0 r0 ag45 (fun w12 (hs12:SH w w12 [rb] [(Z7 Aq1 aq1 cq1),oI b3 ([0,4]:List Int) 2 3,(Z3 rb Ab bs cb q5),.blk b2 45 [I (([0,4]:List Int).getD r4.toNat 0),I ak1,(Z8 Aq1 aq1 cq1),Str an1,I apt1],.blk b1 45 [I (([0,4]:List Int).getD r4.toNat 0),I ak1,(Z8 Aq1 aq1 cq1),Str an1,I apt1]])=>?_)))
   refine nn ?_
   have hs13:=hs12.pq [0,2,4] r0
   refine rt (fret (v:=.agg #[I (([0,4]:List Int).getD r4.toNat 0),I ak1,(Z8 Aq1 aq1 cq1),Str an1,I apt1]) (resC hs13 2 r0 r0 ag45 r0 .nil) r0 ?_)
   exact⟨Aq1,cq1,([0,4]:List Int).getD r4.toNat 0,ak1,aq1,an1,apt1,q5,rfl,(by omega),(by omega),(by omega),(hs13.pk [1,0] r0)⟩
  ·refine sk (nN (sr (qt r0 (lG [I 1,I ak1,(Z8 Aq1 aq1 cq1),Str an1,I apt1] hs8 2 r0 ag45) (sG [I 1,I ak1,(Z8 Aq1 aq1 cq1),Str an1,I apt1] hs8 0 r0 ag45 (fun w13 hs14=>?_)))))
   refine nn (rt (fret (v:=.agg #[I 1,I ak1,(Z8 Aq1 aq1 cq1),Str an1,I apt1]) (resC hs14 3 r0 r0 ag45 r0 .nil) r0 ?_))
   exact⟨Aq1,cq1,1,ak1,aq1,an1,apt1,q4,rfl,(by omega),(by omega),(by omega),(hs14.pk [2,0] r0)⟩
 ·refine sk (nN (sq (sr (tm (pB rb) r0 (cL r0 (pick (rb:=rb) (Ab:=Ab) (cb:=cb) (bs:=bs) (p:=q3) (n:=30) (w:=_) (hr:=(blk_heap hs6 3 r0)) (hb:=(hb.up hs6 (fun _ h=>h) (fun _ h=>.inl h))) (hbn:=(by assumption)) (hp:=(by omega))) ?_)))))
  rintro _ w14 ⟨r5,q6,rfl,p12,p13,hs15⟩
  replace hs15:=hs6.callM 3 r0 hs15 m_1
  refine qt r0 (eqi (k:=.i64) (a:=r5) (b:=0) r0 r0) (nn ?_)
  refine cdd (p:=r5=0) r0 (fun h3=>?_) (fun h3=>?_)
  ·refine rg (bsk hs15 sl22 [I 0,I 4] [I 0,I 4] trivial r0 (fun b4 w15 hs16=>?_))
   refine tm (pB rb) r0 (cL r0 (pick (rb:=rb) (Ab:=Ab) (cb:=cb) (bs:=bs) (p:=q6) (n:=2) (w:=_) (hr:=(blk_heap hs16 3 r0)) (hb:=(hb.up hs16 (fun _ h=>h) (fun _ h=>.inl h))) (hbn:=(by assumption)) (hp:=(by omega))) ?_)
   rintro _ w16 ⟨r6,q7,rfl,p14,p15,hs17⟩
   replace hs17:=hs16.callM 3 r0 hs17 m_1
   refine qt r0 (ixo r6.toNat sl22 r0 (ieq (x:=r6) (by omega)) (by omega)) (qt r0 (ldo1n (g:=I) (ys:=([0,4]:List Int)) (o:=r6.toNat) 0 hs17 3 r0 r0 (by(simp; omega)) one3) (qt r0 (fa 0 fo45_0 r0) (sT (I (([0,4]:List Int).getD r6.toNat 0)) hs17 2 r0 one3 (fun w17 (hs18:SH w w17 [rb] [.blk b1 45 [I 0,I 0,ns,Str [],I 0],(Z7 Aq1 aq1 cq1),oI b4 ([0,4]:List Int) 2 3,(Z3 rb Ab bs cb q7),.blk b2 45 [I (([0,4]:List Int).getD r6.toNat 0),I ak1,(Z8 Aq1 aq1 cq1),Str an1,I apt1]])=>?_))))
   refine nx (qt r0 (lG [I (([0,4]:List Int).getD r6.toNat 0),I ak1,(Z8 Aq1 aq1 cq1),Str an1,I apt1] hs18 4 r0 ag45) (sG [I (([0,4]:List Int).getD r6.toNat 0),I ak1,(Z8 Aq1 aq1 cq1),Str an1,I apt1] hs18 0 r0 ag45 (fun w18 hs19=>?_)))
   refine nn ?_
   have hs20:=hs19.pq [0,2,4] r0
   refine rt (fret (v:=.agg #[I (([0,4]:List Int).getD r6.toNat 0),I ak1,(Z8 Aq1 aq1 cq1),Str an1,I apt1]) (resC hs20 2 r0 r0 ag45 r0 .nil) r0 ?_)
   exact⟨Aq1,cq1,([0,4]:List Int).getD r6.toNat 0,ak1,aq1,an1,apt1,q7,rfl,(by omega),(by omega),(by omega),(hs20.pk [1,0] r0)⟩
  ·refine sk (nN (sr (qt r0 (lG [I (1+r1),I ak1,(Z8 Aq1 aq1 cq1),Str an1,I apt1] hs15 2 r0 ag45) (sG [I (1+r1),I ak1,(Z8 Aq1 aq1 cq1),Str an1,I apt1] hs15 0 r0 ag45 (fun w19 (hs21:SH w w19 [rb] [(Z7 Aq1 aq1 cq1),.blk b2 45 [I (1+r1),I ak1,(Z8 Aq1 aq1 cq1),Str an1,I apt1],(Z3 rb Ab bs cb q6),.blk b1 45 [I (1+r1),I ak1,(Z8 Aq1 aq1 cq1),Str an1,I apt1]])=>?_)))))
   refine nn (rt (fret (v:=.agg #[I (1+r1),I ak1,(Z8 Aq1 aq1 cq1),Str an1,I apt1]) (resC hs21 3 r0 r0 ag45 r0 .nil) r0 ?_))
   exact⟨Aq1,cq1,1+r1,ak1,aq1,an1,apt1,q6,rfl,(by omega),(by omega),(by omega),(hs21.pk [2,0] r0)⟩
theorem newReader {Abs:Option Addr} {cbs:Nat} (bs:List Int) (w:World) (hbs:Sl w [] 1 Abs bs.length cbs (bs.map I)):Does Tryz.prog 117 [.slice Abs bs.length cbs] w (fun v w'=>∃ gr:Nat,v=.pointer (some ⟨gr,0,none⟩)∧SH w w' [] [.blk gr 133 [.slice Abs bs.length cbs,I 0,.bool (!isBytes bs)]]):=by
 refine fE (N:=9) Tryz.func117 r0 (by kernel_rfl) r0 ?_
 have hs0:=SH.refl w []
 have hbs_m:bs.length≤9223372036854775807:=Nat.le_trans hbs.cap hbs.capMax
 refine sr (tA (.pointer none) r0 (nx (tm (Z4 Abs bs cbs) r0 ?_)))
 refine tm (Z4 Abs bs cbs) r0 (cL r0 (iBytesValid (Azs:=Abs) (czs:=cbs) (zs:=bs) (w:=_) (hzs:=(hbs.up0 hs0))) ?_)
 rintro _ w1 ⟨rfl,hs1⟩
 replace hs1:=hs0.call0 hs1
 refine qt r0 (nt (b:=isBytes bs) r0) (qt r0 (bdv (v:=.agg #[(Z8 Abs bs cbs),I 0,.bool (!(isBytes bs))]) [(0,.slice Abs bs.length cbs),(2,.bool (!(isBytes bs)))] r0 (fun _=>by kernel_rfl)) (bx (v:=.agg #[(Z8 Abs bs cbs),I 0,.bool (!(isBytes bs))]) (cs:=[(Z8 Abs bs cbs),I 0,.bool (!(isBytes bs))]) hs1 r0 r0 trivial r0 (fun b1 w2 hs2=>?_)))
 refine tA (pB b1) r0 (nn (rt (fT (pB b1) r0 ?_)))
 have e1:(!(isBytes bs))=(!isBytes bs):=by rfl
 exact⟨b1,rfl,(hs2.cast (lc (congrArg (It.blk b1 133) (lc r0 (lc r0 (lc (congrArg Value.bool e1) r0)))) r0))⟩
theorem rdTake {rb:Nat} {Ab:Option Addr} {cb:Nat} (bs:List Int) (sa:Nat) (sf:Bool) (n:Int) (w:World) (hr:w.heap[rb]?=some (.cells [.slice Ab bs.length cb,.int .i64 (sa:Int),.bool sf].toArray 133 (0,0))) (hb:Sl w [rb] 1 Ab bs.length cb (bs.map I)) (hbv:sf=false→isBytes bs=true) (hsa:sa≤bs.length) (hn:0≤n∧n≤65535):Does Tryz.prog 149 [pB rb,I n] w (fun v w'=>∃ Ar:Option Addr,∃ cr:Nat,∃ qa:Nat,∃ qf:Bool,v=.slice Ar (tkL bs (sa,sf) n.toNat).length cr∧(qa≤bs.length)∧((qf=false→isBytes bs=true))∧((qa,qf)=tkS bs (sa,sf) n.toNat)∧SH w w' [rb] [.blk rb 133 [.slice Ab bs.length cb,I (qa:Int),.bool qf],.own Ar ((tkL bs (sa,sf) n.toNat).length) cr 3 1 ((tkL bs (sa,sf) n.toNat).map I)]):=by
 refine fE (N:=52) Tryz.func149 r0 (by kernel_rfl) r0 ?_
 have hb_m:bs.length≤9223372036854775807:=Nat.le_trans hb.cap hb.capMax
 have hs0:=SH.entry1 hr
 refine sr (tA ns r0 (nn (sq (sq (rq (fun w'=>SH w w' [rb] [.blk rb 133 [(Z8 Ab bs cb),I (sa:Int),.bool sf]]) mixed (by kernel_rfl) hs0.drew ?_)))))
 refine qA r0 (mv (v:=pB rb) r0) (qA r0 (nc r0) (qA r0 (fa 2 fo133_2 r0) (qB r0 (fun hsq=>lD (.bool sf) hsq 0 r0 one4) (qA r0 (mv (v:=.bool sf) r0) ?_))))
 refine qspl (b:=sf) 9 r0 (fun h1=>?_) (fun h1=>?_)
 ·refine kt5 r0 (kt5 r0 (kt5 r0 (kt5 r0 (kt5 r0 (kt5 r0 (kt5 r0 (kt5 r0 ?_)))))))
  refine kt5 r0 (kt5 r0 (kt5 r0 (kt5 r0 (qA r0 (pt (v:=.bool true) r0 r0) (qn (fun w1 hs1=>?_))))))
  refine nN (cdt r0 (sr (tm (pB rb) r0 (tn r0 (qt r0 (fa 2 fo133_2 r0) (sT (.bool true) hs1 0 r0 one4 (fun w2 hs2=>?_)))))))
  refine nx (tm (I n) r0 (mkm (g:=I) (z:=0) (n:=n.toNat) hs2 sl22 r0 (ieq (x:=n) (by(omega))) (ieq (x:=n) (by(omega))) (by(omega)) (by unfold maxLen; (omega)) trivial r0 (fun b1 w3 hs3=>?_)))
  refine tA (sb b1 ((List.replicate n.toNat (0:Int)).length) n.toNat) r0 (nn (rt (tR ?_)))
  refine fT (sb b1 ((List.replicate n.toNat (0:Int)).length) n.toNat) r0 ?_
  have e1:List.replicate n.toNat (0:Int)=tkL bs (sa,sf) n.toNat:=by exact tkL_n1 (by assumption)
  have e2:=congrArg List.length e1
  exact⟨(Z2 b1),n.toNat,sa,true,(slv r0 e2 r0),(by assumption),(by(simp_all; done)),(by exact tkS_n1 (by assumption)),(hs3.cast (lc r0 (lc (own_eq (g:=I) r0 e2 r0 e1) r0)))⟩
 ·refine qq ⟨_,rfl,rfl⟩ r0 r0 (fun wq hsq=>mv (v:=I n) r0) (qq ⟨_,rfl,rfl⟩ r0 r0 (fun wq hsq=>mv (v:=pB rb) r0) (qq ⟨_,rfl,rfl⟩ r0 r0 (fun wq hsq=>nc r0) (qq ⟨_,rfl,rfl⟩ r0 r0 (fun wq hsq=>fa 0 fo133_0 r0) (qq ⟨_,rfl,rfl⟩ r0 r0 (fun wq hsq=>lD (Z4 Ab bs cb) hsq 0 r0 one22) (qq ⟨_,rfl,rfl⟩ r0 r0 (fun wq hsq=>lnA (n:=bs.length) sl22 r0) (qq ⟨_,rfl,rfl⟩ r0 r0 (fun wq hsq=>mv (v:=pB rb) r0) (qq ⟨_,rfl,rfl⟩ r0 r0 (fun wq hsq=>nc r0) ?_)))))))
  refine qq ⟨_,rfl,rfl⟩ r0 r0 (fun wq hsq=>fa 1 fo133_1 r0) (qq ⟨_,rfl,rfl⟩ r0 r0 (fun wq hsq=>lD (I (sa:Int)) hsq 0 r0 one3) (qq ⟨_,rfl,rfl⟩ r0 r0 (fun wq hsq=>sub (a:=(bs.length:Int)) (b:=(sa:Int)) r0 r0 (by(exact⟨by omega,by omega⟩))) (qq ⟨_,rfl,rfl⟩ r0 r0 (fun wq hsq=>gtr (k:=.i64) (a:=n) (b:=(bs.length:Int)-(sa:Int)) r0 r0) (qA r0 (pf (v:=.bool (decide (((bs.length:Int)-(sa:Int))<n))) r0 r0) (qn (fun w4 hs4=>?_))))))
  refine nN ?_
  refine cdd (p:=((bs.length:Int)-(sa:Int))<n) r0 (fun h2=>?_) (fun h2=>?_)
  ·refine sr (tm (pB rb) r0 (tn r0 (qt r0 (fa 2 fo133_2 r0) (sT (.bool true) hs4 0 r0 one4 (fun w5 hs5=>?_)))))
   refine nx (tm (I n) r0 (mkm (g:=I) (z:=0) (n:=n.toNat) hs5 sl22 r0 (ieq (x:=n) (by(omega))) (ieq (x:=n) (by(omega))) (by(omega)) (by unfold maxLen; (omega)) trivial r0 (fun b2 w6 hs6=>?_)))
   refine tA (sb b2 ((List.replicate n.toNat (0:Int)).length) n.toNat) r0 (nn (rt (tR ?_)))
   refine fT (sb b2 ((List.replicate n.toNat (0:Int)).length) n.toNat) r0 ?_
   have e3:List.replicate n.toNat (0:Int)=tkL bs (sa,sf) n.toNat:=by exact tkL_n2 (by omega)
   have e4:=congrArg List.length e3
   exact⟨(Z2 b2),n.toNat,sa,true,(slv r0 e4 r0),(by assumption),(by(simp_all; done)),(by exact tkS_n2 (by omega)),(hs6.cast (lc r0 (lc (own_eq (g:=I) r0 e4 r0 e3) r0)))⟩
  ·refine sk (nN (sr (tm (pB rb) r0 (tn r0 (qt r0 (fa 1 fo133_1 r0) (qt r0 (lD (I (sa:Int)) hs4 0 r0 one3) ?_))))))
   refine tm (I n) r0 (qt r0 (add (a:=(sa:Int)) (b:=n) r0 r0 (by(exact⟨by omega,by omega⟩))) ?_)
   have e5:(sa:Int)+n=((sa+n.toNat:Nat):Int):=by omega
   refine re 33 (v:=I ((sa+n.toNat:Nat):Int)) (congrArg (Value.int .i64) e5) (tn r0 (qt r0 (fa 1 fo133_1 r0) (sT (I ((sa+n.toNat:Nat):Int)) hs4 0 r0 one3 (fun w7 hs7=>?_))))
   refine nn (sq (ra (fun w'=>∃ L,SH w w' [rb] L∧(.blk rb 133 [(Z8 Ab bs cb),I ((sa+n.toNat:Nat):Int),.bool sf])∈L∧True) mixed ?_))
   have hs8:=hs7.drew
   refine tk (fuel:=2) (is:=[0,1,2,3,4,5,6,7,8,9,10,11,12,13,14]) (.cons r0 (.cons r0 (.cons r0 (.cons r0 (.cons r0 (.cons r0 (.cons r0 (.cons r0 (.cons r0 (.cons r0 (.cons r0 (.cons r0 (.cons r0 (.cons r0 (.cons r0 (.nil)))))))))))))))) (by kernel_rfl) (by kernel_rfl) (m1 hs8 0 r0) (yA r0 (mv (v:=pB rb) r0) (yA r0 (nc r0) (yA r0 (fa 0 fo133_0 r0) (yB r0 (fun ⟨Lq,hsq,mh0,_⟩=>lM (Z4 Ab bs cb) hsq mh0 r0 one22) (yA r0 (mv (v:=pB rb) r0) (yA r0 (nc r0) (yA r0 (fa 1 fo133_1 r0) ?_)))))))
   refine yB r0 (fun ⟨Lq,hsq,mh0,_⟩=>lM (I ((sa+n.toNat:Nat):Int)) hsq mh0 r0 one3) (yA r0 (mv (v:=I n) r0) (yA r0 (sub (a:=((sa+n.toNat:Nat):Int)) (b:=n) r0 r0 (by(exact⟨by omega,by omega⟩))) (yA r0 (mv (v:=pB rb) r0) (yA r0 (nc r0) (yA r0 (fa 1 fo133_1 r0) (yB r0 (fun ⟨Lq,hsq,mh0,_⟩=>lM (I ((sa+n.toNat:Nat):Int)) hsq mh0 r0 one3) (yA r0 (cum (zs:=bs) ((((sa+n.toNat:Nat):Int)-n).toNat) (sa+n.toNat) sl22 r0 (ieq (x:=((sa+n.toNat:Nat):Int)-n) (by(omega))) r0 (by(omega)) (by(omega)) hb.cap) ?_)))))))
   refine .nil (a1 (i:=15) (by kernel_rfl) (one_ r0 (cL r0 (slClone (Axs:=if cb=(((sa+n.toNat:Nat):Int)-n).toNat then Ab else Ab.map (·.add (((((sa+n.toNat:Nat):Int)-n).toNat)*1))) (cxs:=cb-((((sa+n.toNat:Nat):Int)-n).toNat)) (xs:=(bs.take (sa+n.toNat)).drop ((((sa+n.toNat:Nat):Int)-n).toNat)) (w:=_) (hxs:=(Sl.cutm (hb.up hs8 (fun _ h=>h) (by simp)) (by(omega)) (by(omega)))) (hxs_n:=(by((simp; omega))))) ?_)))
   rintro _ w8 ⟨A_5_15,c_5_15,rfl,hs9⟩
   replace hs9:=hs8.call0 hs9
   refine nk (m1 hs9 0 r0) ?_
   refine tk (fuel:=0) (is:=[16]) (.cons r0 (.nil)) (by kernel_rfl) (by kernel_rfl) (m1 hs9 0 r0) (yA r0 (asg (v:=.slice A_5_15 (((bs.take (sa+n.toNat)).drop ((((sa+n.toNat:Nat):Int)-n).toNat)).length) c_5_15) r0) (.nil (ad (by kernel_rfl) (nN (rt (fT (.slice A_5_15 (((bs.take (sa+n.toNat)).drop ((((sa+n.toNat:Nat):Int)-n).toNat)).length) c_5_15) r0 ?_))))))
   have e6:((bs.take (sa+n.toNat)).drop ((((sa+n.toNat:Nat):Int)-n).toNat))=tkL bs (sa,sf) n.toNat:=by exact tk_cut (by assumption) (by omega) (by omega) (by omega)
   have e7:=congrArg List.length e6
   exact⟨A_5_15,c_5_15,sa+n.toNat,sf,(slv r0 e7 r0),(by omega),(by assumption),(by exact tkS_y (by assumption) (by omega)),(hs9.cast (lc r0 (lc (own_eq (g:=I) r0 e7 r0 e6) r0)))⟩
theorem rdByte {rb:Nat} {Ab:Option Addr} {cb:Nat} (bs:List Int) (sa:Nat) (sf:Bool) (w:World) (hr:w.heap[rb]?=some (.cells [.slice Ab bs.length cb,.int .i64 (sa:Int),.bool sf].toArray 133 (0,0))) (hb:Sl w [rb] 1 Ab bs.length cb (bs.map I)) (hbv:sf=false→isBytes bs=true) (hsa:sa≤bs.length):Does Tryz.prog 119 [pB rb] w (fun v w'=>∃ qa:Nat,∃ qf:Bool,v=.int .i64 (byV bs (sa,sf))∧(qa≤bs.length)∧((qf=false→isBytes bs=true))∧((qa,qf)=tkS bs (sa,sf) 1)∧SH w w' [rb] [.blk rb 133 [.slice Ab bs.length cb,I (qa:Int),.bool qf]]):=by
 refine fE (N:=7) Tryz.func119 r0 (by kernel_rfl) r0 ?_
 have hb_m:bs.length≤9223372036854775807:=Nat.le_trans hb.cap hb.capMax
 have hs0:=SH.entry1 hr
 refine sr (tA (I 0) r0 (nx (tm (pB rb) r0 ?_)))
 refine cL r0 (rdTake (rb:=rb) (Ab:=Ab) (cb:=cb) (bs:=bs) (sa:=sa) (sf:=sf) (n:=(1:Int)) (w:=_) (hr:=(blk_heap hs0 0 r0)) (hb:=(hb.up hs0 (fun _ h=>h) (fun _ h=>.inl h))) (hbv:=(by assumption)) (hsa:=(by assumption)) (hn:=(by omega))) ?_
 rintro _ w1 ⟨A1,c1,qa1,qf1,rfl,p1,p2,p3,hs1⟩
 replace hs1:=hs0.cK [0] [] hs1 r0
 refine ixw1 0 sl22 r0 r0 (hs1.sl0 1 r0) (by(simp; done)) (getm I 0 (by(simp; done))) trivial r0 (fun a1 ha1=>?_)
 refine qt r0 (lda (v:=I ((tkL bs (sa,sf) (1:Int).toNat).getD 0 0)) (SH.refl w1 []) ha1 (fun _ h=>h) r0 r0 one3) (tA (I ((tkL bs (sa,sf) (1:Int).toNat).getD 0 0)) r0 (nn (rt (fT (I ((tkL bs (sa,sf) (1:Int).toNat).getD 0 0)) r0 ?_))))
 have e1:(tkL bs (sa,sf) (1:Int).toNat).getD 0 0=byV bs (sa,sf):=by rfl
 exact⟨qa1,qf1,(congrArg (Value.int .i64) e1),(by assumption),(by assumption),(by assumption),(hs1.pk [0] r0)⟩
theorem iNumber {Azs:Option Addr} {czs:Nat} (zs:List Int) (w:World) (hzs:Sl w [] 1 Azs zs.length czs (zs.map I)) (hz: ∀ x∈zs,0≤x∧x≤255) (hzl:zs.length≤2):Does Tryz.prog 174 [.slice Azs zs.length czs] w (fun v w'=>v=.int .i64 (ofB zs)∧SH w w' [] []):=by
 refine fE (N:=18) Tryz.func174 r0 (by kernel_rfl) r0 ?_
 have hs0:=SH.refl w []
 have hzs_m:zs.length≤9223372036854775807:=Nat.le_trans hzs.cap hzs.capMax
 refine sr (tA (I 0) r0 (nx (tA (I 0) r0 ?_)))
 refine nn (sq (sr (tm (Z4 Azs zs czs) r0 (qt r0 (lnA (n:=zs.length) sl22 r0) (tm (I 0) r0 ?_)))))
 refine nn (bl (lp (σ:=Nat) (fun(k:Nat) f w'=>Hz f [(3,I (ofB (zs.take k))),(6,.slice Azs zs.length czs),(7,I (zs.length:Int)),(8,I (k:Int))]∧(k≤zs.length)∧SH w w' [] []) (fun k=>zs.length-k) 0 ⟨(zH ⟨(show (I 0:Value)=I (ofB (zs.take 0)) from congrArg (Value.int .i64) (by rfl)),rfl,rfl,rfl,trivial⟩),(by simp),hs0⟩ ?_))
 rintro k f w1 ⟨⟨g1,rfl⟩,hk,hs1⟩
 refine sr (qt r0 (lss (k:=.i64) (a:=(k:Int)) (b:=(zs.length:Int)) r0 r0) (nn (sq ?_)))
 refine cdd (p:=(k:Int)<(zs.length:Int)) r0 (fun h1=>?_) (fun h1=>?_)
 ·refine sk (nN (sq (bl (sr (ixw1 k sl22 r0 r0 hzs (by(omega)) (getm I 0 (by(omega))) trivial r0 (fun a1 ha1=>?_))))))
  refine qt r0 (lda (v:=I (zs.getD k 0)) hs1 ha1 (fun _ h=>h) r0 r0 one3) (tA (I (zs.getD k 0)) r0 (nn (rg (tm (I (ofB (zs.take k))) r0 (qt r0 (shl8 (a:=ofB (zs.take k)) r0 r0 (by(have hob:=ofB_bd hz k hzl; have hgb:=getD_byte hz k; have hk1:k≤1:=(by omega); omega)) (by(have hob:=ofB_bd hz k hzl; have hgb:=getD_byte hz k; have hk1:k≤1:=(by omega); omega))) (tm (I (zs.getD k 0)) r0 ?_))))))
  refine qt r0 (or8 (m:=ofB (zs.take k)) (b:=zs.getD k 0) r0 r0 (by(have hob:=ofB_bd hz k hzl; have hgb:=getD_byte hz k; have hk1:k≤1:=(by omega); omega)) (by(have hob:=ofB_bd hz k hzl; have hgb:=getD_byte hz k; have hk1:k≤1:=(by omega); omega)) (by(have hob:=ofB_bd hz k hzl; have hgb:=getD_byte hz k; have hk1:k≤1:=(by omega); omega)) (by(have hob:=ofB_bd hz k hzl; have hgb:=getD_byte hz k; have hk1:k≤1:=(by omega); omega))) (tA (I ((ofB (zs.take k))*256+(zs.getD k 0))) r0 (nl (bN (nN (rg (qt r0 (add (a:=(k:Int)) (b:=1) r0 r0 (by(exact⟨by omega,by omega⟩))) (tm (I ((k:Int)+1)) r0 ?_)))))))
  refine nn ?_
  refine⟨(k+1),⟨(zH ⟨(show (I ((ofB (zs.take k))*256+(zs.getD k 0)):Value)=I (ofB (zs.take (k+1))) from congrArg (Value.int .i64) (by rw[ofB_take (by omega)]; omega)),rfl,rfl,rfl,trivial⟩),(by omega),hs1⟩,?_⟩
  omega
 ·refine ex (tE (tE (bE ?_)))
  refine nN (sr (tm (I (ofB (zs.take k))) r0 (tA (I (ofB (zs.take k))) r0 (nn (rt ?_)))))
  refine fT (I (ofB (zs.take k))) r0 ?_
  have e1:ofB (zs.take k)=ofB zs:=by rw[List.take_of_length_le (by omega)]
  exact⟨(congrArg (Value.int .i64) e1),hs1⟩
theorem rdNumber {rb:Nat} {Ab:Option Addr} {cb:Nat} (bs:List Int) (sa:Nat) (sf:Bool) (n:Int) (w:World) (hr:w.heap[rb]?=some (.cells [.slice Ab bs.length cb,.int .i64 (sa:Int),.bool sf].toArray 133 (0,0))) (hb:Sl w [rb] 1 Ab bs.length cb (bs.map I)) (hbv:sf=false→isBytes bs=true) (hsa:sa≤bs.length) (hn:0≤n∧n≤2):Does Tryz.prog 153 [pB rb,I n] w (fun v w'=>∃ qa:Nat,∃ qf:Bool,v=.int .i64 (ofB (tkL bs (sa,sf) n.toNat))∧(qa≤bs.length)∧((qf=false→isBytes bs=true))∧((qa,qf)=tkS bs (sa,sf) n.toNat)∧SH w w' [rb] [.blk rb 133 [.slice Ab bs.length cb,I (qa:Int),.bool qf]]):=by
 refine fE (N:=9) Tryz.func153 r0 (by kernel_rfl) r0 ?_
 have hb_m:bs.length≤9223372036854775807:=Nat.le_trans hb.cap hb.capMax
 have hs0:=SH.entry1 hr
 refine sr (tA (I 0) r0 (nx (tm (pB rb) r0 ?_)))
 refine tm (I n) r0 (cL r0 (rdTake (rb:=rb) (Ab:=Ab) (cb:=cb) (bs:=bs) (sa:=sa) (sf:=sf) (n:=n) (w:=_) (hr:=(blk_heap hs0 0 r0)) (hb:=(hb.up hs0 (fun _ h=>h) (fun _ h=>.inl h))) (hbv:=(by assumption)) (hsa:=(by assumption)) (hn:=(by omega))) ?_)
 rintro _ w1 ⟨A1,c1,qa1,qf1,rfl,p1,p2,p3,hs1⟩
 replace hs1:=hs0.cK [0] [] hs1 r0
 refine cL r0 (iNumber (Azs:=A1) (czs:=c1) (zs:=tkL bs (sa,sf) n.toNat) (w:=_) (hzs:=(hs1.sl0 1 r0)) (hz:=(by exact tkL_byte hbv)) (hzl:=(by(simp; omega)))) ?_
 rintro _ w2 ⟨rfl,hs2⟩
 replace hs2:=hs1.call0 hs2
 refine tA (I (ofB (tkL bs (sa,sf) n.toNat))) r0 (nn (rt (fT (I (ofB (tkL bs (sa,sf) n.toNat))) r0 ?_)))
 exact⟨qa1,qf1,rfl,(by assumption),(by assumption),(by assumption),(hs2.pk [0] r0)⟩
theorem rdExpect {rb:Nat} {Ab:Option Addr} {cb:Nat} (bs:List Int) (sa:Nat) (sf:Bool) {Aws:Option Addr} {cws:Nat} (ws:List Int) (w:World) (hr:w.heap[rb]?=some (.cells [.slice Ab bs.length cb,.int .i64 (sa:Int),.bool sf].toArray 133 (0,0))) (hb:Sl w [rb] 1 Ab bs.length cb (bs.map I)) (hbv:sf=false→isBytes bs=true) (hsa:sa≤bs.length) (hws:Sl w [rb] 1 Aws ws.length cws (ws.map I)) (hw:ws.length≤65535):Does Tryz.prog 118 [pB rb,.slice Aws ws.length cws] w (fun v w'=>∃ qa:Nat,∃ qf:Bool,v=.tuple #[]∧(qa≤bs.length)∧((qf=false→isBytes bs=true))∧((qa,qf)=exS bs (sa,sf) ws)∧SH w w' [rb] [.blk rb 133 [.slice Ab bs.length cb,I (qa:Int),.bool qf]]):=by
 refine fE (N:=14) Tryz.func118 r0 (by kernel_rfl) r0 ?_
 have hb_m:bs.length≤9223372036854775807:=Nat.le_trans hb.cap hb.capMax
 have hs0:=SH.entry1 hr
 have hws_m:ws.length≤9223372036854775807:=Nat.le_trans hws.cap hws.capMax
 refine sr (tm (pB rb) r0 (tm (Z4 Aws ws cws) r0 (qt r0 (lnA (n:=ws.length) sl22 r0) (cL r0 (rdTake (rb:=rb) (Ab:=Ab) (cb:=cb) (bs:=bs) (sa:=sa) (sf:=sf) (n:=(ws.length:Int)) (w:=_) (hr:=(blk_heap hs0 0 r0)) (hb:=(hb.up hs0 (fun _ h=>h) (fun _ h=>.inl h))) (hbv:=(by assumption)) (hsa:=(by assumption)) (hn:=(by omega))) ?_))))
 rintro _ w1 ⟨A1,c1,qa1,qf1,rfl,p1,p2,p3,hs1⟩
 replace hs1:=hs0.cK [0] [] hs1 r0
 refine tm (Z4 Aws ws cws) r0 (cL r0 (slEqual (Axs:=A1) (cxs:=c1) (xs:=tkL bs (sa,sf) (ws.length:Int).toNat) (Abs:=Aws) (cbs:=cws) (bs:=ws) (w:=_) (hxs:=(hs1.sl0 1 r0)) (hbs:=(hws.up hs1 (fun _ h=>h) (by simp)))) ?_)
 rintro _ w2 ⟨rfl,hs2⟩
 replace hs2:=hs1.call0 hs2
 refine qt r0 (nd (p:=(tkL bs (sa,sf) (ws.length:Int).toNat)=ws) r0) (nn ?_)
 refine cdd (p:=¬ ((tkL bs (sa,sf) (ws.length:Int).toNat)=ws)) r0 (fun h1=>?_) (fun h1=>?_)
 ·refine rg (tm (pB rb) r0 (tn r0 (qt r0 (fa 2 fo133_2 r0) (sT (.bool true) hs2 0 r0 one4 (fun w3 hs3=>?_)))))
  refine nl (fnor (v:=.tuple #[]) .nil r0 ?_)
  exact⟨qa1,true,rfl,(by assumption),(by(simp_all; done)),(by exact exS_no (by assumption) (by simpa using h1)),(hs3.pk [1] r0)⟩
 ·refine sk (fnor (v:=.tuple #[]) .nil r0 ?_)
  exact⟨qa1,qf1,rfl,(by assumption),(by assumption),(by exact exS_y (by assumption) (by simpa using h1)),(hs2.pk [0] r0)⟩
theorem iBytesText {Azs:Option Addr} {czs:Nat} (zs:List Int) (w:World) (hzs:Sl w [] 1 Azs zs.length czs (zs.map I)) (hz: ∀ x∈zs,0≤x∧x≤255) (hzl:zs.length≤65535):Does Tryz.prog 173 [.slice Azs zs.length czs] w (fun v w'=>v=Str (bT zs)∧SH w w' [] []):=by
 refine fE (N:=24) Tryz.func173 r0 (by kernel_rfl) r0 ?_
 have hs0:=SH.refl w []
 have hzs_m:zs.length≤9223372036854775807:=Nat.le_trans hzs.cap hzs.capMax
 refine sr (tA (Str []) r0 (nx (tm (Z4 Azs zs czs) r0 ?_)))
 refine qt r0 (lnA (n:=zs.length) sl22 r0) (mkm (g:=U) (z:=0) (n:=zs.length) hs0 sl39 r0 r0 r0 (by omega) (by unfold maxLen; omega) trivial r0 (fun b1 w1 hs1=>?_))
 refine tA (sb b1 ((List.replicate zs.length (0:UInt8)).length) zs.length) r0 (nn (sq (sr (tm (Z4 Azs zs czs) r0 (qt r0 (lnA (n:=zs.length) sl22 r0) ?_)))))
 refine tm (I 0) r0 (nn (bl ?_))
 have e1:List.replicate zs.length (0:UInt8)=(bT zs).take 0++List.replicate (zs.length-0) (0:UInt8):=by simp
 have e2:(List.replicate zs.length (0:UInt8)).length=zs.length:=by(simp; done)
 refine lp (σ:=Nat) (fun(k:Nat) f w'=>Hz f [(3,sb b1 zs.length zs.length),(9,.slice Azs zs.length czs),(10,I (zs.length:Int)),(11,I (k:Int))]∧(k≤zs.length)∧SH w w' [] [.own (Z2 b1) zs.length zs.length 5 1 (((bT zs).take k++List.replicate (zs.length-k) (0:UInt8)).map U)]) (fun k=>zs.length-k) 0 ⟨(zH ⟨(show (.slice (Z2 b1) ((List.replicate zs.length (0:UInt8)).length) zs.length:Value)=.slice (Z2 b1) zs.length zs.length from slv r0 e2 r0),rfl,rfl,rfl,trivial⟩),(by simp),(hs1.cast (lc (own_eq (g:=U) r0 e2 r0 e1) r0))⟩ ?_
 rintro k f w2 ⟨⟨g1,rfl⟩,hk,hs2⟩
 refine sr (qt r0 (lss (k:=.i64) (a:=(k:Int)) (b:=(zs.length:Int)) r0 r0) (nn (sq ?_)))
 refine cdd (p:=(k:Int)<(zs.length:Int)) r0 (fun h1=>?_) (fun h1=>?_)
 ·refine sk (nN (sq (bl (sr (tm (I (k:Int)) r0 (ixw1 k sl22 r0 r0 hzs (by omega) (getm I 0 (by omega)) trivial r0 (fun a1 ha1=>?_)))))))
  refine qt r0 (lda (v:=I (zs.getD k 0)) hs2 ha1 (fun _ h=>h) r0 r0 one3) (tA (I (k:Int)) r0 (tA (I (zs.getD k 0)) r0 (nn (rg (tm (sb b1 zs.length zs.length) r0 (tm (I (k:Int)) r0 ?_))))))
  refine tm (I (zs.getD k 0)) r0 (qt r0 (cvB (a:=zs.getD k 0) (s:=.i64) ti3 ti5 r0 (by have hgb:=getD_byte hz k; omega) (by have hgb:=getD_byte hz k; omega)) (qt r0 (ixo k sl39 r0 r0 (by omega)) (stomn (g:=U) (ys:=(bT zs).take k++List.replicate (zs.length-k) (0:UInt8)) (o:=k) (u:=(UInt8.ofNat (zs.getD k 0).toNat)) hs2 0 r0 r0 r0 r0 (by omega) r0 one5 trivial (fun w3 hs3=>?_))))
  refine nl (bN (nN (rg (qt r0 (add (a:=(k:Int)) (b:=1) r0 r0 (by exact⟨by omega,by omega⟩)) (tm (I ((k:Int)+1)) r0 (nn ?_))))))
  have e3:((bT zs).take k++List.replicate (zs.length-k) (0:UInt8)).set k (UInt8.ofNat (zs.getD k 0).toNat)=(bT zs).take (k+1)++List.replicate (zs.length-(k+1)) (0:UInt8):=by exact bT_set (by omega)
  refine⟨(k+1),⟨(zR r0),(by omega),(hs3.cast (lc (own_eq (g:=U) r0 r0 r0 e3) r0))⟩,?_⟩
  omega
 ·refine ex (tE (tE (bE ?_)))
  refine nN (sr (tm (sb b1 zs.length zs.length) r0 ?_))
  have e4:zs.length=((bT zs).take k++List.replicate (zs.length-k) (0:UInt8)).length:=by(simp; omega)
  have hs4:SH w w2 [] [.own (Z2 b1) (((bT zs).take k++List.replicate (zs.length-k) (0:UInt8)).length) zs.length 5 1 (((bT zs).take k++List.replicate (zs.length-k) (0:UInt8)).map U)]:=(hs2.cast (lc (own_eq (g:=U) r0 e4 r0 r0) r0))
  refine re 22 (v:=sb b1 (((bT zs).take k++List.replicate (zs.length-k) (0:UInt8)).length) zs.length) (show (sb b1 zs.length zs.length:Value)=sb b1 (((bT zs).take k++List.replicate (zs.length-k) (0:UInt8)).length) zs.length from slv r0 e4 r0) (qt r0 (cvS (l:=(bT zs).take k++List.replicate (zs.length-k) (0:UInt8)) us39 ti5 st9 r0 (hs4.sl0 0 r0)) (tA (Str ((bT zs).take k++List.replicate (zs.length-k) (0:UInt8))) r0 (nn (rt (fT (Str ((bT zs).take k++List.replicate (zs.length-k) (0:UInt8))) r0 ?_)))))
  have e5:(bT zs).take k++List.replicate (zs.length-k) (0:UInt8)=bT zs:=by have:k=zs.length:=(by omega); subst this; rw[bT_all (Nat.le_refl _)]; simp
  exact⟨(congrArg (Str) e5),(hs4.pk [] r0)⟩

end Go.Proofs.YtjehmnojfpedjaaGreatDoor
